import PyProof.Rows.All
import Wide.All
import OpenK.AllK
import Wide.FinOn
import HandS.ForMost
import HandS.TupAny
import HandS.TupMul
import HandS.Style
import HandS.Star
import HandS.Flow
import HandS.RaiseMore
import HandS.Deep
import HandS.Strs
import HandS.NoneIn
import HandS.Conv
import KE.GoesMore
import HandS.IsInst
import KE.GoesEnum
import KE.GoesZip
import HandS.Zip0
import PySem.Challenge.RW_leastteams_k08_told_rows_by_own_exchange
set_option Elab.async false
set_option linter.all false
set_option maxRecDepth 100000
set_option maxHeartbeats 4000000
set_option autoImplicit false
namespace DL
open PySem PySem.Spec PyProof.Rows L2

/-! # data, their heap, and how they lie in the abstract heap -/
inductive D where
  | non | bl (b : Bool) | int (i : Int) | str (x : Str)
  | tup (xs : List D) | lv (xs : List D) | scr (xs : List D) | ob (n : Nat)
inductive MO where
  | lst (xs : List D) | dic (kvs : List (Key × D))
abbrev MH := List MO
abbrev Env := List (Option D)

/-- where the objects stand; what no value may refer to -/
structure Wd where
  mu : List Addr
  rho : List Addr
abbrev Wd.add (μ : Wd) (p : Addr) : Wd := ⟨μ.mu ++ [p], μ.rho⟩
abbrev H0 : Hp := fun _ => none
def SqSI (K : PySem.W.Frag) (μ : Wd) (H : Hp) (a : Addr) (vs : List V) : Prop := ((∃ o, H a = some (.frz o (.lst vs))) ∧ a ∉ μ.mu) ∨ SqL K H0 a vs
def SqTI (K : PySem.W.Frag) (μ : Wd) (H : Hp) (a : Addr) (vs : List V) : Prop := (Rd H a (.tup vs) ∧ a ∉ μ.mu) ∨ SqT K H0 a vs
mutual
inductive RD (K : PySem.W.Frag) (μ : Wd) (H : Hp) : D → V → Prop
  | non : RD K μ H .non .non
  | bl (b : Bool) : RD K μ H (.bl b) (.bl b)
  | int (i : Int) : RD K μ H (.int i) (.int i)
  | str (x : Str) : RD K μ H (.str x) (.str x)
  | tup {a : Addr} {vs : List V} {ds : List D} : SqTI K μ H a vs → RDs K μ H ds vs → RD K μ H (.tup ds) (.ref a)
  | lv {a : Addr} {vs : List V} {ds : List D} : H a = some (.lst vs) → a ∉ μ.mu → a ∉ μ.rho → RDs K μ H ds vs → RD K μ H (.lv ds) (.ref a)
  | scr {a : Addr} {vs : List V} {ds : List D} : SqSI K μ H a vs → RDs K μ H ds vs → RD K μ H (.scr ds) (.ref a)
  | ob {a : Addr} {n : Nat} : μ.mu[n]? = some a → RD K μ H (.ob n) (.ref a)
inductive RDs (K : PySem.W.Frag) (μ : Wd) (H : Hp) : List D → List V → Prop
  | nil : RDs K μ H [] []
  | cons {d : D} {v : V} {ds : List D} {vs : List V} : RD K μ H d v → RDs K μ H ds vs → RDs K μ H (d :: ds) (v :: vs)
end
structure Ext (μ : Wd) (H : Hp) (μ' : Wd) (H' : Hp) : Prop where
  keep : ∀ a o, H a = some o → a ∉ μ.mu → H' a = some o ∧ a ∉ μ'.mu ∧ (a ∉ μ.rho → a ∉ μ'.rho)
  pre : ∃ r, μ'.mu = μ.mu ++ r
  rho : ∀ a ∈ μ.rho, a ∈ μ'.rho
theorem Ext.refl (μ : Wd) (H : Hp) : Ext μ H μ H := ⟨fun _ _ h n => ⟨h, n, fun z => z⟩, ⟨[], by simp⟩, fun _ z => z⟩
theorem Ext.trans {μ μ1 μ2 : Wd} {H H1 H2 : Hp} (a : Ext μ H μ1 H1) (b : Ext μ1 H1 μ2 H2) : Ext μ H μ2 H2 :=
  ⟨fun c o h n => let ⟨h1, n1, m1⟩ := a.keep c o h n; let ⟨h2, n2, m2⟩ := b.keep c o h1 n1; ⟨h2, n2, fun z => m2 (m1 z)⟩, by
    obtain ⟨r, h1⟩ := a.pre
    obtain ⟨r', h2⟩ := b.pre
    exact ⟨r ++ r', by rw [h2, h1, List.append_assoc]⟩, fun c z => b.rho c (a.rho c z)⟩
theorem Ext.get {μ μ' : Wd} {H H' : Hp} (x : Ext μ H μ' H') {n : Nat} {a : Addr} (h : μ.mu[n]? = some a) : μ'.mu[n]? = some a := by
  obtain ⟨r, e⟩ := x.pre
  have hn : n < μ.mu.length := (List.getElem?_eq_some_iff.mp h).1
  rw [e, List.getElem?_append_left hn]; exact h
theorem Ext.rd_ {μ μ' : Wd} {H H' : Hp} (x : Ext μ H μ' H') {a : Addr} {u : HO} (h : Rd H a u) (n : a ∉ μ.mu) : Rd H' a u ∧ a ∉ μ'.mu := by
  rcases h with h | ⟨o, h⟩
  · obtain ⟨h1, h2, _⟩ := x.keep _ _ h n; exact ⟨.inl h1, h2⟩
  · obtain ⟨h1, h2, _⟩ := x.keep _ _ h n; exact ⟨.inr ⟨o, h1⟩, h2⟩
theorem Ext.lst {K : PySem.W.Frag} {μ μ' : Wd} {H H' : Hp} (x : Ext μ H μ' H') {a : Addr} {vs : List V} (h : SqSI K μ H a vs) : SqSI K μ' H' a vs := by
  rcases h with ⟨⟨o, h⟩, n⟩ | h
  · obtain ⟨h1, h2, _⟩ := x.keep _ _ h n; exact .inl ⟨⟨o, h1⟩, h2⟩
  · exact .inr h
theorem Ext.tpl {K : PySem.W.Frag} {μ μ' : Wd} {H H' : Hp} (x : Ext μ H μ' H') {a : Addr} {vs : List V} (h : SqTI K μ H a vs) : SqTI K μ' H' a vs := by
  rcases h with ⟨h, n⟩ | h
  · obtain ⟨h1, h2⟩ := x.rd_ h n; exact .inl ⟨h1, h2⟩
  · exact .inr h
mutual
theorem RD.mono {K : PySem.W.Frag} {μ μ' : Wd} {H H' : Hp} (x : Ext μ H μ' H') : ∀ {d : D} {v : V}, RD K μ H d v → RD K μ' H' d v
  | _, _, .non => .non
  | _, _, .bl b => .bl b
  | _, _, .int i => .int i
  | _, _, .str s => .str s
  | _, _, .tup h r => .tup (x.tpl h) (RDs.mono x r)
  | _, _, .lv h n m r => .lv (x.keep _ _ h n).1 (x.keep _ _ h n).2.1 ((x.keep _ _ h n).2.2 m) (RDs.mono x r)
  | _, _, .scr h r => .scr (x.lst h) (RDs.mono x r)
  | _, _, .ob h => .ob (x.get h)
theorem RDs.mono {K : PySem.W.Frag} {μ μ' : Wd} {H H' : Hp} (x : Ext μ H μ' H') : ∀ {d : List D} {v : List V}, RDs K μ H d v → RDs K μ' H' d v
  | _, _, .nil => .nil
  | _, _, .cons h r => .cons (RD.mono x h) (RDs.mono x r)
end
theorem RDs.length {K : PySem.W.Frag} {μ : Wd} {H : Hp} : ∀ {ds : List D} {vs : List V}, RDs K μ H ds vs → ds.length = vs.length
  | _, _, .nil => rfl
  | _, _, .cons _ r => by rw [List.length_cons, List.length_cons, RDs.length r]
theorem RDs.get {K : PySem.W.Frag} {μ : Wd} {H : Hp} : ∀ {ds : List D} {vs : List V} {i : Nat} {d : D}, RDs K μ H ds vs → ds[i]? = some d → ∃ v, vs[i]? = some v ∧ RD K μ H d v
  | _, _, _, _, .nil, h => by simp at h
  | _, _, 0, _, .cons h _, e => by simp at e; subst e; exact ⟨_, rfl, h⟩
  | _, _, i + 1, _, .cons _ r, e => by
    obtain ⟨v, h1, h2⟩ := RDs.get r (i := i) (by simpa using e)
    exact ⟨v, by simpa using h1, h2⟩
theorem RDs.getV {K : PySem.W.Frag} {μ : Wd} {H : Hp} : ∀ {ds : List D} {vs : List V} {i : Nat} {v : V}, RDs K μ H ds vs → vs[i]? = some v → ∃ d, ds[i]? = some d ∧ RD K μ H d v
  | _, _, _, _, .nil, h => by simp at h
  | _, _, 0, _, .cons h _, e => by simp at e; subst e; exact ⟨_, rfl, h⟩
  | _, _, i + 1, _, .cons _ r, e => by
    obtain ⟨v, h1, h2⟩ := RDs.getV r (i := i) (by simpa using e)
    exact ⟨v, by simpa using h1, h2⟩
theorem RDs.append {K : PySem.W.Frag} {μ : Wd} {H : Hp} : ∀ {ds es : List D} {vs ws : List V}, RDs K μ H ds vs → RDs K μ H es ws → RDs K μ H (ds ++ es) (vs ++ ws)
  | _, _, _, _, .nil, s => s
  | _, _, _, _, .cons h r, s => .cons h (RDs.append r s)
theorem RDs.take {K : PySem.W.Frag} {μ : Wd} {H : Hp} : ∀ (n : Nat) {ds : List D} {vs : List V}, RDs K μ H ds vs → RDs K μ H (ds.take n) (vs.take n)
  | 0, _, _, _ => by simpa using RDs.nil
  | _ + 1, _, _, .nil => by simpa using RDs.nil
  | n + 1, _, _, .cons h r => by simpa using RDs.cons h (RDs.take n r)
theorem RDs.drop {K : PySem.W.Frag} {μ : Wd} {H : Hp} : ∀ (n : Nat) {ds : List D} {vs : List V}, RDs K μ H ds vs → RDs K μ H (ds.drop n) (vs.drop n)
  | 0, _, _, h => by simpa using h
  | _ + 1, _, _, .nil => by simpa using RDs.nil
  | n + 1, _, _, .cons _ r => by simpa using RDs.drop n r
theorem RDs.setAt {K : PySem.W.Frag} {μ : Wd} {H : Hp} {d : D} {v : V} (h : RD K μ H d v) : ∀ (n : Nat) {ds : List D} {vs : List V}, RDs K μ H ds vs → RDs K μ H (ds.set n d) (vs.set n v)
  | _, _, _, .nil => by simpa using RDs.nil
  | 0, _, _, .cons _ r => by simpa using RDs.cons h r
  | n + 1, _, _, .cons h' r => by simpa using RDs.cons h' (RDs.setAt h n r)
theorem RDs.dropLast {K : PySem.W.Frag} {μ : Wd} {H : Hp} {ds : List D} {vs : List V} (h : RDs K μ H ds vs) : RDs K μ H ds.dropLast vs.dropLast := by
  rw [List.dropLast_eq_take, List.dropLast_eq_take, h.length]; exact h.take _
theorem RDs.one {K : PySem.W.Frag} {μ : Wd} {H : Hp} {d : D} {v : V} (h : RD K μ H d v) : RDs K μ H [d] [v] := .cons h .nil
theorem RDs.erase {K : PySem.W.Frag} {μ : Wd} {H : Hp} : ∀ (n : Nat) {ds : List D} {vs : List V}, RDs K μ H ds vs → RDs K μ H (ds.eraseIdx n) (vs.eraseIdx n)
  | _, _, _, .nil => by simpa using RDs.nil
  | 0, _, _, .cons _ r => by simpa using r
  | n + 1, _, _, .cons h' r => by simpa using RDs.cons h' (RDs.erase n r)

def RK (K : PySem.W.Frag) (μ : Wd) (H : Hp) : List (Key × D) → List (Key × V) → Prop := Paired fun p q => p.1 = q.1 ∧ RD K μ H p.2 q.2
theorem RK.mono {K : PySem.W.Frag} {μ μ' : Wd} {H H' : Hp} (x : Ext μ H μ' H') {a : List (Key × D)} {b : List (Key × V)} (h : RK K μ H a b) : RK K μ' H' a b :=
  Paired.mapP h fun _ _ z => ⟨z.1, z.2.mono x⟩
def RO (K : PySem.W.Frag) (μ : Wd) (H : Hp) : MO → Addr → Prop
  | .lst ds, a => ∃ vs, H a = some (.lst vs) ∧ RDs K μ H ds vs
  | .dic kvs, a => ∃ ws, H a = some (.dK ws) ∧ RK K μ H kvs ws
theorem RO.some {K : PySem.W.Frag} {μ : Wd} {H : Hp} {o : MO} {a : Addr} (h : RO K μ H o a) : ∃ u, H a = some u ∧ Mut (some u) := by
  cases o with
  | lst ds => obtain ⟨vs, h, _⟩ := h; exact ⟨_, h, trivial⟩
  | dic kvs => obtain ⟨vs, h, _⟩ := h; exact ⟨_, h, trivial⟩
/-- the same object, the rest of the heap moved on -/
theorem RO.mono {K : PySem.W.Frag} {μ μ' : Wd} {H H' : Hp} (x : Ext μ H μ' H') {o : MO} {a : Addr} (h : RO K μ H o a) (e : H' a = H a) : RO K μ' H' o a := by
  cases o with
  | lst ds => obtain ⟨vs, h, r⟩ := h; exact ⟨vs, e.trans h, r.mono x⟩
  | dic kvs => obtain ⟨vs, h, r⟩ := h; exact ⟨vs, e.trans h, r.mono x⟩
structure SimH (K : PySem.W.Frag) (h : MH) (μ : Wd) (H : Hp) : Prop where
  len : μ.mu.length = h.length
  nd : μ.mu.Nodup
  at_ : ∀ (n : Nat) (o : MO), h[n]? = some o → ∃ a, μ.mu[n]? = some a ∧ RO K μ H o a
  rs : ∀ a ∈ μ.rho, (∃ u, H a = some u) ∧ a ∉ μ.mu
theorem SimH.mem {K : PySem.W.Frag} {h : MH} {μ : Wd} {H : Hp} (s : SimH K h μ H) {a : Addr} (m : a ∈ μ.mu) : ∃ (n : Nat) (o : MO), h[n]? = some o ∧ μ.mu[n]? = some a ∧ RO K μ H o a := by
  obtain ⟨n, hn, e⟩ := List.getElem_of_mem m
  have hn' : n < h.length := by rw [← s.len]; exact hn
  obtain ⟨b, hb, r⟩ := s.at_ n h[n] (List.getElem?_eq_getElem hn')
  have : μ.mu[n]? = some a := by rw [List.getElem?_eq_getElem hn, e]
  rw [this] at hb; cases hb
  exact ⟨n, _, List.getElem?_eq_getElem hn', this, r⟩
theorem SimH.fresh {K : PySem.W.Frag} {h : MH} {μ : Wd} {H : Hp} (s : SimH K h μ H) {p : Addr} (hp : H p = none) : p ∉ μ.mu := fun m => by
  obtain ⟨n, o, _, _, r⟩ := s.mem m
  obtain ⟨u, hu, _⟩ := r.some
  rw [hp] at hu; cases hu
theorem SimH.freshR {K : PySem.W.Frag} {h : MH} {μ : Wd} {H : Hp} (s : SimH K h μ H) {p : Addr} (hp : H p = none) : p ∉ μ.rho := fun m => by
  obtain ⟨⟨u, hu⟩, _⟩ := s.rs p m
  rw [hp] at hu; cases hu
/-- something new is laid -/
theorem Ext.new {μ : Wd} {H : Hp} {p : Addr} {o : HO} (hp : H p = none) : Ext μ H μ (upd H p o) :=
  ⟨fun a u e n => ⟨by rw [upd_ne (ne_of_none e hp)]; exact e, n, fun z => z⟩, ⟨[], by simp⟩, fun _ z => z⟩
theorem SimH.new {K : PySem.W.Frag} {h : MH} {μ : Wd} {H : Hp} (s : SimH K h μ H) {p : Addr} {o : HO} (hp : H p = none) : SimH K h μ (upd H p o) :=
  ⟨s.len, s.nd, fun n u e => by
    obtain ⟨a, ha, r⟩ := s.at_ n u e
    refine ⟨a, ha, r.mono (Ext.new hp) ?_⟩
    have : a ≠ p := fun z => s.fresh hp (z ▸ List.mem_of_getElem? ha)
    rw [upd_ne this], fun a m => by
    obtain ⟨⟨u, hu⟩, n⟩ := s.rs a m
    exact ⟨⟨u, by rw [upd_ne (ne_of_none hu hp)]; exact hu⟩, n⟩⟩
theorem nodup_get {l : List Addr} (nd : l.Nodup) {i j : Nat} {a : Addr} (h1 : l[i]? = some a) (h2 : l[j]? = some a) : i = j := by
  exact (List.getElem?_inj (List.getElem?_eq_some_iff.mp h1).1 nd).mp (h1.trans h2.symm)
theorem Ext.obj {μ : Wd} {H : Hp} {p : Addr} {o : HO} (hp : H p = none) : Ext μ H (μ.add p) (upd H p o) :=
  ⟨fun a u e n => ⟨by rw [upd_ne (ne_of_none e hp)]; exact e, by
    have : a ≠ p := ne_of_none e hp
    simp only [List.mem_append, List.mem_singleton, not_or]; exact ⟨n, this⟩, fun z => z⟩, ⟨[p], rfl⟩, fun _ z => z⟩
theorem SimH.obj {K : PySem.W.Frag} {h : MH} {μ : Wd} {H : Hp} (s : SimH K h μ H) {p : Addr} {o : HO} {m : MO} (hp : H p = none) (r : RO K (μ.add p) (upd H p o) m p) : SimH K (h ++ [m]) (μ.add p) (upd H p o) := by
  have hf := s.fresh hp
  refine ⟨by rw [List.length_append, List.length_append, s.len, List.length_singleton, List.length_singleton], ?_, fun n u e => ?_, fun a m => ?_⟩
  · rw [List.nodup_append]
    exact ⟨s.nd, by simp, fun a ha b hb z => by simp at hb; subst hb; subst z; exact hf ha⟩
  · by_cases hn : n < h.length
    · rw [List.getElem?_append_left hn] at e
      obtain ⟨a, ha, q⟩ := s.at_ n u e
      have : a ≠ p := fun z => hf (z ▸ List.mem_of_getElem? ha)
      exact ⟨a, (Ext.obj (o := o) hp).get ha, q.mono (Ext.obj hp) (by rw [upd_ne this])⟩
    · have hn2 : n = h.length := by
        have := (List.getElem?_eq_some_iff.mp e).1
        rw [List.length_append, List.length_singleton] at this; omega
      subst hn2
      rw [List.getElem?_append_right (Nat.le_refl _), Nat.sub_self] at e
      have e' : m = u := by simpa using e
      subst e'
      exact ⟨p, by rw [← s.len, List.getElem?_append_right (Nat.le_refl _), Nat.sub_self]; rfl, r⟩
  · obtain ⟨⟨u, hu⟩, n⟩ := s.rs a m
    have na : a ≠ p := ne_of_none hu hp
    refine ⟨⟨u, by rw [upd_ne na]; exact hu⟩, ?_⟩
    simp only [List.mem_append, List.mem_singleton, not_or]; exact ⟨n, na⟩
/-- an object is changed -/
theorem Ext.chg {μ : Wd} {H : Hp} {a : Addr} {o : HO} (ha : a ∈ μ.mu) : Ext μ H μ (upd H a o) :=
  ⟨fun b u e n => ⟨by rw [upd_ne (fun z : b = a => n (z.symm ▸ ha))]; exact e, n, fun z => z⟩, ⟨[], by simp⟩, fun _ z => z⟩
theorem SimH.chg {K : PySem.W.Frag} {h : MH} {μ : Wd} {H : Hp} (s : SimH K h μ H) {n : Nat} {a : Addr} {o : HO} {m : MO} (ha : μ.mu[n]? = some a) (r : RO K μ (upd H a o) m a) : SimH K (h.set n m) μ (upd H a o) := by
  have hm : a ∈ μ.mu := List.mem_of_getElem? ha
  refine ⟨by rw [List.length_set]; exact s.len, s.nd, fun i u e => ?_, fun b m => ?_⟩
  by_cases hi : i = n
  · subst hi
    have hl : i < h.length := by rw [← s.len]; exact (List.getElem?_eq_some_iff.mp ha).1
    rw [List.getElem?_set_self hl] at e
    cases e
    exact ⟨a, ha, r⟩
  · rw [List.getElem?_set_ne (Ne.symm hi)] at e
    obtain ⟨b, hb, q⟩ := s.at_ i u e
    have : b ≠ a := fun z => hi (nodup_get s.nd (z ▸ hb) ha)
    exact ⟨b, hb, q.mono (Ext.chg hm) (by rw [upd_ne this])⟩
  · obtain ⟨⟨u, hu⟩, n⟩ := s.rs b m
    have : b ≠ a := fun z => n (z ▸ hm)
    exact ⟨⟨u, by rw [upd_ne this]; exact hu⟩, n⟩

structure RE (K : PySem.W.Frag) (μ : Wd) (H : Hp) (env : Env) (σ : L2.St) : Prop where
  len : env.length = σ.length
  at_ : ∀ (i : Nat) (d : D), env[i]? = some (some d) → ∃ v, σ[i]? = some (some v) ∧ RD K μ H d v
theorem RE.mono {K : PySem.W.Frag} {μ μ' : Wd} {H H' : Hp} (x : Ext μ H μ' H') {env : Env} {σ : L2.St} (r : RE K μ H env σ) : RE K μ' H' env σ :=
  ⟨r.len, fun i d e => let ⟨v, h1, h2⟩ := r.at_ i d e; ⟨v, h1, h2.mono x⟩⟩
theorem RE.set {K : PySem.W.Frag} {μ : Wd} {H : Hp} {env : Env} {σ : L2.St} (r : RE K μ H env σ) (i : Nat) {d : D} {v : V} (h : RD K μ H d v) : RE K μ H (env.set i (some d)) (σ.set i (some v)) := by
  refine ⟨by rw [List.length_set, List.length_set]; exact r.len, fun j e he => ?_⟩
  by_cases hj : j = i
  · subst hj
    by_cases hl : j < env.length
    · rw [List.getElem?_set_self hl] at he
      cases he
      exact ⟨v, List.getElem?_set_self (by rw [← r.len]; exact hl), h⟩
    · rw [List.getElem?_eq_none (by rw [List.length_set]; omega)] at he; cases he
  · rw [List.getElem?_set_ne (Ne.symm hj)] at he
    obtain ⟨w, h1, h2⟩ := r.at_ j e he
    exact ⟨w, by rw [List.getElem?_set_ne (Ne.symm hj)]; exact h1, h2⟩
structure Sm (K : PySem.W.Frag) (env : Env) (h : MH) (μ : Wd) (σ : L2.St) (H : Hp) : Prop where
  re : RE K μ H env σ
  sh : SimH K h μ H

/-! # readings over data -/
abbrev DK := D → MH → Prop
abbrev DW := Env → MH → DK → Prop
abbrev DT := Env → MH → (Bool → MH → Prop) → Prop
abbrev DA := Env → MH → (List D → MH → Prop) → Prop
structure EndsD where
  nx : Env → MH → Prop
  rt : DK
  bk : Env → MH → Prop := fun _ _ => False
  ct : Env → MH → Prop := fun _ _ => False
abbrev DS := EndsD → Env → MH → Prop
def LkE (K : PySem.W.Frag) (P : DK) (μ : Wd) (H : Hp) (Q : VK) : Prop := ∀ d h' v μ' H', P d h' → Ext μ H μ' H' → SimH K h' μ' H' → RD K μ' H' d v → Q v H'
def rd (K : PySem.W.Frag) (w : DW) : TE := fun σ H Q => ∃ env h μ P, Sm K env h μ σ H ∧ w env h P ∧ LkE K P μ H Q
def rdT (K : PySem.W.Frag) (w : DT) : TT := fun σ H Q => ∃ env h μ P, Sm K env h μ σ H ∧ w env h P ∧ ∀ b h' μ' H', P b h' → Ext μ H μ' H' → SimH K h' μ' H' → Q b H'
def rdA (K : PySem.W.Frag) (w : DA) : TA := fun σ H Q => ∃ env h μ P, Sm K env h μ σ H ∧ w env h P ∧ ∀ ds h' vs μ' H', P ds h' → Ext μ H μ' H' → SimH K h' μ' H' → RDs K μ' H' ds vs → Q vs H'
def LkS (K : PySem.W.Frag) (P : Env → MH → Prop) (μ : Wd) (H : Hp) (Q : L2.St → Hp → Prop) : Prop := ∀ env' h' μ' σ' H', P env' h' → Ext μ H μ' H' → Sm K env' h' μ' σ' H' → Q σ' H'
structure Lk (K : PySem.W.Frag) (E : EndsD) (μ : Wd) (H : Hp) (Dn : Ends) : Prop where
  nx : LkS K E.nx μ H Dn.nx
  rt : LkE K E.rt μ H Dn.rt
  bk : LkS K E.bk μ H Dn.bk
  ct : LkS K E.ct μ H Dn.ct
def rdS (K : PySem.W.Frag) (w : DS) : TS := fun Dn σ H => ∃ env h μ E, Sm K env h μ σ H ∧ w E env h ∧ Lk K E μ H Dn
theorem LkE.ext {K : PySem.W.Frag} {P : DK} {μ μ' : Wd} {H H' : Hp} {Q : VK} (l : LkE K P μ H Q) (x : Ext μ H μ' H') : LkE K P μ' H' Q :=
  fun d h v μ2 H2 p x2 s r => l d h v μ2 H2 p (x.trans x2) s r
theorem LkS.ext {K : PySem.W.Frag} {P : Env → MH → Prop} {μ μ' : Wd} {H H' : Hp} {Q : L2.St → Hp → Prop} (l : LkS K P μ H Q) (x : Ext μ H μ' H') : LkS K P μ' H' Q :=
  fun e h μ2 σ2 H2 p x2 s => l e h μ2 σ2 H2 p (x.trans x2) s
theorem Lk.ext {K : PySem.W.Frag} {E : EndsD} {μ μ' : Wd} {H H' : Hp} {Dn : Ends} (l : Lk K E μ H Dn) (x : Ext μ H μ' H') : Lk K E μ' H' Dn :=
  ⟨l.nx.ext x, l.rt.ext x, l.bk.ext x, l.ct.ext x⟩
theorem LkE.refl {K : PySem.W.Frag} {μ : Wd} {H : Hp} {P : DK} : LkE K P μ H (fun v H' => ∃ d h' μ', P d h' ∧ Ext μ H μ' H' ∧ SimH K h' μ' H' ∧ RD K μ' H' d v) :=
  fun d h' v μ' H' p x s r => ⟨d, h', μ', p, x, s, r⟩

def PD (X : Cx) (e : Expr) (w : DW) : Prop := PE X e (rd X.K w)
def PDT (X : Cx) (e : Expr) (w : DT) : Prop := PT X e (rdT X.K w)
def PDA (X : Cx) (es : List Expr) (w : DA) : Prop := PA X es (rdA X.K w)
def PDS (X : Cx) (st : Stmt) (w : DS) : Prop := PS X st (rdS X.K w)
def PDSs (X : Cx) (st : List Stmt) (w : DS) : Prop := PSs X st (rdS X.K w)
theorem pe_imp {X : Cx} {e : Expr} {t t' : TE} (h : PE X e t) (i : ∀ σ H Q, t' σ H Q → t σ H Q) : PE X e t' := ⟨fun p s σ H Q I q => h.run p s σ H Q I (i σ H Q q)⟩
theorem pt_imp {X : Cx} {e : Expr} {t t' : TT} (h : PT X e t) (i : ∀ σ H Q, t' σ H Q → t σ H Q) : PT X e t' := ⟨fun p s σ H Q I q => h.run p s σ H Q I (i σ H Q q)⟩
theorem pw_imp {X : Cx} {e : Expr} {t t' : TT} (h : PW X e t) (i : ∀ σ H Q, t' σ H Q → t σ H Q) : PW X e t' := ⟨fun w p s σ H Q I q => h.run w p s σ H Q I (i σ H Q q)⟩
theorem pa_imp {X : Cx} {e : List Expr} {t t' : TA} (h : PA X e t) (i : ∀ σ H Q, t' σ H Q → t σ H Q) : PA X e t' := ⟨fun o p s σ H Q I q => h.run o p s σ H Q I (i σ H Q q)⟩
theorem ps_imp {X : Cx} {e : Stmt} {t t' : TS} (h : PS X e t) (i : ∀ E σ H, t' E σ H → t E σ H) : PS X e t' := ⟨fun p s σ H E I q => h.run p s σ H E I (i E σ H q)⟩
theorem pss_imp {X : Cx} {e : List Stmt} {t t' : TS} (h : PSs X e t) (i : ∀ E σ H, t' E σ H → t E σ H) : PSs X e t' := ⟨fun p s σ H E I q => h.run p s σ H E I (i E σ H q)⟩

/-! ## constants, names -/
section
variable {X : Cx}
def wVar (i : Nat) : DW := fun env h Q => ∃ d, env[i]? = some (some d) ∧ Q d h
def wC (d : D) : DW := fun _ h Q => Q d h
theorem pd_var (i : Nat) {x : Str} {pos : Pos} (h : PE X (.Name x pos) (tVar i)) : PD X (.Name x pos) (wVar i) := by
  refine pe_imp h fun σ H Q q => ?_
  obtain ⟨env, hh, μ, P, S, ⟨d, e, p⟩, l⟩ := q
  obtain ⟨v, h1, h2⟩ := S.re.at_ i d e
  exact ⟨v, h1, l d hh v μ H p (Ext.refl _ _) S.sh h2⟩
theorem pd_c {e : Expr} {d : D} {v : V} (h : PE X e (tC v)) (r : ∀ μ H, RD X.K μ H d v) : PD X e (wC d) := by
  refine pe_imp h fun σ H Q q => ?_
  obtain ⟨env, hh, μ, P, S, p, l⟩ := q
  exact l d hh v μ H p (Ext.refl _ _) S.sh (r _ _)
theorem pd_int {i j pos} : PD X (.Constant (.int i) j pos) (wC (.int i)) := pd_c pe_int fun _ _ => .int i
theorem pd_bl {i j pos} : PD X (.Constant (.bool i) j pos) (wC (.bl i)) := pd_c pe_bl fun _ _ => .bl i
theorem pd_non {j pos} : PD X (.Constant .none j pos) (wC .non) := pd_c pe_non fun _ _ => .non
theorem pd_str {i j pos} : PD X (.Constant (.str i) j pos) (wC (.str i)) := pd_c pe_str fun _ _ => .str i

/-! ## arguments, displays -/
def wNil : DA := fun _ h Q => Q [] h
def wCons (w : DW) (ws : DA) : DA := fun env h Q => w env h fun d h1 => ws env h1 fun ds h2 => Q (d :: ds) h2
theorem pda_nil : PDA X [] wNil := by
  refine pa_imp pa_nil fun σ H Q q => ?_
  obtain ⟨env, hh, μ, P, S, p, l⟩ := q
  exact l [] hh [] μ H p (Ext.refl _ _) S.sh .nil
theorem pda_cons {e : Expr} {es : List Expr} {w : DW} {ws : DA} (ha : PD X e w) (hr : PDA X es ws) (hs : starEach (e :: es) X.env = (false, eval e X.env) :: starEach es X.env := by rfl) : PDA X (e :: es) (wCons w ws) := by
  refine pa_imp (pa_cons ha hr hs) fun σ H Q q => ?_
  obtain ⟨env, hh, μ, P, S, p, l⟩ := q
  refine ⟨env, hh, μ, _, S, p, fun d h1 v μ1 H1 p1 x1 s1 r1 => ?_⟩
  refine ⟨env, h1, μ1, _, ⟨S.re.mono x1, s1⟩, p1, fun ds h2 vs μ2 H2 p2 x2 s2 r2 => ?_⟩
  exact l (d :: ds) h2 (v :: vs) μ2 H2 p2 (x1.trans x2) s2 (.cons (r1.mono x2) r2)
/-- a new tuple; a new list, as a value or as an object -/
def qTup (ds : List D) (h : MH) (Q : DK) : Prop := ds.length ≤ sizeLine ∧ Q (.tup ds) h
def qLst (b : Bool) (ds : List D) (h : MH) (Q : DK) : Prop := bif b then Q (.ob h.length) (h ++ [.lst ds]) else Q (.lv ds) h
theorem qTup.ok {K : PySem.W.Frag} {μ : Wd} {H : Hp} {h : MH} {ds : List D} {vs : List V} {P : DK} {Q : VK} (q : qTup ds h P) (s : SimH K h μ H) (r : RDs K μ H ds vs) (l : LkE K P μ H Q) :
    ∀ p, H p = none → Q (.ref p) (upd H p (.tup vs)) := fun p hp =>
  l _ _ _ μ _ q.2 (Ext.new hp) (s.new hp) (.tup (.inl ⟨.inl upd_same, s.fresh hp⟩) (r.mono (Ext.new hp)))
theorem qLst.ok {K : PySem.W.Frag} {μ : Wd} {H : Hp} {h : MH} {b : Bool} {ds : List D} {vs : List V} {P : DK} {Q : VK} (q : qLst b ds h P) (s : SimH K h μ H) (r : RDs K μ H ds vs) (l : LkE K P μ H Q) :
    ∀ p, H p = none → Q (.ref p) (upd H p (.lst vs)) := fun p hp => by
  cases b with
  | false => exact l _ _ _ μ _ q (Ext.new hp) (s.new hp) (.lv upd_same (s.fresh hp) (s.freshR hp) (r.mono (Ext.new hp)))
  | true =>
    refine l _ _ _ (μ.add p) _ q (Ext.obj hp) (s.obj hp ⟨vs, upd_same, r.mono (Ext.obj hp)⟩) (.ob ?_)
    rw [← s.len, List.getElem?_append_right (Nat.le_refl _), Nat.sub_self]; rfl
def wTup (ws : DA) : DW := fun env h Q => ws env h fun ds h1 => qTup ds h1 Q
def wLst (b : Bool) (ws : DA) : DW := fun env h Q => ws env h fun ds h1 => ds.length ≤ sizeLine ∧ qLst b ds h1 Q
theorem pd_tup {es : List Expr} {ws : DA} {x1} {pos : Pos} (h : PDA X es ws) : PD X (.Tuple es x1 pos) (wTup ws) := by
  refine pe_imp (pe_tup h) fun σ H Q q => ?_
  obtain ⟨env, hh, μ, P, S, p, l⟩ := q
  refine ⟨env, hh, μ, _, S, p, fun ds h1 vs μ1 H1 p1 x1 s1 r1 => ⟨by rw [← r1.length]; exact p1.1, p1.ok s1 r1 (l.ext x1)⟩⟩
theorem pd_lst (b : Bool) {es : List Expr} {ws : DA} {pos : Pos} (h : PDA X es ws) : PD X (.List es pos) (wLst b ws) := by
  refine pe_imp (pe_lst h) fun σ H Q q => ?_
  obtain ⟨env, hh, μ, P, S, p, l⟩ := q
  refine ⟨env, hh, μ, _, S, p, fun ds h1 vs μ1 H1 p1 x1 s1 r1 => ⟨by rw [← r1.length]; exact p1.1, p1.2.ok s1 r1 (l.ext x1)⟩⟩
end
end DL
namespace DL
open PySem PySem.Spec PyProof.Rows L2

/-! # reading lists and tuples -/
/-- a list that may be read -/
def lstAt (h : MH) (n : Nat) : Option (List D) := match h[n]? with
  | some (.lst xs) => some xs
  | _ => none
theorem lstAt_iff {h : MH} {n : Nat} {xs : List D} : lstAt h n = some xs ↔ h[n]? = some (.lst xs) := by
  unfold lstAt
  split
  · rename_i ys e; rw [e]; simp
  · rename_i e
    constructor
    · intro z; cases z
    · intro z; exact absurd z (e xs)
def lstD (h : MH) : D → Option (List D)
  | .lv xs => some xs
  | .ob n => lstAt h n
  | _ => none
def lstR (h : MH) : D → Option (List D)
  | .scr xs => some xs
  | d => lstD h d
def seqD (h : MH) : D → Option (List D)
  | .tup xs => some xs
  | d => lstR h d
section
variable {K : PySem.W.Frag} {μ : Wd} {H : Hp} {h : MH} {d : D} {v : V} {xs : List D}
theorem obL {n : Nat} (s : SimH K h μ H) (r : RD K μ H (.ob n) v) (e : h[n]? = some (.lst xs)) : ∃ a vs, v = .ref a ∧ μ.mu[n]? = some a ∧ H a = some (.lst vs) ∧ RDs K μ H xs vs := by
  obtain ⟨a, ha, vs, hv, q⟩ := s.at_ n _ e
  cases r with
  | ob hb => rw [ha] at hb; cases hb; exact ⟨_, vs, rfl, ha, hv, q⟩
theorem rdLst (s : SimH K h μ H) (r : RD K μ H d v) (e : lstD h d = some xs) : ∃ a vs, v = .ref a ∧ H a = some (.lst vs) ∧ RDs K μ H xs vs := by
  cases d with
  | lv ys =>
    cases e
    cases r with
    | lv h1 h2 _ h3 => exact ⟨_, _, rfl, h1, h3⟩
  | ob n =>
    have e' : h[n]? = some (.lst xs) := lstAt_iff.mp e
    obtain ⟨a, vs, h1, _, h2, h3⟩ := obL s r e'
    exact ⟨a, vs, h1, h2, h3⟩
  | _ => cases e
theorem sqs {a : Addr} {vs : List V} (x : SqSI K μ H a vs) : SqL K H a vs := by
  rcases x with ⟨⟨o, h⟩, _⟩ | h
  · exact .inl (.inr ⟨o, h⟩)
  · rcases h with (h | ⟨_, h⟩) | h
    · cases h
    · cases h
    · exact .inr h
theorem sqt {a : Addr} {vs : List V} (x : SqTI K μ H a vs) : SqT K H a vs := by
  rcases x with ⟨h, _⟩ | h
  · exact .inl h
  · rcases h with (h | ⟨_, h⟩) | h
    · cases h
    · cases h
    · exact .inr h
theorem rdLstR (s : SimH K h μ H) (r : RD K μ H d v) (e : lstR h d = some xs) : ∃ a vs, v = .ref a ∧ SqL K H a vs ∧ RDs K μ H xs vs := by
  by_cases q : ∃ ys, d = .scr ys
  · obtain ⟨ys, rfl⟩ := q
    cases e
    cases r with
    | scr h1 h2 => exact ⟨_, _, rfl, sqs h1, h2⟩
  · have e' : lstD h d = some xs := by
      cases d with
      | scr ys => exact absurd ⟨ys, rfl⟩ q
      | _ => exact e
    obtain ⟨a, vs, h1, h2, h3⟩ := rdLst s r e'
    exact ⟨a, vs, h1, .inl (.inl h2), h3⟩
theorem rdTup (r : RD K μ H (.tup xs) v) : ∃ a vs, v = .ref a ∧ SqT K H a vs ∧ RDs K μ H xs vs := by
  cases r with
  | tup h1 h2 => exact ⟨_, _, rfl, sqt h1, h2⟩
theorem rdSeq (s : SimH K h μ H) (r : RD K μ H d v) (e : seqD h d = some xs) : ∃ a vs, v = .ref a ∧ (SqL K H a vs ∨ SqT K H a vs) ∧ RDs K μ H xs vs := by
  by_cases q : ∃ ys, d = .tup ys
  · obtain ⟨ys, rfl⟩ := q
    cases e
    obtain ⟨a, vs, h1, h2, h3⟩ := rdTup r
    exact ⟨a, vs, h1, .inr h2, h3⟩
  · have e' : lstR h d = some xs := by
      cases d with
      | tup ys => exact absurd ⟨ys, rfl⟩ q
      | _ => exact e
    obtain ⟨a, vs, h1, h2, h3⟩ := rdLstR s r e'
    exact ⟨a, vs, h1, .inl h2, h3⟩
end

/-! # rules by values -/
def rdO (K : PySem.W.Frag) (r : D → D → MH → DK → Prop) : R2 := fun x y H Q => ∃ d e h μ P, SimH K h μ H ∧ RD K μ H d x ∧ RD K μ H e y ∧ r d e h P ∧ LkE K P μ H Q
def rdU (K : PySem.W.Frag) (r : D → MH → DK → Prop) : V → Hp → VK → Prop := fun x H Q => ∃ d h μ P, SimH K h μ H ∧ RD K μ H d x ∧ r d h P ∧ LkE K P μ H Q
def rdC (K : PySem.W.Frag) (r : List D → MH → DK → Prop) : List V → Hp → VK → Prop := fun xs H Q => ∃ ds h μ P, SimH K h μ H ∧ RDs K μ H ds xs ∧ r ds h P ∧ LkE K P μ H Q
def rdM (K : PySem.W.Frag) (r : D → List D → MH → DK → Prop) : V → List V → Hp → VK → Prop := fun x xs H Q => ∃ d ds h μ P, SimH K h μ H ∧ RD K μ H d x ∧ RDs K μ H ds xs ∧ r d ds h P ∧ LkE K P μ H Q
section
variable {X : Cx}
def OpD (X : Cx) (f : Value → Value → Sem Value) (r : D → D → MH → DK → Prop) : Prop := OpR X f (rdO X.K r)
def UnD (X : Cx) (f : Value → Sem Value) (r : D → MH → DK → Prop) : Prop := UnR X f (rdU X.K r)
def CallD (X : Cx) (f : Value) (r : List D → MH → DK → Prop) : Prop := CallR X f (rdC X.K r)
def IxD (X : Cx) (r : D → D → MH → DK → Prop) : Prop := IxR X (rdO X.K r)
def MtD (X : Cx) (id : String) (r : D → List D → MH → DK → Prop) : Prop := MtR X id (rdM X.K r)

def wOp (r : D → D → MH → DK → Prop) (wa wb : DW) : DW := fun env h Q => wa env h fun x h1 => wb env h1 fun y h2 => r x y h2 Q
def wUn (r : D → MH → DK → Prop) (wa : DW) : DW := fun env h Q => wa env h fun x h1 => r x h1 Q
def wCall (r : List D → MH → DK → Prop) (was : DA) : DW := fun env h Q => was env h fun ds h1 => r ds h1 Q
theorem t_op {r : D → D → MH → DK → Prop} {wa wb : DW} {K : PySem.W.Frag} : ∀ σ H Q, rd K (wOp r wa wb) σ H Q → tOp (rdO K r) (rd K wa) (rd K wb) σ H Q := fun σ H Q q => by
  obtain ⟨env, hh, μ, P, S, p, l⟩ := q
  refine ⟨env, hh, μ, _, S, p, fun x h1 v μ1 H1 p1 x1 s1 r1 => ?_⟩
  refine ⟨env, h1, μ1, _, ⟨S.re.mono x1, s1⟩, p1, fun y h2 u μ2 H2 p2 x2 s2 r2 => ?_⟩
  exact ⟨x, y, h2, μ2, P, s2, r1.mono x2, r2, p2, l.ext (x1.trans x2)⟩
theorem pd_op {op : Operator} {a b : Expr} {wa wb : DW} {pos : Pos} {r : D → D → MH → DK → Prop} (ho : OpD X (binaryOp op) r) (ha : PD X a wa) (hb : PD X b wb) : PD X (.BinOp a op b pos) (wOp r wa wb) :=
  pe_imp (pe_op ho ha hb) t_op
theorem pd_un {op : UnaryOp} {a : Expr} {wa : DW} {pos : Pos} {r : D → MH → DK → Prop} (ho : UnD X (unaryOp op) r) (ha : PD X a wa) : PD X (.UnaryOp op a pos) (wUn r wa) := by
  refine pe_imp (pe_un ho ha) fun σ H Q q => ?_
  obtain ⟨env, hh, μ, P, S, p, l⟩ := q
  exact ⟨env, hh, μ, _, S, p, fun x h1 v μ1 H1 p1 x1 s1 r1 => ⟨x, h1, μ1, P, s1, r1, p1, l.ext x1⟩⟩
theorem pd_cmp {op : CmpOp} {a b : Expr} {wa wb : DW} {pos : Pos} {r : D → D → MH → DK → Prop} (ho : OpD X (compareOp op) r) (ha : PD X a wa) (hb : PD X b wb) (hm : behindInMarks op b = false) : PD X (.Compare a [op] [b] pos) (wOp r wa wb) :=
  pe_imp (pe_cmpR ho ha hb hm) t_op
theorem pd_ix {a b : Expr} {wa wb : DW} {pos : Pos} {r : D → D → MH → DK → Prop} (hr : IxD X r) (ha : PD X a wa) (hb : PD X b wb) (hs : PlainIx b) : PD X (.Subscript a b pos) (wOp r wa wb) :=
  pe_imp (pe_ix hr ha hb hs) t_op
theorem t_call {r : List D → MH → DK → Prop} {was : DA} {K : PySem.W.Frag} : ∀ σ H Q, rd K (wCall r was) σ H Q → tCB (rdC K r) (rdA K was) σ H Q := fun σ H Q q => by
  obtain ⟨env, hh, μ, P, S, p, l⟩ := q
  exact ⟨env, hh, μ, _, S, p, fun ds h1 vs μ1 H1 p1 x1 s1 r1 => ⟨ds, h1, μ1, P, s1, r1, p1, l.ext x1⟩⟩
theorem pd_callB {x : Str} {p pos : Pos} {e : Expr} {es : List Expr} {was : DA} {id : String} {r : List D → MH → DK → Prop} (hc : CallD X (.builtin id) r) (hg : Gl X x) (hm : X.mg x = none) (hv : bootBuiltins x = some (.builtin id)) (ha : PDA X (e :: es) was)
    (hn : x ≠ "__name__" := by decide) (hdb : (x == ("__debug__" : Str)) = false := by decide)
    (he : starEach (e :: es) X.env = (false, eval e X.env) :: starEach es X.env := by rfl) (hpl : (backTo pos (starEach es X.env)).any (·.1) = false := by rfl) : PD X (.Call (.Name x p) (e :: es) [] pos) (wCall r was) :=
  pe_imp (pe_callB hc hg hm hv ha hn hdb he hpl) t_call
theorem pd_callTy {x : Str} {p pos : Pos} {e : Expr} {es : List Expr} {was : DA} {T : String} {r : List D → MH → DK → Prop} (hc : CallD X (.type T) r) (hg : Gl X x) (hm : X.mg x = none) (hv : bootBuiltins x = some (.type T)) (ha : PDA X (e :: es) was)
    (hn : x ≠ "__name__" := by decide) (hdb : (x == ("__debug__" : Str)) = false := by decide)
    (he : starEach (e :: es) X.env = (false, eval e X.env) :: starEach es X.env := by rfl) (hpl : (backTo pos (starEach es X.env)).any (·.1) = false := by rfl) : PD X (.Call (.Name x p) (e :: es) [] pos) (wCall r was) :=
  pe_imp (pe_callTy hc hg hm hv ha hn hdb he hpl) t_call

/-! ## arithmetic -/
def rInt (f : Int → Int → Int) : D → D → MH → DK → Prop := fun x y h Q => ∃ i j, x = .int i ∧ y = .int j ∧ Q (.int (f i j)) h
def rSub : D → D → MH → DK → Prop := rInt fun i j => i - j
def rAdd (b : Bool) : D → D → MH → DK → Prop := fun x y h Q =>
  match x, y with
  | .int i, .int j => Q (.int (i + j)) h
  | .str i, .str j => i.length + j.length ≤ sizeLine ∧ Q (.str (i ++ j)) h
  | .tup xs, .tup ys => xs.length + ys.length ≤ sizeLine ∧ Q (.tup (xs ++ ys)) h
  | x, y => ∃ xs ys, lstD h x = some xs ∧ lstD h y = some ys ∧ xs.length + ys.length ≤ sizeLine ∧ qLst b (xs ++ ys) h Q
theorem od_sub : OpD X (binaryOp .Sub) rSub := by
  intro pins s σ H x y v u Q I rx ry q
  obtain ⟨d, e, h, μ, P, S, r1, r2, ⟨i, j, rfl, rfl, p⟩, l⟩ := q
  cases r1; cases r2
  exact op_sub pins s σ H _ _ v u Q I rx ry ⟨i, j, rfl, rfl, l _ _ _ _ _ p (Ext.refl _ _) S (.int _)⟩
theorem rdInt {K : PySem.W.Frag} {μ : Wd} {H : Hp} {i : Int} {v : V} (r : RD K μ H (.int i) v) : v = .int i := by cases r; rfl
theorem rdStr {K : PySem.W.Frag} {μ : Wd} {H : Hp} {i : Str} {v : V} (r : RD K μ H (.str i) v) : v = .str i := by cases r; rfl
theorem rdBl {K : PySem.W.Frag} {μ : Wd} {H : Hp} {i : Bool} {v : V} (r : RD K μ H (.bl i) v) : v = .bl i := by cases r; rfl
theorem rdNon {K : PySem.W.Frag} {μ : Wd} {H : Hp} {v : V} (r : RD K μ H .non v) : v = .non := by cases r; rfl
theorem RDs.nil_iff {K : PySem.W.Frag} {μ : Wd} {H : Hp} {ds : List D} {vs : List V} (r : RDs K μ H ds vs) : vs = [] ↔ ds = [] := by
  cases r <;> simp
theorem catTup {pins : List (Addr × Obj)} {s : Shared} {σ : L2.St} {H : Hp} {x y : V} {v u : Value} {Q : VK} {xs ys : List D} {h : MH} {μ : Wd} {P : DK} (I : Inv X pins σ H s) (rx : RelV x v) (ry : RelV y u)
    (S : SimH X.K h μ H) (r1 : RD X.K μ H (.tup xs) x) (r2 : RD X.K μ H (.tup ys) y) (hz : xs.length + ys.length ≤ sizeLine) (p : P (.tup (xs ++ ys)) h) (l : LkE X.K P μ H Q) : wpAny (model X.prog X.w) X.A (binaryOp .Add v u) (EP X pins σ Q) X.xe s := by
  cases r1 with
  | tup h1 h2 =>
    rename_i a vs
    cases r2 with
    | tup h3 h4 =>
      rename_i c ws
      refine op_catA pins s σ H _ _ v u Q I rx ry ⟨a, c, vs, ws, rfl, rfl, sqt h1, sqt h3, by rw [← h2.length, ← h4.length]; exact hz, fun e => ?_, fun _ e => ?_, fun _ _ q hq => ?_⟩
      · have e' := h2.nil_iff.mp e; subst e'
        exact l _ _ _ _ _ p (Ext.refl _ _) S (.tup h3 (by simpa using h4))
      · have e' := h4.nil_iff.mp e; subst e'
        exact l _ _ _ _ _ p (Ext.refl _ _) S (.tup h1 (by simpa using h2))
      · exact l _ _ _ _ _ p (Ext.new hq) (S.new hq) (.tup (.inl ⟨.inl upd_same, S.fresh hq⟩) ((h2.append h4).mono (Ext.new hq)))
theorem catLst {pins : List (Addr × Obj)} {s : Shared} {σ : L2.St} {H : Hp} {x y : V} {v u : Value} {Q : VK} {xs ys : List D} {d e : D} {b : Bool} {h : MH} {μ : Wd} {P : DK} (I : Inv X pins σ H s) (rx : RelV x v) (ry : RelV y u)
    (S : SimH X.K h μ H) (r1 : RD X.K μ H d x) (r2 : RD X.K μ H e y) (e1 : lstD h d = some xs) (e2 : lstD h e = some ys) (hz : xs.length + ys.length ≤ sizeLine) (p : qLst b (xs ++ ys) h P) (l : LkE X.K P μ H Q) : wpAny (model X.prog X.w) X.A (binaryOp .Add v u) (EP X pins σ Q) X.xe s := by
  obtain ⟨a, vs, rfl, h1, h2⟩ := rdLst S r1 e1
  obtain ⟨c, ws, rfl, h3, h4⟩ := rdLst S r2 e2
  exact op_cat pins s σ H _ _ v u Q I rx ry ⟨a, c, vs, ws, rfl, rfl, h1, h3, by rw [← h2.length, ← h4.length]; exact hz, p.ok S (h2.append h4) l⟩
theorem od_add (b : Bool) : OpD X (binaryOp .Add) (rAdd b) := by
  intro pins s σ H x y v u Q I rx ry q
  obtain ⟨d, e, h, μ, P, S, r1, r2, p, l⟩ := q
  unfold rAdd at p
  split at p
  · rw [rdInt r1] at rx; rw [rdInt r2] at ry
    exact op_add pins s σ H _ _ v u Q I rx ry ⟨_, _, rfl, rfl, l _ _ _ _ _ p (Ext.refl _ _) S (.int _)⟩
  · rw [rdStr r1] at rx; rw [rdStr r2] at ry
    exact op_add_str pins s σ H _ _ v u Q I rx ry ⟨_, _, rfl, rfl, p.1, l _ _ _ _ _ p.2 (Ext.refl _ _) S (.str _)⟩
  · exact catTup I rx ry S r1 r2 p.1 p.2 l
  · obtain ⟨xs, ys, e1, e2, hz, p⟩ := p
    exact catLst I rx ry S r1 r2 e1 e2 hz p l
/-- ints; [..] * k -/
def rMul (b : Bool) : D → D → MH → DK → Prop := fun x y h Q =>
  match x, y with
  | .int i, .int j => CMul i j ∧ Q (.int (i * j)) h
  | .tup xs, .int k => xs ≠ [] ∧ 2 ≤ k ∧ k ≤ 1000 ∧ xs.length ≤ 1000 ∧ Q (.tup (List.replicate k.toNat xs).flatten) h
  | x, y => ∃ xs k, lstD h x = some xs ∧ y = .int k ∧ -(2 ^ 63) ≤ k ∧ k < 2 ^ 63 ∧ xs.length * k.toNat ≤ sizeLine ∧ qLst b (List.replicate k.toNat xs).flatten h Q
theorem RDs.rep {K : PySem.W.Frag} {μ : Wd} {H : Hp} {ds : List D} {vs : List V} (r : RDs K μ H ds vs) : ∀ k : Nat, RDs K μ H (List.replicate k ds).flatten (List.replicate k vs).flatten
  | 0 => by simpa using RDs.nil
  | k + 1 => by
    rw [List.replicate_succ, List.replicate_succ, List.flatten_cons, List.flatten_cons]
    exact r.append (r.rep k)
theorem od_mul (b : Bool) : OpD X (binaryOp .Mult) (rMul b) := by
  intro pins s σ H x y v u Q I rx ry q
  obtain ⟨d, e, h, μ, P, S, r1, r2, p, l⟩ := q
  unfold rMul at p
  split at p
  · rw [rdInt r1] at rx; rw [rdInt r2] at ry
    exact op_mul pins s σ H _ _ v u Q I rx ry ⟨_, _, rfl, rfl, p.1, l _ _ _ _ _ p.2 (Ext.refl _ _) S (.int _)⟩
  · rw [rdInt r2] at ry
    obtain ⟨p1, p2, p3, p4, p⟩ := p
    obtain ⟨a, vs, rfl, h2, h3⟩ := rdTup r1
    exact op_repT pins s σ H _ _ v u Q I rx ry ⟨a, _, vs, rfl, rfl, h2, fun z => p1 (h3.nil_iff.mp z), p2, p3, by rw [← h3.length]; exact p4, fun q hq =>
      l _ _ _ _ _ p (Ext.new hq) (S.new hq) (.tup (.inl ⟨.inl upd_same, S.fresh hq⟩) ((h3.rep _).mono (Ext.new hq)))⟩
  · obtain ⟨xs, k, e1, rfl, p1, p2, p3, p⟩ := p
    rw [rdInt r2] at ry
    obtain ⟨a, vs, rfl, h2, h3⟩ := rdLst S r1 e1
    exact op_rep pins s σ H _ _ v u Q I rx ry ⟨a, k, vs, rfl, rfl, h2, p1, p2, by rw [← h3.length]; exact p3, p.ok S (h3.rep _) l⟩
def rFdiv : D → D → MH → DK → Prop := fun x y h Q => ∃ i j, x = .int i ∧ y = .int j ∧ CDiv i j ∧ Q (.int (i / j)) h
theorem od_fdiv : OpD X (binaryOp .FloorDiv) rFdiv := by
  intro pins s σ H x y v u Q I rx ry q
  obtain ⟨d, e, h, μ, P, S, r1, r2, ⟨i, j, rfl, rfl, c, p⟩, l⟩ := q
  cases r1; cases r2
  exact op_fdiv pins s σ H _ _ v u Q I rx ry ⟨i, j, rfl, rfl, c, l _ _ _ _ _ p (Ext.refl _ _) S (.int _)⟩
def rMod : D → D → MH → DK → Prop := fun x y h Q => ∃ i j, x = .int i ∧ y = .int j ∧ 0 < j ∧ Q (.int (i % j)) h
theorem od_mod : OpD X (binaryOp .Mod) rMod := by
  intro pins s σ H x y v u Q I rx ry q
  obtain ⟨d, e, h, μ, P, S, r1, r2, ⟨i, j, rfl, rfl, c, p⟩, l⟩ := q
  cases r1; cases r2
  exact op_mod pins s σ H _ _ v u Q I rx ry ⟨i, j, rfl, rfl, c, l _ _ _ _ _ p (Ext.refl _ _) S (.int _)⟩
def rPow : D → D → MH → DK → Prop := fun x y h Q => ∃ i j, x = .int i ∧ y = .int j ∧ CPow i j ∧ Q (.int (i ^ j.toNat)) h
theorem od_pow : OpD X (binaryOp .Pow) rPow := by
  intro pins s σ H x y v u Q I rx ry q
  obtain ⟨d, e, h, μ, P, S, r1, r2, ⟨i, j, rfl, rfl, c, p⟩, l⟩ := q
  cases r1; cases r2
  exact op_pow pins s σ H _ _ v u Q I rx ry ⟨i, j, rfl, rfl, c, l _ _ _ _ _ p (Ext.refl _ _) S (.int _)⟩
def rNeg : D → MH → DK → Prop := fun x h Q => ∃ i, x = .int i ∧ Q (.int (-i)) h
theorem ud_neg : UnD X (unaryOp .USub) rNeg := by
  intro pins s σ H x v Q I rx q
  obtain ⟨d, h, μ, P, S, r1, ⟨i, rfl, p⟩, l⟩ := q
  cases r1
  exact un_neg pins s σ H _ v Q I rx ⟨i, rfl, l _ _ _ _ _ p (Ext.refl _ _) S (.int _)⟩

/-! ## order -/
def rCmpI (f : Int → Int → Bool) : D → D → MH → DK → Prop := fun x y h Q => ∃ i j, x = .int i ∧ y = .int j ∧ Q (.bl (f i j)) h
abbrev rLt := rCmpI fun i j => decide (i < j)
abbrev rLe := rCmpI fun i j => decide (i ≤ j)
abbrev rGt := rCmpI fun i j => decide (j < i)
abbrev rGe := rCmpI fun i j => decide (j ≤ i)
theorem od_cmpI {op : CmpOp} {f : Int → Int → Bool} (ho : OpR X (compareOp op) (rI0 fun i j => .bl (f i j))) : OpD X (compareOp op) (rCmpI f) := by
  intro pins s σ H x y v u Q I rx ry q
  obtain ⟨d, e, h, μ, P, S, r1, r2, ⟨i, j, rfl, rfl, p⟩, l⟩ := q
  cases r1; cases r2
  exact ho pins s σ H _ _ v u Q I rx ry ⟨i, j, rfl, rfl, l _ _ _ _ _ p (Ext.refl _ _) S (.bl _)⟩
theorem od_lt : OpD X (compareOp .Lt) rLt := od_cmpI op_lt
theorem od_le : OpD X (compareOp .LtE) rLe := od_cmpI op_le
theorem od_gt : OpD X (compareOp .Gt) rGt := od_cmpI op_gt
theorem od_ge : OpD X (compareOp .GtE) rGe := od_cmpI op_ge
/-- is None, is True .. -/
def isD (neg : Bool) : D → D → MH → DK → Prop := fun x y h Q =>
  match y with
  | .non => Q (.bl (match x with | .non => !neg | _ => neg)) h
  | .bl b => ∃ a, x = .bl a ∧ Q (.bl (if neg then !decide (a = b) else decide (a = b))) h
  | _ => False
theorem isNon {K : PySem.W.Frag} {μ : Wd} {H : Hp} {d : D} {v : V} (r : RD K μ H d v) : decide (v = .non) = (match d with | .non => true | _ => false) := by
  cases r <;> simp
theorem od_is : OpD X (compareOp .Is) (isD false) := by
  intro pins s σ H x y v u Q I rx ry q
  obtain ⟨d, e, h, μ, P, S, r1, r2, p, l⟩ := q
  unfold isD at p
  split at p
  · refine op_isN pins s σ H _ _ v u Q I rx ry ⟨rdNon r2, ?_⟩
    rw [isNon r1]
    refine l _ _ _ _ _ p (Ext.refl _ _) S ?_
    cases d <;> exact .bl _
  · obtain ⟨a, rfl, p⟩ := p
    rw [rdBl r1] at rx; rw [rdBl r2] at ry
    exact op_isBl pins s σ H _ _ v u Q I rx ry ⟨_, _, rfl, rfl, l _ _ _ _ _ p (Ext.refl _ _) S (by simpa using RD.bl _)⟩
  · exact p.elim
theorem od_isnot : OpD X (compareOp .IsNot) (isD true) := by
  intro pins s σ H x y v u Q I rx ry q
  obtain ⟨d, e, h, μ, P, S, r1, r2, p, l⟩ := q
  unfold isD at p
  split at p
  · refine op_notN pins s σ H _ _ v u Q I rx ry ⟨rdNon r2, ?_⟩
    rw [isNon r1]
    refine l _ _ _ _ _ p (Ext.refl _ _) S ?_
    cases d <;> exact .bl _
  · obtain ⟨a, rfl, p⟩ := p
    rw [rdBl r1] at rx; rw [rdBl r2] at ry
    exact op_notBl pins s σ H _ _ v u Q I rx ry ⟨_, _, rfl, rfl, l _ _ _ _ _ p (Ext.refl _ _) S (by simpa using RD.bl _)⟩
  · exact p.elim
end
end DL
namespace DL
open PySem PySem.Spec PyProof.Rows L2

/-! # data as plain data: ==, in, repr -/
mutual
def toP : D → PyData
  | .non => .none
  | .bl b => .bool b
  | .int i => .int i
  | .str x => .str x
  | .tup xs => .tuple (toPs xs)
  | .lv xs => .list (toPs xs)
  | .scr xs => .list (toPs xs)
  | .ob _ => .none
def toPs : List D → List PyData
  | [] => []
  | x :: xs => toP x :: toPs xs
end
theorem toPs_map : ∀ xs : List D, toPs xs = xs.map toP
  | [] => rfl
  | x :: xs => by rw [toPs, toPs_map xs, List.map_cons]
/-- plain, its texts right, at most n deep -/
def Gd : Nat → D → Prop
  | _, .non => True
  | _, .bl _ => True
  | _, .int _ => True
  | _, .str x => PyData.strOk x = true
  | n + 1, .tup xs => ∀ x ∈ xs, Gd n x
  | n + 1, .lv xs => ∀ x ∈ xs, Gd n x
  | n + 1, .scr xs => ∀ x ∈ xs, Gd n x
  | _, _ => False
theorem Gd.succ : ∀ {n : Nat} {d : D}, Gd n d → Gd (n + 1) d
  | _, .non, _ => by simp [Gd]
  | _, .bl _, _ => by simp [Gd]
  | _, .int _, _ => by simp [Gd]
  | n, .str x, h => by
    cases n <;> simpa [Gd] using h
  | 0, .tup xs, h => by simp [Gd] at h
  | n + 1, .tup xs, h => by
    simp only [Gd] at h ⊢
    exact fun x hx => (h x hx).succ
  | 0, .lv xs, h => by simp [Gd] at h
  | n + 1, .lv xs, h => by
    simp only [Gd] at h ⊢
    exact fun x hx => (h x hx).succ
  | 0, .scr xs, h => by simp [Gd] at h
  | n + 1, .scr xs, h => by
    simp only [Gd] at h ⊢
    exact fun x hx => (h x hx).succ
  | 0, .ob _, h => by simp [Gd] at h
  | _ + 1, .ob _, h => by simp [Gd] at h
theorem Gd.le {n m : Nat} {d : D} (h : Gd n d) (l : n ≤ m) : Gd m d := by
  induction l with
  | refl => exact h
  | step _ ih => exact ih.succ
section
variable {K : PySem.W.Frag} {μ : Wd} {H : Hp}
mutual
theorem dp_of : ∀ {n : Nat} {d : D} {v : V}, RD K μ H d v → Gd n d → Dp K H v (toP d)
  | _, _, _, .non, _ => .non
  | _, _, _, .bl b, _ => .bl b
  | _, _, _, .int i, _ => .int i
  | _, _, _, .str x, _ => .str x
  | 0, _, _, .tup _ _, g => by simp [Gd] at g
  | n + 1, _, _, .tup h r, g => by
    rw [toP]
    exact .tup (sqt h) (dps_of r (by simpa [Gd] using g))
  | 0, _, _, .lv _ _ _ _, g => by simp [Gd] at g
  | n + 1, _, _, .lv h _ _ r, g => by
    rw [toP]
    exact .lst (.inl (.inl h)) (dps_of r (by simpa [Gd] using g))
  | 0, _, _, .scr _ _, g => by simp [Gd] at g
  | n + 1, _, _, .scr h r, g => by
    rw [toP]
    exact .lst (sqs h) (dps_of r (by simpa [Gd] using g))
  | 0, _, _, .ob _, g => by simp [Gd] at g
  | _ + 1, _, _, .ob _, g => by simp [Gd] at g
theorem dps_of : ∀ {n : Nat} {ds : List D} {vs : List V}, RDs K μ H ds vs → (∀ x ∈ ds, Gd n x) → DpAll K H vs (toPs ds)
  | _, _, _, .nil, _ => by rw [toPs]; exact .nil
  | _, _, _, .cons h r, g => by
    rw [toPs]
    exact .cons (dp_of h (g _ List.mem_cons_self)) (dps_of r fun x hx => g x (List.mem_cons_of_mem _ hx))
end
end
mutual
theorem can_of : ∀ {n : Nat} {d : D}, Gd n d → (toP d).canLay0 = true ∧ (toP d).depth ≤ n
  | _, .non, _ => by simp [toP, PyData.canLay0, PyData.depth]
  | _, .bl b, _ => by simp [toP, PyData.canLay0, PyData.depth]
  | _, .int i, _ => by simp [toP, PyData.canLay0, PyData.depth]
  | n, .str x, h => by
    have h' : PyData.strOk x = true := by cases n <;> simpa [Gd] using h
    simp [toP, PyData.canLay0, PyData.depth, h']
  | 0, .tup _, h => by simp [Gd] at h
  | n + 1, .tup xs, h => by
    have := cans_of (ds := xs) (n := n) (by simpa [Gd] using h)
    simp only [toP, PyData.canLay0, PyData.depth]
    exact ⟨this.1, by omega⟩
  | 0, .lv _, h => by simp [Gd] at h
  | n + 1, .lv xs, h => by
    have := cans_of (ds := xs) (n := n) (by simpa [Gd] using h)
    simp only [toP, PyData.canLay0, PyData.depth]
    exact ⟨this.1, by omega⟩
  | 0, .scr _, h => by simp [Gd] at h
  | n + 1, .scr xs, h => by
    have := cans_of (ds := xs) (n := n) (by simpa [Gd] using h)
    simp only [toP, PyData.canLay0, PyData.depth]
    exact ⟨this.1, by omega⟩
  | 0, .ob _, h => by simp [Gd] at h
  | _ + 1, .ob _, h => by simp [Gd] at h
theorem cans_of : ∀ {n : Nat} {ds : List D}, (∀ x ∈ ds, Gd n x) → PyData.canLayAll0 (toPs ds) = true ∧ PyData.depthAll (toPs ds) ≤ n
  | _, [], _ => by simp [toPs, PyData.canLayAll0, PyData.depthAll]
  | n, d :: ds, h => by
    have h1 := can_of (h d List.mem_cons_self)
    have h2 := cans_of (ds := ds) (n := n) fun x hx => h x (List.mem_cons_of_mem _ hx)
    simp only [toPs, PyData.canLayAll0, PyData.depthAll, h1.1, h2.1]
    refine ⟨rfl, by omega⟩
end
theorem shaped_of {n : Nat} {d : D} (g : Gd n d) (hn : n ≤ 64) : SeqAt.shaped (toP d) = true := by
  obtain ⟨h1, h2⟩ := can_of g
  unfold SeqAt.shaped
  rw [h1, Bool.true_and]
  exact decide_eq_true (by omega)
/-! True is 1 -/
mutual
def nm : D → D
  | .bl b => .int (if b then 1 else 0)
  | .tup xs => .tup (nms xs)
  | .lv xs => .lv (nms xs)
  | .scr xs => .lv (nms xs)
  | d => d
def nms : List D → List D
  | [] => []
  | x :: xs => nm x :: nms xs
end
theorem nms_map : ∀ xs : List D, nms xs = xs.map nm
  | [] => rfl
  | x :: xs => by rw [nms, nms_map xs, List.map_cons]
section
open Classical
noncomputable def eqD (x y : D) : Bool := decide (nm x = nm y)
theorem eqD_iff {x y : D} : eqD x y = true ↔ nm x = nm y := by unfold eqD; exact decide_eq_true_iff
end
theorem bool_ext {a b : Bool} (h : a = true ↔ b = true) : a = b := by
  cases a <;> cases b <;> simp_all
mutual
theorem eqv_nm : ∀ {n m : Nat} {x y : D}, Gd n x → Gd m y → (PyData.eqv (toP x) (toP y) = true ↔ nm x = nm y)
  | n, m, x, y, gx, gy => by
    cases x with
    | ob k => cases n <;> simp [Gd] at gx
    | tup xs =>
      cases y with
      | ob k => cases m <;> simp [Gd] at gy
      | tup ys =>
        cases n with
        | zero => simp [Gd] at gx
        | succ n =>
          cases m with
          | zero => simp [Gd] at gy
          | succ m =>
            have := eqvs_nm (xs := xs) (ys := ys) (n := n) (m := m) (by simpa [Gd] using gx) (by simpa [Gd] using gy)
            simp [toP, nm, PyData.eqv, this]
      | _ => simp [toP, nm, PyData.eqv]
    | lv xs =>
      cases y with
      | ob k => cases m <;> simp [Gd] at gy
      | lv ys =>
        cases n with
        | zero => simp [Gd] at gx
        | succ n =>
          cases m with
          | zero => simp [Gd] at gy
          | succ m =>
            have := eqvs_nm (xs := xs) (ys := ys) (n := n) (m := m) (by simpa [Gd] using gx) (by simpa [Gd] using gy)
            simp [toP, nm, PyData.eqv, this]
      | scr ys =>
        cases n with
        | zero => simp [Gd] at gx
        | succ n =>
          cases m with
          | zero => simp [Gd] at gy
          | succ m =>
            have := eqvs_nm (xs := xs) (ys := ys) (n := n) (m := m) (by simpa [Gd] using gx) (by simpa [Gd] using gy)
            simp [toP, nm, PyData.eqv, this]
      | _ => simp [toP, nm, PyData.eqv]
    | scr xs =>
      cases y with
      | ob k => cases m <;> simp [Gd] at gy
      | lv ys =>
        cases n with
        | zero => simp [Gd] at gx
        | succ n =>
          cases m with
          | zero => simp [Gd] at gy
          | succ m =>
            have := eqvs_nm (xs := xs) (ys := ys) (n := n) (m := m) (by simpa [Gd] using gx) (by simpa [Gd] using gy)
            simp [toP, nm, PyData.eqv, this]
      | scr ys =>
        cases n with
        | zero => simp [Gd] at gx
        | succ n =>
          cases m with
          | zero => simp [Gd] at gy
          | succ m =>
            have := eqvs_nm (xs := xs) (ys := ys) (n := n) (m := m) (by simpa [Gd] using gx) (by simpa [Gd] using gy)
            simp [toP, nm, PyData.eqv, this]
      | _ => simp [toP, nm, PyData.eqv]
    | bl a =>
      cases y with
      | ob k => cases m <;> simp [Gd] at gy
      | bl b => cases a <;> cases b <;> simp [toP, nm, PyData.eqv]
      | _ => simp [toP, nm, PyData.eqv]
    | int i =>
      cases y with
      | ob k => cases m <;> simp [Gd] at gy
      | _ => simp [toP, nm, PyData.eqv]
    | str i =>
      cases y with
      | ob k => cases m <;> simp [Gd] at gy
      | _ => simp [toP, nm, PyData.eqv]
    | non =>
      cases y with
      | ob k => cases m <;> simp [Gd] at gy
      | _ => simp [toP, nm, PyData.eqv]
theorem eqvs_nm : ∀ {n m : Nat} {xs ys : List D}, (∀ x ∈ xs, Gd n x) → (∀ y ∈ ys, Gd m y) → (PyData.eqvAll (toPs xs) (toPs ys) = true ↔ nms xs = nms ys)
  | _, _, [], [], _, _ => by simp [toPs, nms, PyData.eqvAll]
  | _, _, [], y :: ys, _, _ => by simp [toPs, nms, PyData.eqvAll]
  | _, _, x :: xs, [], _, _ => by simp [toPs, nms, PyData.eqvAll]
  | n, m, x :: xs, y :: ys, gx, gy => by
    have h1 := eqv_nm (gx x List.mem_cons_self) (gy y List.mem_cons_self)
    have h2 := eqvs_nm (xs := xs) (ys := ys) (n := n) (m := m) (fun z hz => gx z (List.mem_cons_of_mem _ hz)) fun z hz => gy z (List.mem_cons_of_mem _ hz)
    simp [toPs, nms, PyData.eqvAll, h1, h2]
end
theorem eqv_eqD {n m : Nat} {x y : D} (gx : Gd n x) (gy : Gd m y) : PyData.eqv (toP x) (toP y) = eqD x y := bool_ext ((eqv_nm gx gy).trans eqD_iff.symm)

/-- a list object, read as a value -/
def Rs (h : MH) (x x' : D) : Prop := x' = x ∨ ∃ n xs, x = .ob n ∧ h[n]? = some (.lst xs) ∧ x' = .lv xs
theorem Rs.refl (h : MH) (x : D) : Rs h x x := .inl rfl
theorem Rs.ob {h : MH} {n : Nat} {xs : List D} (e : h[n]? = some (.lst xs)) : Rs h (.ob n) (.lv xs) := .inr ⟨n, xs, rfl, e, rfl⟩
theorem Rs.dp {K : PySem.W.Frag} {μ : Wd} {H : Hp} {h : MH} {x x' : D} {v : V} {n : Nat} (z : Rs h x x') (s : SimH K h μ H) (r : RD K μ H x v) (g : Gd n x') : Dp K H v (toP x') := by
  rcases z with rfl | ⟨m, xs, rfl, e, rfl⟩
  · exact dp_of r g
  · obtain ⟨a, vs, rfl, _, h1, h2⟩ := obL s r e
    cases n with
    | zero => simp [Gd] at g
    | succ n =>
      rw [toP]
      exact .lst (.inl (.inl h1)) (dps_of h2 (by simpa [Gd] using g))
section
variable {X : Cx}
noncomputable def rEq (neg : Bool) : D → D → MH → DK → Prop := fun x y h Q => (∃ a b, x = .str a ∧ y = .str b ∧ Q (.bl (if neg then !decide (a = b) else decide (a = b))) h) ∨ ∃ x' y', Rs h x x' ∧ Rs h y y' ∧ Gd 60 x' ∧ Gd 60 y' ∧ Q (.bl (if neg then !eqD x' y' else eqD x' y')) h
theorem od_eq (hu : X.A.units + 64 < cLine) : OpD X (compareOp .Eq) (rEq false) := by
  intro pins s σ H x y v u Q I rx ry q
  obtain ⟨d, e, h, μ, P, S, r1, r2, ⟨a, b, rfl, rfl, p⟩ | ⟨d', e', z1, z2, g1, g2, p⟩, l⟩ := q
  · cases r1
    cases r2
    refine L2.op_eq pins s σ H _ _ v u Q I rx ry ⟨rfl, ?_⟩
    have ed : decide (V.str a = V.str b) = decide (a = b) := by
      by_cases h : a = b
      · subst h; simp
      · rw [decide_eq_false h, decide_eq_false (fun z => h (by injection z))]
    rw [ed]
    exact l _ _ _ _ _ p (Ext.refl _ _) S (.bl _)
  refine op_eqD hu pins s σ H _ _ v u Q I rx ry ⟨_, _, z1.dp S r1 g1, z2.dp S r2 g2, shaped_of g1 (by omega), shaped_of g2 (by omega), ?_⟩
  rw [eqv_eqD g1 g2]
  exact l _ _ _ _ _ p (Ext.refl _ _) S (.bl _)
theorem od_ne (hu : X.A.units + 64 < cLine) : OpD X (compareOp .NotEq) (rEq true) := by
  intro pins s σ H x y v u Q I rx ry q
  obtain ⟨d, e, h, μ, P, S, r1, r2, ⟨a, b, rfl, rfl, p⟩ | ⟨d', e', z1, z2, g1, g2, p⟩, l⟩ := q
  · cases r1
    cases r2
    refine L2.op_ne pins s σ H _ _ v u Q I rx ry ⟨rfl, ?_⟩
    have ed : decide (V.str a = V.str b) = decide (a = b) := by
      by_cases h : a = b
      · subst h; simp
      · rw [decide_eq_false h, decide_eq_false (fun z => h (by injection z))]
    rw [ed]
    exact l _ _ _ _ _ p (Ext.refl _ _) S (.bl _)
  refine op_neD hu pins s σ H _ _ v u Q I rx ry ⟨_, _, z1.dp S r1 g1, z2.dp S r2 g2, shaped_of g1 (by omega), shaped_of g2 (by omega), ?_⟩
  rw [eqv_eqD g1 g2]
  exact l _ _ _ _ _ p (Ext.refl _ _) S (.bl _)
/-! ## in -/
def flat : D → Bool
  | .non => true
  | .bl _ => true
  | .int _ => true
  | .str _ => true
  | _ => false
theorem flat_V {K : PySem.W.Frag} {μ : Wd} {H : Hp} {d : D} {v : V} (r : RD K μ H d v) (f : flat d = true) : flatV v = true := by
  cases r <;> first | rfl | cases f
theorem flats_V {K : PySem.W.Frag} {μ : Wd} {H : Hp} : ∀ {ds : List D} {vs : List V}, RDs K μ H ds vs → ds.all flat = true → vs.all flatV = true
  | _, _, .nil, _ => rfl
  | _, _, .cons h r, f => by
    rw [List.all_cons, Bool.and_eq_true] at f ⊢
    exact ⟨flat_V h f.1, flats_V r f.2⟩
theorem eqV_D {K : PySem.W.Frag} {μ : Wd} {H : Hp} {d e : D} {v w : V} (r1 : RD K μ H d v) (r2 : RD K μ H e w) (f1 : flat d = true) (f2 : flat e = true) : eqV v w = eqD d e := by
  refine bool_ext (Iff.trans ?_ eqD_iff.symm)
  cases r1 <;> first | (cases f1; done) | skip
  all_goals (cases r2 <;> first | (cases f2; done) | (simp [eqV, nm]; done) | skip)
  all_goals (rename_i a b; cases a <;> cases b <;> simp [eqV, nm])
theorem inV_D {K : PySem.W.Frag} {μ : Wd} {H : Hp} {d : D} {v : V} (r1 : RD K μ H d v) (f1 : flat d = true) : ∀ {ds : List D} {vs : List V}, RDs K μ H ds vs → ds.all flat = true → inV v vs = ds.any fun z => eqD z d
  | _, _, .nil, _ => rfl
  | _, _, .cons h r, f => by
    rw [List.all_cons, Bool.and_eq_true] at f
    have ih := inV_D r1 f1 r f.2
    unfold inV at ih ⊢
    rw [List.any_cons, List.any_cons, ih, eqV_D h r1 f.1 f1]
/-- x in xs; a sign in a text -/
noncomputable def rIn (neg : Bool) : D → D → MH → DK → Prop := fun x y h Q =>
  match y with
  | .str z => ∃ c, x = .str ⟨#[c]⟩ ∧ Q (.bl (if neg then !decide (c ∈ z.cps.toList) else decide (c ∈ z.cps.toList))) h
  | y => ∃ ys, seqD h y = some ys ∧ ((flat x = true ∧ ys.all flat = true) ∨ (Gd 50 x ∧ (∀ z ∈ ys, Gd 50 z) ∧ lstR h y = some ys)) ∧ Q (.bl (if neg then !(ys.any fun z => eqD z x) else ys.any fun z => eqD z x)) h
theorem dpl_of {K : PySem.W.Frag} {μ : Wd} {H : Hp} {h : MH} {y : D} {w : V} {ys : List D} {n : Nat} (s : SimH K h μ H) (r : RD K μ H y w) (e : lstR h y = some ys) (g : ∀ z ∈ ys, Gd n z) : Dp K H w (.list (toPs ys)) := by
  obtain ⟨a, vs, rfl, h1, h2⟩ := rdLstR s r e
  exact .lst h1 (dps_of h2 g)
theorem any_eqv {x : D} {n : Nat} (gx : Gd n x) : ∀ {ys : List D}, (∀ z ∈ ys, Gd n z) → ((toPs ys).any fun z => PyData.eqv z (toP x)) = ys.any fun z => eqD z x
  | [], _ => rfl
  | y :: ys, g => by
    rw [toPs, List.any_cons, List.any_cons, eqv_eqD (g y List.mem_cons_self) gx, any_eqv gx fun z hz => g z (List.mem_cons_of_mem _ hz)]
theorem lshaped {ys : List D} {n : Nat} (g : ∀ z ∈ ys, Gd n z) (hn : n ≤ 60) : SeqAt.shaped (.list (toPs ys)) = true := by
  have h := can_of (d := .lv ys) (n := n + 1) (by simpa [Gd] using g)
  rw [toP] at h
  unfold SeqAt.shaped
  rw [h.1, Bool.true_and]
  exact decide_eq_true (by omega)
theorem in_core (hu : X.A.units + 65 < cLine) (neg : Bool) (ho1 : OpR X (compareOp (if neg then .NotIn else .In)) (L2.rIn X.K neg)) (ho2 : OpR X (compareOp (if neg then .NotIn else .In)) (fun x y H Q => ∃ d ds, Dp X.K H x d ∧ Dp X.K H y (.list ds) ∧ SeqAt.shaped d = true ∧ SeqAt.shaped (.list ds) = true ∧ Q (.bl (if neg then !ds.any fun z => PyData.eqv z d else ds.any fun z => PyData.eqv z d)) H))
    (ho3 : OpR X (compareOp (if neg then .NotIn else .In)) (fun x y H Q => ∃ (c : Nat) (z : Str), x = .str ⟨#[c]⟩ ∧ y = .str z ∧ Q (.bl (if neg then !decide (c ∈ z.cps.toList) else decide (c ∈ z.cps.toList))) H)) : OpD X (compareOp (if neg then .NotIn else .In)) (rIn neg) := by
  intro pins s σ H x y v u Q I rx ry q
  obtain ⟨d, e, h, μ, P, S, r1, r2, p, l⟩ := q
  unfold rIn at p
  split at p
  · obtain ⟨c, rfl, p⟩ := p
    rw [rdStr r1] at rx; rw [rdStr r2] at ry
    exact ho3 pins s σ H _ _ v u Q I rx ry ⟨c, _, rfl, rfl, l _ _ _ _ _ p (Ext.refl _ _) S (.bl _)⟩
  · obtain ⟨ys, e1, hf, p⟩ := p
    rcases hf with ⟨f1, f2⟩ | ⟨g1, g2, e2⟩
    · obtain ⟨a, vs, rfl, h1, h2⟩ := rdSeq S r2 e1
      refine ho1 pins s σ H _ _ v u Q I rx ry ⟨a, vs, rfl, h1, flat_V r1 f1, flats_V h2 f2, ?_⟩
      rw [inV_D r1 f1 h2 f2]
      exact l _ _ _ _ _ p (Ext.refl _ _) S (.bl _)
    · refine ho2 pins s σ H _ _ v u Q I rx ry ⟨_, _, dp_of r1 g1, dpl_of S r2 e2 g2, shaped_of g1 (by omega), lshaped g2 (by omega), ?_⟩
      rw [any_eqv g1 g2]
      exact l _ _ _ _ _ p (Ext.refl _ _) S (.bl _)
theorem od_in (hu : X.A.units + 65 < cLine) : OpD X (compareOp .In) (rIn false) := in_core hu false op_in_seq (op_inD hu) op_in_sign
theorem od_notin (hu : X.A.units + 65 < cLine) : OpD X (compareOp .NotIn) (rIn true) := in_core hu true op_notIn_seq (op_notInD hu) op_notIn_sign
end
end DL
namespace DL
open PySem PySem.Spec PyProof.Rows L2
section
variable {X : Cx}
/-! # tests -/
def wT (w : DW) : DT := fun env h Q => w env h fun d h1 => ∃ b, d = .bl b ∧ Q b h1
theorem rdT_test {K : PySem.W.Frag} {w : DW} : ∀ σ H Q, rdT K (wT w) σ H Q → rd K w σ H fun x H' => ∃ k, x = .bl k ∧ Q k H' := fun σ H Q q => by
  obtain ⟨env, hh, μ, P, S, p, l⟩ := q
  exact ⟨env, hh, μ, _, S, p, fun d h1 v μ1 H1 ⟨b, e, p1⟩ x1 s1 r1 => ⟨b, by subst e; exact rdBl r1, l b h1 μ1 H1 p1 x1 s1⟩⟩
theorem dt_cmp {op : CmpOp} {a b : Expr} {wa wb : DW} {pos : Pos} {r : D → D → MH → DK → Prop} (ho : OpD X (compareOp op) r) (ha : PD X a wa) (hb : PD X b wb) (hm : behindInMarks op b = false) : PDT X (.Compare a [op] [b] pos) (wT (wOp r wa wb)) :=
  pt_imp (pt_cmpR ho ha hb hm) fun σ H Q q => t_op _ _ _ (rdT_test _ _ _ q)
def truD (h : MH) (d : D) (b : Bool) : Prop :=
  match d with
  | .non => b = false
  | .bl a => b = a
  | .int i => b = (i != 0)
  | .str x => x.length ≤ sizeLine ∧ b = ((x.length : Int) != 0)
  | d => ∃ xs, seqD h d = some xs ∧ b = !xs.isEmpty
def wTru (w : DW) : DT := fun env h Q => w env h fun d h1 => ∃ b, truD h1 d b ∧ Q b h1
theorem tru_ok' {K : PySem.W.Frag} {μ : Wd} {H : Hp} {h : MH} {d : D} {v : V} {b : Bool} (s : SimH K h μ H) (r : RD K μ H d v) (t : truD h d b) : TruV K v H b := by
  have seq : ∀ {xs : List D}, seqD h d = some xs → b = !xs.isEmpty → TruV K v H b := fun {xs} e eb => by
    obtain ⟨a, vs, rfl, h1, h2⟩ := rdSeq s r e
    have e2 : (!xs.isEmpty) = !vs.isEmpty := by cases h2 <;> rfl
    rcases h1 with h1 | h1
    · exact .inl ⟨vs, h1, eb.trans e2⟩
    · exact .inr (.inl ⟨vs, h1, eb.trans e2⟩)
  unfold truD at t
  split at t
  · rw [rdNon r]; exact t
  · rw [rdBl r]; exact t
  · rw [rdInt r]; exact t
  · rw [rdStr r]; exact t
  · obtain ⟨xs, e, eb⟩ := t
    exact seq e eb
theorem dt_tru {e : Expr} {w : DW} (ha : PD X e w) (he : ∀ whole, isTrue e X.env whole = (do let v ← whole; standAt e.pos; holding [v] (truthy v)) := by intro _; rfl) : PDT X e (wTru w) := by
  refine pt_imp (pt_truth ha he) fun σ H Q q => ?_
  obtain ⟨env, hh, μ, P, S, p, l⟩ := q
  exact ⟨env, hh, μ, _, S, p, fun d h1 v μ1 H1 ⟨b, e, p1⟩ x1 s1 r1 => ⟨b, tru_ok' s1 r1 e, l b h1 μ1 H1 p1 x1 s1⟩⟩
def PDW (X : Cx) (e : Expr) (w : DT) : Prop := PW X e (rdT X.K w)
def wNotT (w : DT) : DT := fun env h Q => w env h fun b h1 => Q (!b) h1
def wAndT (a b : DT) : DT := fun env h Q => a env h fun c h1 => if c = true then b env h1 Q else Q false h1
def wOrT (a b : DT) : DT := fun env h Q => a env h fun c h1 => if c = true then Q true h1 else b env h1 Q
theorem dt_not {a : Expr} {w : DT} {pos : Pos} (ha : PDT X a w) : PDT X (.UnaryOp .Not a pos) (wNotT w) := by
  refine pt_imp (pt_not ha) fun σ H Q q => ?_
  obtain ⟨env, hh, μ, P, S, p, l⟩ := q
  exact ⟨env, hh, μ, _, S, p, fun b h1 μ1 H1 p1 x1 s1 => l _ h1 μ1 H1 p1 x1 s1⟩
theorem dw_and1 {a : Expr} {w : DT} {pos : Pos} (ha : PDT X a w) : PDW X (.BoolOp .And [a] pos) w := pw_and1 ha
theorem dw_or1 {a : Expr} {w : DT} {pos : Pos} (ha : PDT X a w) : PDW X (.BoolOp .Or [a] pos) w := pw_or1 ha
theorem dw_and {a b : Expr} {rest : List Expr} {w1 w2 : DT} {pos : Pos} (ha : PDT X a w1) (hb : PDW X (.BoolOp .And (b :: rest) pos) w2) : PDW X (.BoolOp .And (a :: b :: rest) pos) (wAndT w1 w2) := by
  refine pw_imp (pw_and ha hb) fun σ H Q q => ?_
  obtain ⟨env, hh, μ, P, S, p, l⟩ := q
  refine ⟨env, hh, μ, _, S, p, fun b h1 μ1 H1 p1 x1 s1 => ?_⟩
  by_cases hb : b = true
  · rw [if_pos hb] at p1 ⊢
    exact ⟨env, h1, μ1, P, ⟨S.re.mono x1, s1⟩, p1, fun b h2 μ2 H2 p2 x2 s2 => l b h2 μ2 H2 p2 (x1.trans x2) s2⟩
  · rw [if_neg hb] at p1 ⊢
    exact l _ h1 μ1 H1 p1 x1 s1
theorem dw_or {a b : Expr} {rest : List Expr} {w1 w2 : DT} {pos : Pos} (ha : PDT X a w1) (hb : PDW X (.BoolOp .Or (b :: rest) pos) w2) : PDW X (.BoolOp .Or (a :: b :: rest) pos) (wOrT w1 w2) := by
  refine pw_imp (pw_or ha hb) fun σ H Q q => ?_
  obtain ⟨env, hh, μ, P, S, p, l⟩ := q
  refine ⟨env, hh, μ, _, S, p, fun b h1 μ1 H1 p1 x1 s1 => ?_⟩
  by_cases hb : b = true
  · rw [if_pos hb] at p1 ⊢
    exact l _ h1 μ1 H1 p1 x1 s1
  · rw [if_neg hb] at p1 ⊢
    exact ⟨env, h1, μ1, P, ⟨S.re.mono x1, s1⟩, p1, fun b h2 μ2 H2 p2 x2 s2 => l b h2 μ2 H2 p2 (x1.trans x2) s2⟩
theorem dt_bo {e : Expr} {w : DT} (h : PDW X e w) : PDT X e w := PW.pt h
/-! ## as values -/
def wAndV (a b : DW) : DW := fun env h Q => a env h fun d h1 => ∃ c, d = .bl c ∧ if c = true then b env h1 Q else Q (.bl false) h1
def wOrV (a b : DW) : DW := fun env h Q => a env h fun d h1 => ∃ c, d = .bl c ∧ if c = true then Q (.bl true) h1 else b env h1 Q
def wNotV (a : DW) : DW := fun env h Q => a env h fun d h1 => ∃ c, d = .bl c ∧ Q (.bl (!c)) h1
theorem pd_one {op} {a : Expr} {w : DW} {pos : Pos} (ha : PD X a w) : PD X (.BoolOp op [a] pos) w := pe_one ha
theorem pd_and {a b : Expr} {rest : List Expr} {w1 w2 : DW} {pos : Pos} (ha : PD X a w1) (hb : PD X (.BoolOp .And (b :: rest) pos) w2) : PD X (.BoolOp .And (a :: b :: rest) pos) (wAndV w1 w2) := by
  refine pe_imp (pe_and ha hb) fun σ H Q q => ?_
  obtain ⟨env, hh, μ, P, S, p, l⟩ := q
  refine ⟨env, hh, μ, _, S, p, fun d h1 v μ1 H1 ⟨c, e, p1⟩ x1 s1 r1 => ?_⟩
  subst e
  refine ⟨c, rdBl r1, ?_⟩
  by_cases hb : c = true
  · rw [if_pos hb] at p1 ⊢
    exact ⟨env, h1, μ1, P, ⟨S.re.mono x1, s1⟩, p1, l.ext x1⟩
  · rw [if_neg hb] at p1 ⊢
    exact l _ h1 _ μ1 H1 p1 x1 s1 (.bl _)
theorem pd_or {a b : Expr} {rest : List Expr} {w1 w2 : DW} {pos : Pos} (ha : PD X a w1) (hb : PD X (.BoolOp .Or (b :: rest) pos) w2) : PD X (.BoolOp .Or (a :: b :: rest) pos) (wOrV w1 w2) := by
  refine pe_imp (pe_or ha hb) fun σ H Q q => ?_
  obtain ⟨env, hh, μ, P, S, p, l⟩ := q
  refine ⟨env, hh, μ, _, S, p, fun d h1 v μ1 H1 ⟨c, e, p1⟩ x1 s1 r1 => ?_⟩
  subst e
  refine ⟨c, rdBl r1, ?_⟩
  by_cases hb : c = true
  · rw [if_pos hb] at p1 ⊢
    exact l _ h1 _ μ1 H1 p1 x1 s1 (.bl _)
  · rw [if_neg hb] at p1 ⊢
    exact ⟨env, h1, μ1, P, ⟨S.re.mono x1, s1⟩, p1, l.ext x1⟩
theorem pd_not {a : Expr} {w : DW} {pos : Pos} (ha : PD X a w) : PD X (.UnaryOp .Not a pos) (wNotV w) := by
  refine pe_imp (pe_not ha) fun σ H Q q => ?_
  obtain ⟨env, hh, μ, P, S, p, l⟩ := q
  refine ⟨env, hh, μ, _, S, p, fun d h1 v μ1 H1 ⟨c, e, p1⟩ x1 s1 r1 => ?_⟩
  subst e
  exact ⟨c, rdBl r1, l _ h1 _ μ1 H1 p1 x1 s1 (.bl _)⟩
def wIf (t : DT) (a b : DW) : DW := fun env h Q => t env h fun c h1 => if c = true then a env h1 Q else b env h1 Q
theorem pd_if {c a b : Expr} {t : DT} {w1 w2 : DW} {pos : Pos} (hc : PDT X c t) (ha : PD X a w1) (hb : PD X b w2) : PD X (.IfExp c a b pos) (wIf t w1 w2) := by
  refine pe_imp (pe_ifExp hc ha hb) fun σ H Q q => ?_
  obtain ⟨env, hh, μ, P, S, p, l⟩ := q
  refine ⟨env, hh, μ, _, S, p, fun c h1 μ1 H1 p1 x1 s1 => ?_⟩
  by_cases hb : c = true
  · rw [if_pos hb] at p1 ⊢
    exact ⟨env, h1, μ1, P, ⟨S.re.mono x1, s1⟩, p1, l.ext x1⟩
  · rw [if_neg hb] at p1 ⊢
    exact ⟨env, h1, μ1, P, ⟨S.re.mono x1, s1⟩, p1, l.ext x1⟩
/-- a op b op' c -/
def wChain (r r' : D → D → MH → DK → Prop) (wa wb wc : DW) : DW := fun env h Q => wa env h fun x h1 => wb env h1 fun y h2 => r x y h2 fun z h3 => ∃ k, z = .bl k ∧ if k = true then wc env h3 fun t h4 => r' y t h4 Q else Q (.bl false) h3
theorem t_chain {K : PySem.W.Frag} {r r' : D → D → MH → DK → Prop} {wa wb wc : DW} : ∀ σ H Q, rd K (wChain r r' wa wb wc) σ H Q → tChain (rdO K r) (rdO K r') (rd K wa) (rd K wb) (rd K wc) σ H Q := fun σ H Q q => by
  obtain ⟨env, hh, μ, P, S, p, l⟩ := q
  refine ⟨env, hh, μ, _, S, p, fun x h1 v μ1 H1 p1 x1 s1 r1 => ?_⟩
  refine ⟨env, h1, μ1, _, ⟨S.re.mono x1, s1⟩, p1, fun y h2 u μ2 H2 p2 x2 s2 r2 => ?_⟩
  refine ⟨x, y, h2, μ2, _, s2, r1.mono x2, r2, p2, fun z h3 w μ3 H3 ⟨k, e, p3⟩ x3 s3 r3 => ?_⟩
  subst e
  refine ⟨k, rdBl r3, ?_⟩
  have x13 := (x1.trans x2).trans x3
  by_cases hb : k = true
  · rw [if_pos hb] at p3 ⊢
    refine ⟨env, h3, μ3, _, ⟨S.re.mono x13, s3⟩, p3, fun t h4 w μ4 H4 p4 x4 s4 r4 => ?_⟩
    exact ⟨y, t, h4, μ4, P, s4, r2.mono (x3.trans x4), r4, p4, l.ext (x13.trans x4)⟩
  · rw [if_neg hb] at p3 ⊢
    exact l _ h3 _ μ3 H3 p3 x13 s3 (.bl _)
theorem pd_chain {op op' : CmpOp} {a b c : Expr} {wa wb wc : DW} {pos : Pos} {r r' : D → D → MH → DK → Prop} (ho : OpD X (compareOp op) r) (ho' : OpD X (compareOp op') r') (ha : PD X a wa) (hb : PD X b wb) (hc : PD X c wc)
    (hm : PE X (.Compare a [op, op'] [b, c] pos) (tChain (rdO X.K r) (rdO X.K r') (rd X.K wa) (rd X.K wb) (rd X.K wc))) : PD X (.Compare a [op, op'] [b, c] pos) (wChain r r' wa wb wc) := pe_imp hm t_chain
theorem dt_chain {e : Expr} {wa wb wc : DW} {r r' : D → D → MH → DK → Prop} (hm : PT X e (tTest (tChain (rdO X.K r) (rdO X.K r') (rd X.K wa) (rd X.K wb) (rd X.K wc)))) : PDT X e (wT (wChain r r' wa wb wc)) :=
  pt_imp hm fun σ H Q q => t_chain _ _ _ (rdT_test _ _ _ q)

/-! # calls of built-ins -/
def rLen : List D → MH → DK → Prop := fun ds h Q =>
  match ds with
  | [.str x] => x.length ≤ sizeLine ∧ Q (.int x.length) h
  | [d] => ∃ xs, seqD h d = some xs ∧ Q (.int xs.length) h
  | _ => False
theorem rds1 {K : PySem.W.Frag} {μ : Wd} {H : Hp} {d : D} {vs : List V} (r : RDs K μ H [d] vs) : ∃ v, vs = [v] ∧ RD K μ H d v := by
  cases r with
  | cons h r => cases r; exact ⟨_, rfl, h⟩
theorem rds2 {K : PySem.W.Frag} {μ : Wd} {H : Hp} {d e : D} {vs : List V} (r : RDs K μ H [d, e] vs) : ∃ v w, vs = [v, w] ∧ RD K μ H d v ∧ RD K μ H e w := by
  cases r with
  | cons h r => obtain ⟨w, rfl, h2⟩ := rds1 r; exact ⟨_, _, rfl, h, h2⟩
theorem cd_len : CallD X (.builtin "len") rLen := by
  intro pins s σ H xs us Q I rv q
  obtain ⟨ds, h, μ, P, S, r, p, l⟩ := q
  unfold rLen at p
  split at p
  · obtain ⟨v, rfl, r1⟩ := rds1 r
    rw [rdStr r1] at rv
    exact call_len pins s σ H _ us Q I rv ⟨_, _, rfl, ⟨p.1, rfl⟩, l _ _ _ _ _ p.2 (Ext.refl _ _) S (.int _)⟩
  · obtain ⟨xs, e, p⟩ := p
    obtain ⟨v, rfl, r1⟩ := rds1 r
    obtain ⟨a, vs, rfl, h1, h2⟩ := rdSeq S r1 e
    refine call_len pins s σ H _ us Q I rv ⟨.ref a, vs.length, rfl, ?_, ?_⟩
    · rcases h1 with h1 | h1
      · exact .inl ⟨vs, h1, rfl⟩
      · exact .inr ⟨vs, h1, rfl⟩
    · rw [← h2.length]
      exact l _ _ _ _ _ p (Ext.refl _ _) S (.int _)
  · exact p.elim
def rTuple : List D → MH → DK → Prop := fun ds h Q => ∃ d xs, ds = [d] ∧ seqD h d = some xs ∧ Q (.tup xs) h
theorem cd_tuple : CallD X (.type "tuple") rTuple := by
  intro pins s σ H xs us Q I rv q
  obtain ⟨ds, h, μ, P, S, r, ⟨d, xs, rfl, e, p⟩, l⟩ := q
  obtain ⟨v, rfl, r1⟩ := rds1 r
  by_cases hd : ∃ ys, d = .tup ys
  · obtain ⟨ys, rfl⟩ := hd
    cases e
    obtain ⟨a, vs, rfl, h2, h3⟩ := rdTup r1
    exact call_tuple_of pins s σ H _ us Q I rv ⟨a, vs, rfl, .inr ⟨h2, l _ _ _ _ _ p (Ext.refl _ _) S r1⟩⟩
  · have e' : lstR h d = some xs := by
      cases d with
      | tup ys => exact absurd ⟨ys, rfl⟩ hd
      | _ => exact e
    obtain ⟨a, vs, rfl, h1, h2⟩ := rdLstR S r1 e'
    exact call_tuple_of pins s σ H _ us Q I rv ⟨a, vs, rfl, .inl ⟨h1, fun q hq => l _ _ _ _ _ p (Ext.new hq) (S.new hq) (.tup (.inl ⟨.inl upd_same, S.fresh hq⟩) (h2.mono (Ext.new hq)))⟩⟩
def rList (b : Bool) : List D → MH → DK → Prop := fun ds h Q => ∃ d xs, ds = [d] ∧ seqD h d = some xs ∧ qLst b xs h Q
theorem cd_list (b : Bool) : CallD X (.type "list") (rList b) := by
  intro pins s σ H xs us Q I rv q
  obtain ⟨ds, h, μ, P, S, r, ⟨d, xs, rfl, e, p⟩, l⟩ := q
  obtain ⟨v, rfl, r1⟩ := rds1 r
  obtain ⟨a, vs, rfl, h1, h2⟩ := rdSeq S r1 e
  exact call_list_of pins s σ H _ us Q I rv ⟨a, vs, rfl, h1, p.ok S h2 l⟩
def b2z (b : Bool) : Int := if b then 1 else 0
def rToInt : List D → MH → DK → Prop := fun ds h Q => (∃ i, ds = [.int i] ∧ Q (.int i) h) ∨ ∃ b, ds = [.bl b] ∧ Q (.int (b2z b)) h
theorem cd_int : CallD X (.type "int") rToInt := by
  intro pins s σ H xs us Q I rv q
  obtain ⟨ds, h, μ, P, S, r, p, l⟩ := q
  rcases p with ⟨i, rfl, p⟩ | ⟨i, rfl, p⟩
  · obtain ⟨v, rfl, r1⟩ := rds1 r
    rw [rdInt r1] at rv
    exact call_int1 pins s σ H _ us Q I rv (.inl ⟨_, rfl, l _ _ _ _ _ p (Ext.refl _ _) S (.int _)⟩)
  · obtain ⟨v, rfl, r1⟩ := rds1 r
    rw [rdBl r1] at rv
    exact call_int1 pins s σ H _ us Q I rv (.inr ⟨_, rfl, l _ _ _ _ _ p (Ext.refl _ _) S (.int _)⟩)
def rI1 (f : Int → Int) : List D → MH → DK → Prop := fun ds h Q => ∃ i, ds = [.int i] ∧ Q (.int (f i)) h
def rI2 (f : Int → Int → Int) : List D → MH → DK → Prop := fun ds h Q => ∃ i j, ds = [.int i, .int j] ∧ Q (.int (f i j)) h
abbrev rAbs := rI1 fun i => if i < 0 then -i else i
abbrev rMax2 := rI2 fun i j => if j > i then j else i
abbrev rMin2 := rI2 fun i j => if j < i then j else i
theorem cd_abs : CallD X (.builtin "abs") rAbs := by
  intro pins s σ H xs us Q I rv q
  obtain ⟨ds, h, μ, P, S, r, ⟨i, rfl, p⟩, l⟩ := q
  obtain ⟨v, rfl, r1⟩ := rds1 r
  rw [rdInt r1] at rv
  exact call_abs pins s σ H _ us Q I rv ⟨_, rfl, l _ _ _ _ _ p (Ext.refl _ _) S (.int _)⟩
theorem cd_max2 (hc : X.calm = true) : CallD X (.builtin "max") rMax2 := by
  intro pins s σ H xs us Q I rv q
  obtain ⟨ds, h, μ, P, S, r, ⟨i, j, rfl, p⟩, l⟩ := q
  obtain ⟨v, w, rfl, r1, r2⟩ := rds2 r
  rw [rdInt r1, rdInt r2] at rv
  exact call_max2 hc pins s σ H _ us Q I rv ⟨_, _, rfl, l _ _ _ _ _ p (Ext.refl _ _) S (.int _)⟩
theorem cd_min2 (hc : X.calm = true) : CallD X (.builtin "min") rMin2 := by
  intro pins s σ H xs us Q I rv q
  obtain ⟨ds, h, μ, P, S, r, ⟨i, j, rfl, p⟩, l⟩ := q
  obtain ⟨v, w, rfl, r1, r2⟩ := rds2 r
  rw [rdInt r1, rdInt r2] at rv
  exact call_min2 hc pins s σ H _ us Q I rv ⟨_, _, rfl, l _ _ _ _ _ p (Ext.refl _ _) S (.int _)⟩
theorem rds_ints {K : PySem.W.Frag} {μ : Wd} {H : Hp} : ∀ {ns : List Int} {vs : List V}, RDs K μ H (ns.map D.int) vs → vs = ns.map V.int
  | [], _, r => by cases r; rfl
  | n :: ns, _, r => by
    cases r with
    | cons h r => rw [rdInt h, rds_ints r, List.map_cons]
theorem rds_bls {K : PySem.W.Frag} {μ : Wd} {H : Hp} : ∀ {ns : List Bool} {vs : List V}, RDs K μ H (ns.map D.bl) vs → vs = ns.map V.bl
  | [], _, r => by cases r; rfl
  | n :: ns, _, r => by
    cases r with
    | cons h r => rw [rdBl h, rds_bls r, List.map_cons]
theorem rds_strs {K : PySem.W.Frag} {μ : Wd} {H : Hp} : ∀ {ns : List Str} {vs : List V}, RDs K μ H (ns.map D.str) vs → vs = ns.map V.str
  | [], _, r => by cases r; rfl
  | n :: ns, _, r => by
    cases r with
    | cons h r => rw [rdStr h, rds_strs r, List.map_cons]
def rSumI : List D → MH → DK → Prop := fun ds h Q => ∃ (d : D) (ns : List Int), ds = [d] ∧ lstR h d = some (ns.map D.int) ∧ Q (.int ns.sum) h
def rMaxL : List D → MH → DK → Prop := fun ds h Q => ∃ (d : D) (ns : List Int), ds = [d] ∧ lstR h d = some (ns.map D.int) ∧ 0 < ns.length ∧ ∀ m, m ∈ ns → (∀ y, y ∈ ns → y ≤ m) → Q (.int m) h
def rMinL : List D → MH → DK → Prop := fun ds h Q => ∃ (d : D) (ns : List Int), ds = [d] ∧ lstR h d = some (ns.map D.int) ∧ 0 < ns.length ∧ ∀ m, m ∈ ns → (∀ y, y ∈ ns → m ≤ y) → Q (.int m) h
def rAllB : List D → MH → DK → Prop := fun ds h Q => ∃ (d : D) (bs : List Bool), ds = [d] ∧ lstR h d = some (bs.map D.bl) ∧ Q (.bl (bs.all id)) h
def rAnyB : List D → MH → DK → Prop := fun ds h Q => ∃ (d : D) (bs : List Bool), ds = [d] ∧ lstR h d = some (bs.map D.bl) ∧ Q (.bl (bs.any id)) h
theorem cd_sum (hc : X.calm = true) : CallD X (.builtin "sum") rSumI := by
  intro pins s σ H xs us Q I rv q
  obtain ⟨ds, h, μ, P, S, r, ⟨d, ns, rfl, e, p⟩, l⟩ := q
  obtain ⟨v, rfl, r1⟩ := rds1 r
  obtain ⟨a, vs, rfl, h1, h2⟩ := rdLstR S r1 e
  rw [rds_ints h2] at h1
  exact cr_sum hc pins s σ H _ us Q I rv ⟨a, ns, rfl, h1, l _ _ _ _ _ p (Ext.refl _ _) S (.int _)⟩
theorem cd_maxL (hc : X.calm = true) : CallD X (.builtin "max") rMaxL := by
  intro pins s σ H xs us Q I rv q
  obtain ⟨ds, h, μ, P, S, r, ⟨d, ns, rfl, e, hn, p⟩, l⟩ := q
  obtain ⟨v, rfl, r1⟩ := rds1 r
  obtain ⟨a, vs, rfl, h1, h2⟩ := rdLstR S r1 e
  rw [rds_ints h2] at h1
  exact cr_max hc pins s σ H _ us Q I rv ⟨a, ns, rfl, h1, hn, fun m m1 m2 => l _ _ _ _ _ (p m m1 m2) (Ext.refl _ _) S (.int _)⟩
theorem cd_minL (hc : X.calm = true) : CallD X (.builtin "min") rMinL := by
  intro pins s σ H xs us Q I rv q
  obtain ⟨ds, h, μ, P, S, r, ⟨d, ns, rfl, e, hn, p⟩, l⟩ := q
  obtain ⟨v, rfl, r1⟩ := rds1 r
  obtain ⟨a, vs, rfl, h1, h2⟩ := rdLstR S r1 e
  rw [rds_ints h2] at h1
  exact cr_min hc pins s σ H _ us Q I rv ⟨a, ns, rfl, h1, hn, fun m m1 m2 => l _ _ _ _ _ (p m m1 m2) (Ext.refl _ _) S (.int _)⟩
theorem cd_all (hc : X.calm = true) : CallD X (.builtin "all") rAllB := by
  intro pins s σ H xs us Q I rv q
  obtain ⟨ds, h, μ, P, S, r, ⟨d, ns, rfl, e, p⟩, l⟩ := q
  obtain ⟨v, rfl, r1⟩ := rds1 r
  obtain ⟨a, vs, rfl, h1, h2⟩ := rdLstR S r1 e
  rw [rds_bls h2] at h1
  exact cr_all hc pins s σ H _ us Q I rv ⟨a, ns, rfl, h1, l _ _ _ _ _ p (Ext.refl _ _) S (.bl _)⟩
theorem cd_any (hc : X.calm = true) : CallD X (.builtin "any") rAnyB := by
  intro pins s σ H xs us Q I rv q
  obtain ⟨ds, h, μ, P, S, r, ⟨d, ns, rfl, e, p⟩, l⟩ := q
  obtain ⟨v, rfl, r1⟩ := rds1 r
  obtain ⟨a, vs, rfl, h1, h2⟩ := rdLstR S r1 e
  rw [rds_bls h2] at h1
  exact cr_any hc pins s σ H _ us Q I rv ⟨a, ns, rfl, h1, l _ _ _ _ _ p (Ext.refl _ _) S (.bl _)⟩
def rStrI : List D → MH → DK → Prop := fun ds h Q => ∃ i, ds = [.int i] ∧ i.natAbs.log2 < 1920 ∧ Q (.str (toString i)) h
theorem cd_str : CallD X (.type "str") rStrI := by
  intro pins s σ H xs us Q I rv q
  obtain ⟨ds, h, μ, P, S, r, ⟨i, rfl, c, p⟩, l⟩ := q
  obtain ⟨v, rfl, r1⟩ := rds1 r
  rw [rdInt r1] at rv
  exact call_str_int pins s σ H _ us Q I rv ⟨_, rfl, c, l _ _ _ _ _ p (Ext.refl _ _) S (.str _)⟩
end
end DL
namespace DL
open PySem PySem.Spec PyProof.Rows L2
section
variable {X : Cx}
/-! ## repr -/
/-- what is written fits: leaves of at most W signs, members as Ls tells -/
def Sz (W : Nat) : List Nat → D → Prop
  | _, .non => True
  | _, .bl _ => True
  | _, .int i => i.natAbs < 10 ^ 12
  | _, .str x => PyData.strOk x = true ∧ x.length ≤ W
  | L :: Ls, .tup xs => xs.length ≤ L ∧ ∀ x ∈ xs, Sz W Ls x
  | L :: Ls, .lv xs => xs.length ≤ L ∧ ∀ x ∈ xs, Sz W Ls x
  | L :: Ls, .scr xs => xs.length ≤ L ∧ ∀ x ∈ xs, Sz W Ls x
  | _, _ => False
def szW (W : Nat) : List Nat → Nat
  | [] => max W 42
  | L :: Ls => max (max W 42) (L * (szW W Ls + 1))
theorem szW_le (W : Nat) : ∀ Ls : List Nat, max W 42 ≤ szW W Ls
  | [] => Nat.le_refl _
  | L :: Ls => Nat.le_max_left _ _
theorem Sz.gd {W : Nat} : ∀ {Ls : List Nat} {d : D}, Sz W Ls d → Gd Ls.length d
  | [], d, h => by
    cases d <;> simp [Sz, Gd] at h ⊢
    exact h.1
  | L :: Ls, d, h => by
    cases d <;> simp [Sz, Gd] at h ⊢
    · exact h.1
    · exact fun x hx => Sz.gd (h.2 x hx)
    · exact fun x hx => Sz.gd (h.2 x hx)
    · exact fun x hx => Sz.gd (h.2 x hx)
theorem log_lt {i : Int} (h : i.natAbs < 10 ^ 12) : i.natAbs.log2 < 41 := by
  by_cases h0 : i.natAbs = 0
  · rw [h0]; decide
  · exact (Nat.log2_lt h0).mpr (by omega)
theorem strOk_short {x : Str} (h : PyData.strOk x = true) : (x.cps.toList.all fun c => decide (c < 16 ^ 8)) = true := by
  unfold PyData.strOk at h
  rw [List.all_eq_true]
  intro c hc
  rw [Array.all_eq_true'] at h
  have := h c (by simpa using hc)
  simp only [decide_eq_true_eq] at this ⊢
  omega
theorem sz_leaf {W : Nat} {Ls : List Nat} {d : D} (h : Sz W Ls d) (hf : flat d = true) : (toP d).showable = true ∧ (toP d).hasDict = false ∧ (toP d).leavesShort 13 = true ∧ (toP d).weight ≤ max W 42 := by
  cases d with
  | non => simp [toP, PyData.showable, PyData.hasDict, PyData.leavesShort, PyData.weight]
  | bl b => simp [toP, PyData.showable, PyData.hasDict, PyData.leavesShort, PyData.weight]
  | int i =>
    have h' : i.natAbs < 10 ^ 12 := by cases Ls <;> simpa [Sz] using h
    have hl := log_lt h'
    simp only [toP, PyData.showable, PyData.hasDict, PyData.leavesShort, PyData.weight]
    refine ⟨by simp; omega, trivial, by simpa using PyData.shown_int_le h', ?_⟩
    split <;> omega
  | str x =>
    have h' : PyData.strOk x = true ∧ x.length ≤ W := by cases Ls <;> simpa [Sz] using h
    simp only [toP, PyData.showable, PyData.hasDict, PyData.leavesShort, PyData.weight]
    refine ⟨trivial, trivial, strOk_short h'.1, ?_⟩
    have : x.cps.size = x.length := rfl
    omega
  | _ => cases hf
theorem sz_all {W : Nat} {Ls : List Nat} (ih : ∀ {d : D}, Sz W Ls d → (toP d).showable = true ∧ (toP d).hasDict = false ∧ (toP d).leavesShort 13 = true ∧ (toP d).weight ≤ szW W Ls) :
    ∀ {xs : List D}, (∀ x ∈ xs, Sz W Ls x) → PyData.showableAll (toPs xs) = true ∧ PyData.hasDictAll (toPs xs) = false ∧ PyData.leavesShortAll 13 (toPs xs) = true ∧ PyData.weightAll (toPs xs) ≤ xs.length * (szW W Ls + 1)
  | [], _ => by simp [toPs, PyData.showableAll, PyData.hasDictAll, PyData.leavesShortAll, PyData.weightAll]
  | x :: xs, h => by
    obtain ⟨a1, a2, a3, a4⟩ := ih (h x List.mem_cons_self)
    obtain ⟨b1, b2, b3, b4⟩ := sz_all ih (xs := xs) fun z hz => h z (List.mem_cons_of_mem _ hz)
    simp only [toPs, PyData.showableAll, PyData.hasDictAll, PyData.leavesShortAll, PyData.weightAll, a1, a2, a3, b1, b2, b3, List.length_cons, Nat.succ_mul]
    refine ⟨rfl, rfl, rfl, by omega⟩
theorem sz_fits {W : Nat} : ∀ {Ls : List Nat} {d : D}, Sz W Ls d → (toP d).showable = true ∧ (toP d).hasDict = false ∧ (toP d).leavesShort 13 = true ∧ (toP d).weight ≤ szW W Ls
  | [], d, h => by
    have hf : flat d = true := by cases d <;> first | rfl | simp [Sz] at h
    exact sz_leaf h hf
  | L :: Ls, d, h => by
    by_cases hf : flat d = true
    · obtain ⟨a1, a2, a3, a4⟩ := sz_leaf h hf
      exact ⟨a1, a2, a3, Nat.le_trans a4 (szW_le _ _)⟩
    · have key : ∀ {xs : List D}, xs.length ≤ L ∧ (∀ x ∈ xs, Sz W Ls x) → xs.length * (szW W Ls + 1) ≤ szW W (L :: Ls) := fun {xs} q => by
        show _ ≤ max (max W 42) (L * (szW W Ls + 1))
        exact Nat.le_trans (Nat.mul_le_mul_right _ q.1) (Nat.le_max_right _ _)
      cases d with
      | tup xs =>
        have h' : xs.length ≤ L ∧ ∀ x ∈ xs, Sz W Ls x := by simpa [Sz] using h
        obtain ⟨b1, b2, b3, b4⟩ := sz_all (W := W) (Ls := Ls) sz_fits h'.2
        simp only [toP, PyData.showable, PyData.hasDict, PyData.leavesShort, PyData.weight]
        exact ⟨b1, b2, b3, Nat.le_trans b4 (key h')⟩
      | lv xs =>
        have h' : xs.length ≤ L ∧ ∀ x ∈ xs, Sz W Ls x := by simpa [Sz] using h
        obtain ⟨b1, b2, b3, b4⟩ := sz_all (W := W) (Ls := Ls) sz_fits h'.2
        simp only [toP, PyData.showable, PyData.hasDict, PyData.leavesShort, PyData.weight]
        exact ⟨b1, b2, b3, Nat.le_trans b4 (key h')⟩
      | scr xs =>
        have h' : xs.length ≤ L ∧ ∀ x ∈ xs, Sz W Ls x := by simpa [Sz] using h
        obtain ⟨b1, b2, b3, b4⟩ := sz_all (W := W) (Ls := Ls) sz_fits h'.2
        simp only [toP, PyData.showable, PyData.hasDict, PyData.leavesShort, PyData.weight]
        exact ⟨b1, b2, b3, Nat.le_trans b4 (key h')⟩
      | ob _ => simp [Sz] at h
      | non => exact absurd rfl hf
      | bl _ => exact absurd rfl hf
      | int _ => exact absurd rfl hf
      | str _ => exact absurd rfl hf
/-- the written text -/
def shw (d : D) : Str := (toP d).shown
def rRepr : List D → MH → DK → Prop := fun ds h Q => ∃ d d' W Ls, ds = [d] ∧ Rs h d d' ∧ Sz W Ls d' ∧ szW W Ls ≤ 2 ^ 20 ∧ Ls.length ≤ 60 ∧ Q (.str (shw d')) h
theorem cd_repr (hg : X.A.guards = some []) (hu : X.A.units + 64 < cLine) : CallD X (.builtin "repr") rRepr := by
  intro pins s σ H xs us Q I rv q
  obtain ⟨ds, h, μ, P, S, r, ⟨d, d', W, Ls, rfl, z, sz, hw, hl, p⟩, l⟩ := q
  obtain ⟨v, rfl, r1⟩ := rds1 r
  obtain ⟨u, rfl, ru⟩ := vals1 rv
  obtain ⟨f1, f2, f3, f4⟩ := sz_fits sz
  have hfit : (toP d').shown.length ≤ sizeLine := PyData.shown_fits (B := 13) (by omega) (by omega) f3 (Nat.le_trans f4 hw)
  have hgd := sz.gd
  have hdp := can_of hgd
  have dd := z.dp S r1 hgd
  have fin : ∀ (u : Tok) (s' : Shared), Inv X pins σ H s' → EP X pins σ Q (.str (shw d') u) s' := fun u s' I' => ⟨.str (shw d'), H, I', ⟨u, rfl⟩, l _ _ _ _ _ p (Ext.refl _ _) S (.str _)⟩
  have two : ∀ a, u = .ref a → wpAny (model X.prog X.w) X.A (call (.builtin "repr") [u]) (EP X pins σ Q) X.xe s := fun a ea => by
    obtain ⟨as, hr⟩ := Dp.reads I _ _ u dd ru
    subst ea
    exact repr_of_reads' hr f1 (PyData.noDict_hsm f2) hg (by omega) (fun _ _ e => e) (fun h' tk tk' hk => fin tk _ (I.kept (t' := tk') hk)) hfit
  cases r1 with
  | non =>
    cases ru
    have e : d' = .non := by rcases z with z | ⟨_, _, z, _⟩ <;> first | exact z | cases z
    subst e
    exact PySem.P.repr_of_none (fin _ _ (I.tok _))
  | bl b =>
    cases ru
    have e : d' = .bl b := by rcases z with z | ⟨_, _, z, _⟩ <;> first | exact z | cases z
    subst e
    exact PySem.P.repr_of_bool (by simpa [shw, toP, PyData.shown] using fin _ _ (I.tok _))
  | int i =>
    obtain ⟨t, rfl⟩ := ru
    have e : d' = .int i := by rcases z with z | ⟨_, _, z, _⟩ <;> first | exact z | cases z
    subst e
    exact PySem.P.repr_of_int (by simpa [toP, PyData.showable] using f1) (fin _ _ (I.tok _))
  | str x =>
    obtain ⟨t, rfl⟩ := ru
    have e : d' = .str x := by rcases z with z | ⟨_, _, z, _⟩ <;> first | exact z | cases z
    subst e
    exact PySem.P.repr_of_str (fin _ _ (I.tok _)) (by simpa [toP, PyData.shown] using hfit)
  | tup _ _ => cases ru; exact two _ rfl
  | lv _ _ _ _ => cases ru; exact two _ rfl
  | scr _ _ => cases ru; exact two _ rfl
  | ob _ => cases ru; exact two _ rfl
end
end DL
namespace DL
open PySem PySem.Spec PyProof.Rows L2
/-- xs.extend(t), t any tuple -/
theorem meets_extT (p q : Addr) (xs ys : Array Value) (k m : Nat) (dy : Option Addr) (sy : Array (Option Value)) (h1 : ¬(!xs.isEmpty && Builtin.List.listTooLong (xs.size + ys.size)) = true) (h2 : xs.size ≤ sizeLine) (h3 : xs.size + ys.size ≤ sizeLine + 1) :
    Meets (Builtin.«list.extend» ⟨[.ref p, .ref q], []⟩) (fun _ R s =>
      s.heap.get? p = some { cls := .type "list", dict := none, data := .seq xs k, slots := #[] } ∧
      s.heap.get? q = some ⟨.type "tuple", dy, .seq ys m, sy⟩ ∧
      R (.ok (.ret Value.none)) { s with heap := s.heap.update p (Obj.mapSeq fun z => z ++ ys), toks := s.toks }) :=
  .of_wp fun prog w A R s h => by
    obtain ⟨a1, a2, a3, a4, a5⟩ := s
    obtain ⟨hp, hq, h⟩ := h
    have i1 := PySem.AutoSeq1.idx_int
    have i2 := PySem.AutoSeq1.sub_tuple_tuple
    have i3 := PySem.AutoSeq1.sub_list_list
    have i4 := PySem.AutoSeq1.sub_tuple_list
    have i5 := PySem.AutoSeq1.sub_list_tuple
    have hz : (xs ++ ys).size ≤ sizeLine + 1 := by
      rw [Array.size_append]
      exact h3
    wp_walk using (wpAny_updateSeq hp rfl (hz := h2) (_hz' := hz)), PySem.AutoSeq1.wpAny_loadPart' hp, PySem.AutoSeq1.wpAny_loadPart' hq
    exact ⟨_, rfl, h⟩
section
variable {X : Cx}
def xExtT (K : PySem.W.Frag) : V → List V → Hp → VK → Prop := fun x vs H Q => ∃ l b xs zs, x = .ref l ∧ vs = [.ref b] ∧ H l = some (.lst xs) ∧ SqT K H b zs ∧ xs.length + zs.length ≤ sizeLine ∧ Q .non (upd H l (.lst (xs ++ zs)))
theorem mt_extT : MtM X "list.extend" (xExtT X.K) := by
  intro pins s σ H x vs v us Q I rx rv q
  obtain ⟨l, b, xs, zs, rfl, rfl, hL, hT, hz, q⟩ := q
  cases rx
  obtain ⟨u, rfl, ru⟩ := rv.one
  cases ru
  obtain ⟨z, its, n, r, hl, e⟩ := I.lstM hL
  obtain ⟨its2, r2, ⟨⟨c2, d2, t2, s2⟩, e2, hc2, n2, hd2⟩, hz2⟩ := I.tuple hT
  simp only at hc2 hd2
  subst hc2 hd2
  have l1 := r.length
  have l2 := r2.length
  have hsz : its.toArray.size + its2.toArray.size ≤ sizeLine := by rw [List.size_toArray, List.size_toArray]; omega
  have hlong : ¬ (!its.toArray.isEmpty && Builtin.List.listTooLong (its.toArray.size + its2.toArray.size)) = true := by
    rw [notLongL hsz, Bool.and_false]; exact Bool.false_ne_true
  refine call_meets F.slot_list_extend ⟨_, e, rfl⟩ F.entry_list_extend (F.args_list_extend_2 _ _) (meets_extT l b its.toArray its2.toArray n n2 d2 s2 hlong (by rw [List.size_toArray]; omega) (by omega)) ⟨e, e2, ?_⟩
  refine ⟨.non, _, I.lset (its' := its ++ its2) hL e (by simp) (r.append r2) ?_, rfl, q⟩
  rw [List.length_append]; omega

/-! # methods -/
inductive Kd where | list | tup | str | dic
abbrev Kd.nm : Kd → String
  | .list => "list" | .tup => "tuple" | .str => "str" | .dic => "dict"
def Kd.ok (h : MH) (d : D) : Kd → Prop
  | .list => ∃ xs, lstR h d = some xs
  | .tup => False
  | .str => ∃ x, d = .str x
  | .dic => ∃ n kvs, d = .ob n ∧ h[n]? = some (.dic kvs)
theorem Kd.ty {K : PySem.W.Frag} {μ : Wd} {H : Hp} {h : MH} {d : D} {v : V} (s : SimH K h μ H) (r : RD K μ H d v) : ∀ {k : Kd}, k.ok h d → tyV K k.nm v H
  | .list, ⟨xs, e⟩ => by
    obtain ⟨a, vs, rfl, h1, _⟩ := rdLstR s r e
    exact .inl ⟨rfl, vs, h1⟩
  | .str, ⟨x, e⟩ => by
    subst e
    rw [rdStr r]
    exact (rfl : "str" = "str")
  | .dic, ⟨n, kvs, e, e2⟩ => by
    subst e
    obtain ⟨a, ha, ws, hw, _⟩ := s.at_ n _ e2
    cases r with
    | ob hb => rw [ha] at hb; cases hb; exact .inr (.inr (.inl ⟨rfl, .inl ⟨ws, hw⟩⟩))
def wMt (k : Kd) (r : D → List D → MH → DK → Prop) (wo : DW) (was : DA) : DW := fun env h Q => wo env h fun d h1 => k.ok h1 d ∧ was env h1 fun ds h2 => r d ds h2 Q
def wMt0 (k : Kd) (r : D → List D → MH → DK → Prop) (wo : DW) : DW := fun env h Q => wo env h fun d h1 => k.ok h1 d ∧ r d [] h1 Q
theorem pd_mt (k : Kd) {id : String} {o e : Expr} {es : List Expr} {name : Str} {apos cpos : Pos} {wo : DW} {was : DA} {r : D → List D → MH → DK → Prop} (pa : PlainAttrs k.nm) (slot : Slot k.nm name id) (hty : typeOf (.builtin id) = pure (.type "method_descriptor"))
    (hm : MtD X id r) (ho : PD X o wo) (ha : PDA X (e :: es) was) (hp : PE X (.Call (.Attribute o name apos) (e :: es) [] cpos) (tBM X.K k.nm (rdM X.K r) (rd X.K wo) (rdA X.K was))) : PD X (.Call (.Attribute o name apos) (e :: es) [] cpos) (wMt k r wo was) := by
  refine pe_imp hp fun σ H Q q => ?_
  obtain ⟨env, hh, μ, P, S, p, l⟩ := q
  refine ⟨env, hh, μ, _, S, p, fun d h1 v μ1 H1 ⟨p0, p1⟩ x1 s1 r1 => ⟨Kd.ty s1 r1 p0, ?_⟩⟩
  refine ⟨env, h1, μ1, _, ⟨S.re.mono x1, s1⟩, p1, fun ds h2 vs μ2 H2 p2 x2 s2 r2 => ?_⟩
  exact ⟨d, ds, h2, μ2, P, s2, r1.mono x2, r2, p2, l.ext (x1.trans x2)⟩
theorem pd_mt0 (k : Kd) {id : String} {o : Expr} {name : Str} {apos cpos : Pos} {wo : DW} {r : D → List D → MH → DK → Prop} (pa : PlainAttrs k.nm) (slot : Slot k.nm name id) (hty : typeOf (.builtin id) = pure (.type "method_descriptor"))
    (hm : MtD X id r) (ho : PD X o wo) (hp : PE X (.Call (.Attribute o name apos) [] [] cpos) (tBM0 X.K k.nm (rdM X.K r) (rd X.K wo))) : PD X (.Call (.Attribute o name apos) [] [] cpos) (wMt0 k r wo) := by
  refine pe_imp hp fun σ H Q q => ?_
  obtain ⟨env, hh, μ, P, S, p, l⟩ := q
  refine ⟨env, hh, μ, _, S, p, fun d h1 v μ1 H1 ⟨p0, p1⟩ x1 s1 r1 => ⟨Kd.ty s1 r1 p0, ?_⟩⟩
  exact ⟨d, [], h1, μ1, P, s1, r1, .nil, p1, l.ext x1⟩
/-! ## lists -/
def mAppend : D → List D → MH → DK → Prop := fun x ds h Q => ∃ n xs y, x = .ob n ∧ ds = [y] ∧ h[n]? = some (.lst xs) ∧ xs.length < sizeLine ∧ Q .non (h.set n (.lst (xs ++ [y])))
theorem md_append : MtD X "list.append" mAppend := by
  intro pins s σ H x vs v us Q I rx rv q
  obtain ⟨d, ds, h, μ, P, S, r1, r2, ⟨n, xs, y, rfl, rfl, e, hz, p⟩, l⟩ := q
  obtain ⟨a, ws, rfl, ha, hw, r3⟩ := obL S r1 e
  obtain ⟨w, rfl, r4⟩ := rds1 r2
  refine mt_append pins s σ H _ _ v us Q I rx rv ⟨a, ws, w, rfl, rfl, hw, by rw [← r3.length]; exact hz, ?_⟩
  have hm : a ∈ μ.mu := List.mem_of_getElem? ha
  exact l _ _ _ _ _ p (Ext.chg hm) (S.chg ha ⟨_, upd_same, (r3.append (.one r4)).mono (Ext.chg hm)⟩) .non
def mExtend : D → List D → MH → DK → Prop := fun x ds h Q => ∃ n xs y ys, x = .ob n ∧ ds = [y] ∧ h[n]? = some (.lst xs) ∧ seqD h y = some ys ∧ (∀ zs, y ≠ .scr zs) ∧ xs.length + ys.length ≤ sizeLine ∧ Q .non (h.set n (.lst (xs ++ ys)))
theorem md_extend : MtD X "list.extend" mExtend := by
  intro pins s σ H x vs v us Q I rx rv q
  obtain ⟨d, ds, h, μ, P, S, r1, r2, ⟨n, xs, y, ys, rfl, rfl, e, e2, hns, hz, p⟩, l⟩ := q
  obtain ⟨a, ws, rfl, ha, hw, r3⟩ := obL S r1 e
  obtain ⟨w, rfl, r4⟩ := rds1 r2
  have hm : a ∈ μ.mu := List.mem_of_getElem? ha
  have fin : ∀ {zs : List V}, RDs X.K μ H ys zs → Q .non (upd H a (.lst (ws ++ zs))) := fun {zs} r5 =>
    l _ _ _ _ _ p (Ext.chg hm) (S.chg ha ⟨_, upd_same, (r3.append r5).mono (Ext.chg hm)⟩) .non
  by_cases hd : ∃ zs, y = .tup zs
  · obtain ⟨zs, rfl⟩ := hd
    cases e2
    obtain ⟨c, us', rfl, h5, r5⟩ := rdTup r4
    exact mt_extT pins s σ H _ _ v us Q I rx rv ⟨a, c, ws, us', rfl, rfl, hw, h5, by rw [← r3.length, ← r5.length]; exact hz, fin r5⟩
  · have e' : lstD h y = some ys := by
      cases y with
      | tup zs => exact absurd ⟨zs, rfl⟩ hd
      | scr zs => exact absurd rfl (hns zs)
      | _ => exact e2
    obtain ⟨c, us', rfl, h5, r5⟩ := rdLst S r4 e'
    exact mt_extend pins s σ H _ _ v us Q I rx rv ⟨a, c, ws, us', rfl, rfl, hw, h5, by rw [← r3.length, ← r5.length]; exact hz, fin r5⟩
def mPop : D → List D → MH → DK → Prop := fun x ds h Q => ∃ n xs y, x = .ob n ∧ ds = [] ∧ h[n]? = some (.lst xs) ∧ xs[xs.length - 1]? = some y ∧ Q y (h.set n (.lst xs.dropLast))
theorem md_pop : MtD X "list.pop" mPop := by
  intro pins s σ H x vs v us Q I rx rv q
  obtain ⟨d, ds, h, μ, P, S, r1, r2, ⟨n, xs, y, rfl, rfl, e, hy, p⟩, l⟩ := q
  obtain ⟨a, ws, rfl, ha, hw, r3⟩ := obL S r1 e
  cases r2
  obtain ⟨w, h6, r6⟩ := r3.get hy
  have hm : a ∈ μ.mu := List.mem_of_getElem? ha
  refine mt_pop pins s σ H _ _ v us Q I rx rv ⟨a, ws, w, rfl, rfl, hw, by rw [← r3.length]; exact h6, ?_⟩
  exact l _ _ _ _ _ p (Ext.chg hm) (S.chg ha ⟨_, upd_same, r3.dropLast.mono (Ext.chg hm)⟩) (r6.mono (Ext.chg hm))
def mIndex : D → List D → MH → DK → Prop := fun x ds h Q => ∃ xs y j z, ds = [y] ∧ lstR h x = some xs ∧ Gd 50 y ∧ (∀ u ∈ xs, Gd 50 u) ∧ xs[j]? = some z ∧ eqD z y = true ∧ (∀ (m : Nat) (u : D), m < j → xs[m]? = some u → eqD u y = false) ∧ Q (.int (j : Nat)) h
theorem md_index (hu : X.A.units + 65 < cLine) : MtD X "list.index" mIndex := by
  intro pins s σ H x vs v us Q I rx rv q
  obtain ⟨d, ds, h, μ, P, S, r1, r2, ⟨xs, y, j, z, rfl, e, g1, g2, hj, hz, hno, p⟩, l⟩ := q
  obtain ⟨w, rfl, r4⟩ := rds1 r2
  have dl := dpl_of S r1 e g2
  obtain ⟨a, ws, rfl, hw, r3⟩ := rdLstR S r1 e
  have hz' : z ∈ xs := List.mem_of_getElem? hj
  refine mt_indexD hu pins s σ H _ _ v us Q I rx rv ⟨a, w, _, _, j, toP z, rfl, rfl, dl, dp_of r4 g1, lshaped g2 (by omega), shaped_of g1 (by omega), ?_, ?_, fun m u' hm hu' => ?_, l _ _ _ _ _ p (Ext.refl _ _) S (.int _)⟩
  · rw [toPs_map, List.getElem?_map, hj]; rfl
  · rw [eqv_eqD (g2 z hz') g1]; exact hz
  · rw [toPs_map, List.getElem?_map] at hu'
    cases q : xs[m]? with
    | none => rw [q] at hu'; cases hu'
    | some u =>
      rw [q] at hu'
      cases hu'
      rw [eqv_eqD (g2 u (List.mem_of_getElem? q)) g1]
      exact hno m u hm q
def mJoin : D → List D → MH → DK → Prop := fun x ds h Q => ∃ a y ys, x = .str a ∧ ds = [y] ∧ seqD h y = some (ys.map D.str) ∧ (ys.map Str.length).sum + ys.length * a.length ≤ 16777216 ∧ Q (.str (Txt.join a ys)) h
theorem md_join : MtD X "str.join" mJoin := by
  intro pins s σ H x vs v us Q I rx rv q
  obtain ⟨d, ds, h, μ, P, S, r1, r2, ⟨a, y, ys, rfl, rfl, e, hz, p⟩, l⟩ := q
  obtain ⟨w, rfl, r4⟩ := rds1 r2
  obtain ⟨c, ws, rfl, h5, r5⟩ := rdSeq S r4 e
  rw [rds_strs r5] at h5
  exact mt_join pins s σ H _ _ v us Q I rx rv ⟨a, c, ys, rdStr r1, rfl, h5, hz, l _ _ _ _ _ p (Ext.refl _ _) S (.str _)⟩

/-! # subscripts -/
def rIx : D → D → MH → DK → Prop := fun x y h Q =>
  match x with
  | .str z => ∃ i c, y = .int i ∧ z.length ≤ sizeLine ∧ atI z.cps.toList i = some c ∧ Q (.str ⟨#[c]⟩) h
  | x => ∃ xs i d, seqD h x = some xs ∧ y = .int i ∧ atI xs i = some d ∧ Q d h
theorem RDs.atI {K : PySem.W.Frag} {μ : Wd} {H : Hp} {ds : List D} {vs : List V} {i : Int} {d : D} (r : RDs K μ H ds vs) (e : L2.atI ds i = some d) : ∃ v, L2.atI vs i = some v ∧ RD K μ H d v := by
  unfold L2.atI at e ⊢
  rw [← r.length]
  cases q : ixN ds.length i with
  | none => rw [q] at e; cases e
  | some j =>
    rw [q] at e
    exact r.get e
theorem xd_seq : IxD X rIx := by
  intro value slice pins s σ H x y v u Q I rx ry q hs
  obtain ⟨d, e, h, μ, P, S, r1, r2, p, l⟩ := q
  unfold rIx at p
  split at p
  · obtain ⟨i, c, rfl, hz, hc, p⟩ := p
    exact ix_seq value slice pins s σ H _ _ v u Q I rx ry (.inr (.inr ⟨_, i, c, rdStr r1, rdInt r2, hz, hc, l _ _ _ _ _ p (Ext.refl _ _) S (.str _)⟩)) hs
  · obtain ⟨xs, i, z, e1, rfl, e2, p⟩ := p
    obtain ⟨a, vs, rfl, h1, r3⟩ := rdSeq S r1 e1
    obtain ⟨w, h4, r4⟩ := r3.atI e2
    have fin := l _ _ _ _ _ p (Ext.refl _ _) S r4
    rcases h1 with h1 | h1
    · exact ix_seq value slice pins s σ H _ _ v u Q I rx ry (.inl ⟨a, vs, i, w, rfl, rdInt r2, h1, h4, fin⟩) hs
    · exact ix_seq value slice pins s σ H _ _ v u Q I rx ry (.inr (.inl ⟨a, vs, i, w, rfl, rdInt r2, h1, h4, fin⟩)) hs
/-! ## slices -/
abbrev DO := Env → MH → (Option Int → MH → Prop) → Prop
def rdOp (K : PySem.W.Frag) (w : DO) : TO := fun σ H Q => ∃ env h μ P, Sm K env h μ σ H ∧ w env h P ∧ ∀ i h' μ' H', P i h' → Ext μ H μ' H' → SimH K h' μ' H' → Q i H'
def PDO (X : Cx) (e : Option Expr) (w : DO) : Prop := PO X e (rdOp X.K w)
def wNo : DO := fun _ h Q => Q none h
def wPart (w : DW) : DO := fun env h Q => w env h fun d h1 => ∃ i, d = .int i ∧ Q (some i) h1
theorem po_imp {e : Option Expr} {t t' : TO} (h : PO X e t) (i : ∀ σ H Q, t' σ H Q → t σ H Q) : PO X e t' := ⟨fun p s σ H Q I q => h.run p s σ H Q I (i σ H Q q)⟩
theorem pdo_none : PDO X none wNo := by
  refine po_imp po_none fun σ H Q q => ?_
  obtain ⟨env, hh, μ, P, S, p, l⟩ := q
  exact l none hh μ H p (Ext.refl _ _) S.sh
theorem pdo_some {e : Expr} {w : DW} (h : PD X e w) : PDO X (some e) (wPart w) := by
  refine po_imp (po_some h) fun σ H Q q => ?_
  obtain ⟨env, hh, μ, P, S, p, l⟩ := q
  refine ⟨env, hh, μ, _, S, p, fun d h1 v μ1 H1 ⟨i, e, p1⟩ x1 s1 r1 => ?_⟩
  subst e
  exact ⟨i, rdInt r1, l _ h1 μ1 H1 p1 x1 s1⟩
/-- the members of xs[lo:hi] -/
def cutD (xs : List D) (lo hi : Option Int) : List D := (xs.drop (HT.sIx xs.length 0 lo)).take (HT.sIx xs.length xs.length hi - HT.sIx xs.length 0 lo)
theorem RDs.cut {K : PySem.W.Frag} {μ : Wd} {H : Hp} {ds : List D} {vs : List V} (r : RDs K μ H ds vs) (lo hi : Option Int) : RDs K μ H (cutD ds lo hi) (cutV vs lo hi) := by
  unfold cutD cutV
  rw [← r.length]
  exact (r.drop _).take _
def rSl (b : Bool) : D → Option Int → Option Int → MH → DK → Prop := fun x lo hi h Q =>
  match x with
  | .str z => z.length ≤ sizeLine ∧ Q (.str (cutS z lo hi)) h
  | .tup xs => Q (.tup (cutD xs lo hi)) h
  | x => ∃ xs, lstR h x = some xs ∧ qLst b (cutD xs lo hi) h Q
def rdSl (K : PySem.W.Frag) (r : D → Option Int → Option Int → MH → DK → Prop) : V → Option Int → Option Int → Hp → VK → Prop := fun x lo hi H Q => ∃ d h μ P, SimH K h μ H ∧ RD K μ H d x ∧ r d lo hi h P ∧ LkE K P μ H Q
theorem cut_whole (xs : List D) (lo hi : Option Int) (h : HT.sIx xs.length 0 lo = 0 ∧ HT.sIx xs.length xs.length hi = xs.length) : cutD xs lo hi = xs := by
  unfold cutD
  rw [h.1, h.2, Nat.sub_zero, List.drop_zero, List.take_length]
theorem sd_seq (b : Bool) : SlR X (rdSl X.K (rSl b)) := by
  intro pins s σ H x v vl vu lo hi sl Q I rx hs pl pu q
  obtain ⟨d, h, μ, P, S, r1, p, l⟩ := q
  unfold rSl at p
  split at p
  · exact sl_str pins s σ H _ v vl vu lo hi sl Q I rx hs pl pu ⟨_, rdStr r1, p.1, l _ _ _ _ _ p.2 (Ext.refl _ _) S (.str _)⟩
  · rename_i xs
    cases r1 with
    | tup h2 h3 =>
      refine sl_tupA pins s σ H _ v vl vu lo hi sl Q I rx hs pl pu ⟨_, _, rfl, sqt h2, fun hw => ?_, fun _ q hq => ?_⟩
      · rw [← h3.length] at hw
        rw [cut_whole _ _ _ hw] at p
        exact l _ _ _ _ _ p (Ext.refl _ _) S (.tup h2 h3)
      · exact l _ _ _ _ _ p (Ext.new hq) (S.new hq) (.tup (.inl ⟨.inl upd_same, S.fresh hq⟩) ((h3.cut lo hi).mono (Ext.new hq)))
  · obtain ⟨xs, e, p⟩ := p
    obtain ⟨a, vs, rfl, h2, h3⟩ := rdLstR S r1 e
    exact sl_list pins s σ H _ v vl vu lo hi sl Q I rx hs pl pu ⟨a, vs, rfl, h2, p.ok S (h3.cut lo hi) l⟩
def wSl (b : Bool) (w : DW) (wl wh : DO) : DW := fun env h Q => w env h fun x h1 => wl env h1 fun lo h2 => wh env h2 fun hi h3 => rSl b x lo hi h3 Q
theorem pd_slice (b : Bool) {e : Expr} {lo hi : Option Expr} {w : DW} {wl wh : DO} {p2 pos : Pos} (he : PD X e w) (hl : PDO X lo wl) (hh : PDO X hi wh) (hp : PE X (.Subscript e (.Slice lo hi none p2) pos) (tSl (rdSl X.K (rSl b)) (rd X.K w) (rdOp X.K wl) (rdOp X.K wh))) :
    PD X (.Subscript e (.Slice lo hi none p2) pos) (wSl b w wl wh) := by
  refine pe_imp hp fun σ H Q q => ?_
  obtain ⟨env, hh, μ, P, S, p, l⟩ := q
  refine ⟨env, hh, μ, _, S, p, fun d h1 v μ1 H1 p1 x1 s1 r1 => ?_⟩
  refine ⟨env, h1, μ1, _, ⟨S.re.mono x1, s1⟩, p1, fun i h2 μ2 H2 p2 x2 s2 => ?_⟩
  refine ⟨env, h2, μ2, _, ⟨S.re.mono (x1.trans x2), s2⟩, p2, fun j h3 μ3 H3 p3 x3 s3 => ?_⟩
  exact ⟨d, h3, μ3, P, s3, r1.mono (x2.trans x3), p3, l.ext ((x1.trans x2).trans x3)⟩
/-- xs[::-1] -/
def wRev (b : Bool) (w : DW) : DW := fun env h Q => w env h fun x h1 => ∃ xs, lstR h1 x = some xs ∧ qLst b xs.reverse h1 Q
theorem RDs.rev {K : PySem.W.Frag} {μ : Wd} {H : Hp} : ∀ {ds : List D} {vs : List V}, RDs K μ H ds vs → RDs K μ H ds.reverse vs.reverse
  | _, _, .nil => .nil
  | _, _, .cons h r => by
    rw [List.reverse_cons, List.reverse_cons]
    exact r.rev.append (.one h)
theorem pd_rev (b : Bool) {e : Expr} {w : DW} {k : Nat} {p1 p2 p3 pos : Pos} (he : PD X e w) : PD X (.Subscript e (.Slice none none (some (.UnaryOp .USub (.Constant (.int 1) k p1) p2)) p3) pos) (wRev b w) := by
  refine pe_imp (pe_revL he) fun σ H Q q => ?_
  obtain ⟨env, hh, μ, P, S, p, l⟩ := q
  refine ⟨env, hh, μ, _, S, p, fun d h1 v μ1 H1 ⟨xs, e, p1⟩ x1 s1 r1 => ?_⟩
  obtain ⟨a, vs, rfl, h2, h3⟩ := rdLstR s1 r1 e
  exact ⟨a, vs, rfl, h2, p1.ok s1 h3.rev (l.ext x1)⟩
/-- (*xs, ..) -/
def wStar (w : DW) (ws : DA) : DA := fun env h Q => w env h fun d h1 => ∃ xs, seqD h1 d = some xs ∧ ws env h1 fun ds h2 => Q (xs ++ ds) h2
theorem pda_star {e : Expr} {es : List Expr} {p : Pos} {w : DW} {ws : DA} (he : PD X e w) (hr : PDA X es ws) (hp : PA X (.Starred e p :: es) (StX.tStar X.K (rd X.K w) (rdA X.K ws))) : PDA X (.Starred e p :: es) (wStar w ws) := by
  refine pa_imp hp fun σ H Q q => ?_
  obtain ⟨env, hh, μ, P, S, p, l⟩ := q
  refine ⟨env, hh, μ, _, S, p, fun d h1 v μ1 H1 ⟨xs, e, p1⟩ x1 s1 r1 => ?_⟩
  obtain ⟨a, vs, rfl, h2, h3⟩ := rdSeq s1 r1 e
  refine ⟨a, vs, rfl, h2.symm, env, h1, μ1, _, ⟨S.re.mono x1, s1⟩, p1, fun ds h2 ws μ2 H2 p2 x2 s2 r2 => ?_⟩
  exact l _ h2 _ μ2 H2 p2 (x1.trans x2) s2 ((h3.mono x2).append r2)
end
end DL
namespace DL
open PySem PySem.Spec PyProof.Rows L2
section
variable {X : Cx}
/-! # statements -/
def sNil : DS := fun E env h => E.nx env h
def sSeq (a b : DS) : DS := fun E env h => a { E with nx := b E } env h
theorem ds_nil : PDSs X [] sNil := by
  refine pss_imp pss_nil fun Dn σ H q => ?_
  obtain ⟨env, h, μ, E, S, p, l⟩ := q
  exact l.nx _ _ _ _ _ p (Ext.refl _ _) S
theorem ds_cons {st : Stmt} {rest : List Stmt} {a b : DS} (h1 : PDS X st a) (h2 : PDSs X rest b) : PDSs X (st :: rest) (sSeq a b) := by
  refine pss_imp (pss_cons h1 h2) fun Dn σ H q => ?_
  obtain ⟨env, h, μ, E, S, p, l⟩ := q
  refine ⟨env, h, μ, _, S, p, ⟨fun env' h' μ' σ' H' p' x' S' => ?_, l.rt, l.bk, l.ct⟩⟩
  exact ⟨env', h', μ', E, S', p', l.ext x'⟩
theorem ds_one {st : Stmt} {a : DS} (h1 : PDS X st a) : PDSs X [st] a := pss_one h1
def sNever : DS := fun _ _ _ => False
theorem ds_never {st : Stmt} : PDS X st sNever := ⟨fun _ _ _ _ _ _ h => by obtain ⟨_, _, _, _, _, h, _⟩ := h; exact h.elim⟩
theorem dss_never {st : List Stmt} : PDSs X st sNever := ⟨fun _ _ _ _ _ _ h => by obtain ⟨_, _, _, _, _, h, _⟩ := h; exact h.elim⟩
theorem ds_pass {pos} : PDS X (.Pass pos) sNil := by
  refine ps_imp ps_pass fun Dn σ H q => ?_
  obtain ⟨env, h, μ, E, S, p, l⟩ := q
  exact l.nx _ _ _ _ _ p (Ext.refl _ _) S
def sBrk : DS := fun E env h => E.bk env h
def sCnt : DS := fun E env h => E.ct env h
theorem ds_break {pos} : PDS X (.Break pos) sBrk := by
  refine ps_imp ps_break fun Dn σ H q => ?_
  obtain ⟨env, h, μ, E, S, p, l⟩ := q
  exact l.bk _ _ _ _ _ p (Ext.refl _ _) S
theorem ds_continue {pos} : PDS X (.Continue pos) sCnt := by
  refine ps_imp ps_continue fun Dn σ H q => ?_
  obtain ⟨env, h, μ, E, S, p, l⟩ := q
  exact l.ct _ _ _ _ _ p (Ext.refl _ _) S
def sExp (w : DW) : DS := fun E env h => w env h fun _ h1 => E.nx env h1
theorem ds_expr {e : Expr} {w : DW} {pos : Pos} (he : PD X e w) (hs : swapsWith e none pos.line X.env = pure false := by rfl) : PDS X (.Expr e pos) (sExp w) := by
  refine ps_imp (ps_expr he hs) fun Dn σ H q => ?_
  obtain ⟨env, h, μ, E, S, p, l⟩ := q
  exact ⟨env, h, μ, _, S, p, fun d h1 v μ1 H1 p1 x1 s1 r1 => l.nx _ _ _ _ _ p1 x1 ⟨S.re.mono x1, s1⟩⟩
def sRet (w : DW) : DS := fun E env h => w env h E.rt
theorem ds_ret {e : Expr} {w : DW} {pos : Pos} (he : PD X e w) : PDS X (.Return (some e) pos) (sRet w) := by
  refine ps_imp (ps_ret he) fun Dn σ H q => ?_
  obtain ⟨env, h, μ, E, S, p, l⟩ := q
  exact ⟨env, h, μ, _, S, p, l.rt⟩
def sRetN : DS := fun E _ h => E.rt .non h
theorem ds_retN {pos : Pos} : PDS X (.Return none pos) sRetN := by
  refine ps_imp ps_retN fun Dn σ H q => ?_
  obtain ⟨env, h, μ, E, S, p, l⟩ := q
  exact l.rt _ _ _ _ _ p (Ext.refl _ _) S.sh .non
def sIf (t : DT) (a b : DS) : DS := fun E env h => t env h fun c h1 => if c = true then a E env h1 else b E env h1
theorem ds_if {c : Expr} {a b : List Stmt} {t : DT} {wa wb : DS} {pos : Pos} (hc : PDT X c t) (ha : PDSs X a wa) (hb : PDSs X b wb) : PDS X (.If c a b pos) (sIf t wa wb) := by
  refine ps_imp (ps_if hc ha hb) fun Dn σ H q => ?_
  obtain ⟨env, h, μ, E, S, p, l⟩ := q
  refine ⟨env, h, μ, _, S, p, fun c h1 μ1 H1 p1 x1 s1 => ?_⟩
  by_cases hb : c = true
  · rw [if_pos hb] at p1 ⊢
    exact ⟨env, h1, μ1, E, ⟨S.re.mono x1, s1⟩, p1, l.ext x1⟩
  · rw [if_neg hb] at p1 ⊢
    exact ⟨env, h1, μ1, E, ⟨S.re.mono x1, s1⟩, p1, l.ext x1⟩
/-! ## targets -/
abbrev DG := D → Env → MH → (Env → MH → Prop) → Prop
abbrev DGs := List D → Env → MH → (Env → MH → Prop) → Prop
def rdG (K : PySem.W.Frag) (sl : List Nat) (g : DG) : TG := fun v σ H Q => ∃ d env h μ P, Sm K env h μ σ H ∧ RD K μ H d v ∧ g d env h P ∧ ∀ env' h' μ' σ' H', P env' h' → Ext μ H μ' H' → Sm K env' h' μ' σ' H' → (∀ j, j ∉ sl → σ'[j]? = σ[j]?) → σ'.length = σ.length → Q σ' H'
def rdGs (K : PySem.W.Frag) (sl : List Nat) (g : DGs) : TGs := fun vs σ H Q => ∃ ds env h μ P, Sm K env h μ σ H ∧ RDs K μ H ds vs ∧ g ds env h P ∧ ∀ env' h' μ' σ' H', P env' h' → Ext μ H μ' H' → Sm K env' h' μ' σ' H' → (∀ j, j ∉ sl → σ'[j]? = σ[j]?) → σ'.length = σ.length → Q σ' H'
def PDG (X : Cx) (e : Expr) (sl : List Nat) (g : DG) : Prop := PG X e (rdG X.K sl g)
def PDGs (X : Cx) (e : List Expr) (sl : List Nat) (g : DGs) : Prop := PGs X e (rdGs X.K sl g)
theorem pg_imp {e : Expr} {t t' : TG} (h : PG X e t) (i : ∀ v σ H Q, t' v σ H Q → t v σ H Q) : PG X e t' := ⟨fun p s σ H v u Q I r q => h.run p s σ H v u Q I r (i v σ H Q q)⟩
theorem pgs_imp {e : List Expr} {t t' : TGs} (h : PGs X e t) (i : ∀ v σ H Q, t' v σ H Q → t v σ H Q) : PGs X e t' := ⟨fun p s σ H v u Q I r q => h.run p s σ H v u Q I r (i v σ H Q q)⟩
def gNm (i : Nat) : DG := fun d env h Q => Q (env.set i (some d)) h
theorem dg_name (i : Nat) {x : Str} {pos : Pos} (hg : PG X (.Name x pos) (gName i)) : PDG X (.Name x pos) [i] (gNm i) := by
  refine pg_imp hg fun v σ H Q q => ?_
  obtain ⟨d, env, h, μ, P, S, r, p, l⟩ := q
  refine l _ h μ _ H p (Ext.refl _ _) ⟨S.re.set i r, S.sh⟩ (fun j hj => ?_) (by rw [List.length_set])
  rw [List.getElem?_set_ne]
  intro z; subst z; exact hj List.mem_cons_self
def gsNil : DGs := fun ds env h Q => ds = [] ∧ Q env h
def gsCons (g : DG) (gs : DGs) : DGs := fun ds env h Q => ∃ d r, ds = d :: r ∧ g d env h fun env' h' => gs r env' h' Q
theorem dgs_nil : PDGs X [] [] gsNil := by
  refine pgs_imp pgs_nil fun v σ H Q q => ?_
  obtain ⟨d, env, h, μ, P, S, r, ⟨e, p⟩, l⟩ := q
  subst e
  cases r
  exact ⟨rfl, l _ h μ _ H p (Ext.refl _ _) S (fun _ _ => rfl) rfl⟩
theorem dgs_cons {e : Expr} {es : List Expr} {s1 s2 : List Nat} {g : DG} {gs : DGs} (h1 : PDG X e s1 g) (h2 : PDGs X es s2 gs) (hs : (assignEach (e :: es) X.env).map (·.2) = assign e X.env :: (assignEach es X.env).map (·.2) := by rfl) :
    PDGs X (e :: es) (s1 ++ s2) (gsCons g gs) := by
  refine pgs_imp (pgs_cons h1 h2 hs) fun v σ H Q q => ?_
  obtain ⟨ds, env, h, μ, P, S, r, ⟨d, rest, e, p⟩, l⟩ := q
  subst e
  cases r with
  | cons r1 r2 =>
    refine ⟨_, _, rfl, d, env, h, μ, _, S, r1, p, fun env1 h1 μ1 σ1 H1 p1 x1 S1 f1 g1 => ?_⟩
    refine ⟨rest, env1, h1, μ1, P, S1, r2.mono x1, p1, fun env2 h2 μ2 σ2 H2 p2 x2 S2 f2 g2 => ?_⟩
    refine l env2 h2 μ2 σ2 H2 p2 (x1.trans x2) S2 (fun j hj => ?_) (g2.trans g1)
    rw [List.mem_append, not_or] at hj
    rw [f2 j hj.2, f1 j hj.1]
def gTp (n : Nat) (gs : DGs) : DG := fun d env h Q => ∃ ds, d = .tup ds ∧ ds.length = n ∧ gs ds env h Q
theorem dg_tup (n : Nat) {es : List Expr} {k : Nat} {sl : List Nat} {gs : DGs} {pos : Pos} (hc : X.calm = true) (h : PDGs X es sl gs) (hn : (assignEach es X.env).length = n := by rfl) (hst : (assignEach es X.env).findIdx? (·.1) = none := by rfl) :
    PDG X (.Tuple es k pos) sl (gTp n gs) := by
  refine pg_imp (pg_tup hc h hn hst) fun v σ H Q q => ?_
  obtain ⟨d, env, h, μ, P, S, r, ⟨ds, e, hl, p⟩, l⟩ := q
  subst e
  obtain ⟨a, vs, rfl, h2, h3⟩ := rdTup r
  exact ⟨a, vs, rfl, h2, by rw [← h3.length]; exact hl, ds, env, h, μ, P, S, h3, p, l⟩
/-- a, b = a list -/
def gLs (n : Nat) (gs : DGs) : DG := fun d env h Q => ∃ ds, lstR h d = some ds ∧ ds.length = n ∧ gs ds env h Q
theorem dg_lst (n : Nat) {es : List Expr} {k : Nat} {sl : List Nat} {gs : DGs} {pos : Pos} (hg : PG X (.Tuple es k pos) (gUnl X.K n (rdGs X.K sl gs))) : PDG X (.Tuple es k pos) sl (gLs n gs) := by
  refine pg_imp hg fun v σ H Q q => ?_
  obtain ⟨d, env, h, μ, P, S, r, ⟨ds, e, hl, p⟩, l⟩ := q
  obtain ⟨a, vs, rfl, h2, h3⟩ := rdLstR S.sh r e
  exact ⟨a, vs, rfl, h2, by rw [← h3.length]; exact hl, ds, env, h, μ, P, S, h3, p, l⟩
def sAsg (w : DW) (g : DG) : DS := fun E env h => w env h fun d h1 => g d env h1 E.nx
theorem t_asg {K : PySem.W.Frag} {w : DW} {sl : List Nat} {g : DG} : ∀ Dn σ H, rdS K (sAsg w g) Dn σ H → tAsg (rd K w) (rdG K sl g) Dn σ H := fun Dn σ H q => by
  obtain ⟨env, h, μ, E, S, p, l⟩ := q
  refine ⟨env, h, μ, _, S, p, fun d h1 v μ1 H1 p1 x1 s1 r1 => ?_⟩
  exact ⟨d, env, h1, μ1, _, ⟨S.re.mono x1, s1⟩, r1, p1, fun env2 h2 μ2 σ2 H2 p2 x2 S2 _ _ => l.nx _ _ _ _ _ p2 (x1.trans x2) S2⟩
theorem ds_asg {tg e : Expr} {w : DW} {sl : List Nat} {g : DG} {pos : Pos} (he : PD X e w) (hg : PDG X tg sl g) (hs : swapsWithSole [tg] e pos.line X.env = pure false := by rfl) (hw : swappedStores [tg] e X.env = pure none := by rfl)
    (h1 : (assignEach [tg] X.env).map (·.2) = [assign tg X.env] := by rfl) : PDS X (.Assign [tg] e pos) (sAsg w g) := ps_imp (ps_asg he hg hs hw h1) t_asg
theorem ds_set (i : Nat) {x : Str} {e : Expr} {w : DW} {pos pos' : Pos} (hN : X.N.Nodup) (hi : X.N[i]? = some x) (hx : Loc X.env.scope x) (he : PD X e w) (hs : swapsWith e (some (.Name x pos')) pos.line X.env = pure false := by rfl)
    (hf : X.fn x = true ∨ X.env.scope.names.lookup x = some .local := by first | exact .inl rfl | exact .inr rfl | assumption) : PDS X (.Assign [.Name x pos'] e pos) (sAsg w (gNm i)) := by
  refine ps_imp (ps_set hN hi hx he hs hf) fun Dn σ H q => ?_
  obtain ⟨env, h, μ, E, S, p, l⟩ := q
  refine ⟨env, h, μ, _, S, p, fun d h1 v μ1 H1 p1 x1 s1 r1 => ?_⟩
  exact l.nx _ _ _ _ _ p1 x1 ⟨(S.re.mono x1).set i r1, s1⟩
/-- a, b = x, y -/
def sPar (i j : Nat) (ws : DA) : DS := fun E env h => ws env h fun ds h1 => ∃ a b, ds = [a, b] ∧ E.nx ((env.set i (some a)).set j (some b)) h1
theorem ds_par (i j : Nat) {x y : Str} {a b : Expr} {ws : DA} {px py pt pos : Pos} {kt k2 pt2} (hc : X.calm = true) (hN : X.N.Nodup) (hi : X.N[i]? = some x) (hj : X.N[j]? = some y) (hij : i ≠ j)
    (hx : X.env.scope.names.lookup x = some .local) (hy : X.env.scope.names.lookup y = some .local) (ha : PDA X [a, b] ws)
    (hw : swappedStores [.Tuple [.Name x px, .Name y py] kt pt] (.Tuple [a, b] k2 pt2) X.env = pure (some [x, y]))
    (hs : swapsWithSole [.Tuple [.Name x px, .Name y py] kt pt] (.Tuple [a, b] k2 pt2) pos.line X.env = pure false := by rfl) : PDS X (.Assign [.Tuple [.Name x px, .Name y py] kt pt] (.Tuple [a, b] k2 pt2) pos) (sPar i j ws) := by
  refine ps_imp (ps_par hc hN hi hj hij hx hy ha hw hs) fun Dn σ H q => ?_
  obtain ⟨env, h, μ, E, S, p, l⟩ := q
  refine ⟨env, h, μ, _, S, p, fun ds h1 vs μ1 H1 ⟨a, b, e, p1⟩ x1 s1 r1 => ?_⟩
  subst e
  obtain ⟨v, w, rfl, r2, r3⟩ := rds2 r1
  exact ⟨v, w, rfl, l.nx _ _ _ _ _ p1 x1 ⟨((S.re.mono x1).set i r2).set j r3, s1⟩⟩
def sPar3 (i j k : Nat) (ws : DA) : DS := fun E env h => ws env h fun ds h1 => ∃ a b c, ds = [a, b, c] ∧ E.nx (((env.set i (some a)).set j (some b)).set k (some c)) h1
theorem ds_par3 (i j k : Nat) {st : Stmt} {ws : DA} (hp : PS X st (tPar3 i j k (rdA X.K ws))) : PDS X st (sPar3 i j k ws) := by
  refine ps_imp hp fun Dn σ H q => ?_
  obtain ⟨env, h, μ, E, S, p, l⟩ := q
  refine ⟨env, h, μ, _, S, p, fun ds h1 vs μ1 H1 ⟨a, b, c, e, p1⟩ x1 s1 r1 => ?_⟩
  subst e
  cases r1 with
  | cons r1 rr =>
    obtain ⟨v, w, rfl, r2, r3⟩ := rds2 rr
    exact ⟨_, v, w, rfl, l.nx _ _ _ _ _ p1 x1 ⟨(((S.re.mono x1).set i r1).set j r2).set k r3, s1⟩⟩
/-- name op= e -/
def sAug (i : Nat) (r : D → D → MH → DK → Prop) (w : DW) : DS := fun E env h => ∃ d, env[i]? = some (some d) ∧ w env h fun e h1 => r d e h1 fun z h2 => E.nx (env.set i (some z)) h2
def IpD (X : Cx) (op : Operator) (r : D → D → MH → DK → Prop) : Prop := PIp X op (rdO X.K r)
theorem ip_of {op : Operator} {r : R2} (h : OpR X (inplaceOp op) r) : PIp X op r := fun pins s σ H x y v u Q I rx ry q => h pins s σ H x y v u Q I rx ry q
theorem ds_aug (i : Nat) {st : Stmt} {w : DW} {r : D → D → MH → DK → Prop} (hp : PS X st (tAug i (rd X.K w) (rdO X.K r))) : PDS X st (sAug i r w) := by
  refine ps_imp hp fun Dn σ H q => ?_
  obtain ⟨env, h, μ, E, S, ⟨d, e, p⟩, l⟩ := q
  obtain ⟨v, h1, h2⟩ := S.re.at_ i d e
  refine ⟨v, h1, env, h, μ, _, S, p, fun y h3 u μ3 H3 p3 x3 s3 r3 => ?_⟩
  refine ⟨d, y, h3, μ3, _, s3, h2.mono x3, r3, p3, fun z h4 w μ4 H4 p4 x4 s4 r4 => ?_⟩
  exact l.nx _ _ _ _ _ p4 (x3.trans x4) ⟨(S.re.mono (x3.trans x4)).set i r4, s4⟩
def rIAdd : D → D → MH → DK → Prop := fun x y h Q =>
  match x, y with
  | .int i, .int j => Q (.int (i + j)) h
  | .str i, .str j => i.length + j.length ≤ sizeLine ∧ Q (.str (i ++ j)) h
  | _, _ => False
theorem ipd_add : IpD X .Add rIAdd := by
  intro pins s σ H x y v u Q I rx ry q
  obtain ⟨d, e, h, μ, P, S, r1, r2, p, l⟩ := q
  unfold rIAdd at p
  split at p
  · rw [rdInt r1] at rx; rw [rdInt r2] at ry
    exact iop_add pins s σ H _ _ v u Q I rx ry ⟨_, _, rfl, rfl, l _ _ _ _ _ p (Ext.refl _ _) S (.int _)⟩
  · rw [rdStr r1] at rx; rw [rdStr r2] at ry
    exact iop_add_str pins s σ H _ _ v u Q I rx ry ⟨_, _, rfl, rfl, p.1, l _ _ _ _ _ p.2 (Ext.refl _ _) S (.str _)⟩
  · exact p.elim
theorem ipd_sub : IpD X .Sub rSub := by
  intro pins s σ H x y v u Q I rx ry q
  obtain ⟨d, e, h, μ, P, S, r1, r2, ⟨i, j, rfl, rfl, p⟩, l⟩ := q
  cases r1; cases r2
  exact iop_sub pins s σ H _ _ v u Q I rx ry ⟨i, j, rfl, rfl, l _ _ _ _ _ p (Ext.refl _ _) S (.int _)⟩
/-- xs[k] = e -/
abbrev DSet := D → D → D → MH → (MH → Prop) → Prop
def rdSet (K : PySem.W.Frag) (r : DSet) : TSet := fun o i v H Q => ∃ d e f h μ P, SimH K h μ H ∧ RD K μ H d o ∧ RD K μ H e i ∧ RD K μ H f v ∧ r d e f h P ∧ ∀ h' μ' H', P h' → Ext μ H μ' H' → SimH K h' μ' H' → Q H'
def rSetL : DSet := fun o i v h Q => ∃ n xs k j, o = .ob n ∧ i = .int k ∧ h[n]? = some (.lst xs) ∧ ixN xs.length k = some j ∧ Q (h.set n (.lst (xs.set j v)))
theorem sd_list : PSet X (rdSet X.K rSetL) := by
  intro pins s σ H o i v ov iv u Q I ro ri rv q
  obtain ⟨d, e, f, h, μ, P, S, r1, r2, r3, ⟨n, xs, k, j, rfl, rfl, e1, e2, p⟩, l⟩ := q
  obtain ⟨a, ws, rfl, ha, hw, r4⟩ := obL S r1 e1
  have hm : a ∈ μ.mu := List.mem_of_getElem? ha
  refine set_list pins s σ H _ _ _ ov iv u Q I ro ri rv ⟨a, ws, k, j, rfl, rdInt r2, hw, by rw [← r4.length]; exact e2, ?_⟩
  exact l _ _ _ p (Ext.chg hm) (S.chg ha ⟨_, upd_same, (RDs.setAt r3 j r4).mono (Ext.chg hm)⟩)
def gSb (wo wi : DW) (r : DSet) : DG := fun d env h Q => wo env h fun o h1 => wi env h1 fun i h2 => r o i d h2 fun h3 => Q env h3
theorem dg_sub {o i : Expr} {wo wi : DW} {r : DSet} {pos : Pos} (hp : PG X (.Subscript o i pos) (gSub (rd X.K wo) (rd X.K wi) (rdSet X.K r))) : PDG X (.Subscript o i pos) [] (gSb wo wi r) := by
  refine pg_imp hp fun v σ H Q q => ?_
  obtain ⟨d, env, h, μ, P, S, r0, p, l⟩ := q
  refine ⟨env, h, μ, _, S, p, fun x h1 w μ1 H1 p1 x1 s1 r1 => ?_⟩
  refine ⟨env, h1, μ1, _, ⟨S.re.mono x1, s1⟩, p1, fun y h2 w2 μ2 H2 p2 x2 s2 r2 => ?_⟩
  refine ⟨x, y, d, h2, μ2, _, s2, r1.mono x2, r2, r0.mono (x1.trans x2), p2, fun h3 μ3 H3 p3 x3 s3 => ?_⟩
  exact l env h3 μ3 σ H3 p3 ((x1.trans x2).trans x3) ⟨S.re.mono ((x1.trans x2).trans x3), s3⟩ (fun _ _ => rfl) rfl

/-! # what is walked -/
abbrev DIt := MH → Option (List D)
structure JRel (K : PySem.W.Frag) (μ0 : Wd) (H0 : Hp) (J : It) (it : DIt) : Prop where
  stop : ∀ (i : Nat) (h : MH) (μ : Wd) (H : Hp) (xs : List D), Ext μ0 H0 μ H → SimH K h μ H → it h = some xs → xs.length ≤ i → J.stop i H
  item : ∀ (i : Nat) (h : MH) (μ : Wd) (H : Hp) (xs : List D) (d : D), Ext μ0 H0 μ H → SimH K h μ H → it h = some xs → xs[i]? = some d → J.go i H ∧ ∀ x H', J.yld i H x H' → Ext μ H μ H' ∧ SimH K h μ H' ∧ RD K μ H' d x
abbrev DI := Env → MH → (DIt → MH → Prop) → Prop
def rdI (K : PySem.W.Frag) (w : DI) : TI := fun σ H R => ∃ env h μ P, Sm K env h μ σ H ∧ w env h P ∧ ∀ it h' μ' H' J, P it h' → Ext μ H μ' H' → SimH K h' μ' H' → JRel K μ' H' J it → R J H'
def PDI (X : Cx) (tg iter : Expr) (w : DI) : Prop := PI X tg iter (rdI X.K w)
theorem pi_imp {tg e : Expr} {t t' : TI} (h : PI X tg e t) (i : ∀ σ H Q, t' σ H Q → t σ H Q) : PI X tg e t' := ⟨fun p s σ H Q I q => h.run p s σ H Q I (i σ H Q q)⟩
def wIt (f : D → DIt) (w : DW) : DI := fun env h Q => w env h fun d h1 => (∃ xs, f d h1 = some xs) ∧ Q (f d) h1
theorem j_list {K : PySem.W.Frag} {μ : Wd} {H : Hp} {d : D} {a : Addr} (r : RD K μ H d (.ref a)) : JRel K μ H (Itl K a) (fun h => lstR h d) where
  stop := fun i h μ1 H1 xs x s e hl => by
    obtain ⟨b, vs, eb, h1, h2⟩ := rdLstR s (r.mono x) e
    cases eb
    exact ⟨vs, h1, by rw [← h2.length]; exact hl⟩
  item := fun i h μ1 H1 xs d1 x s e hi => by
    obtain ⟨b, vs, eb, h1, h2⟩ := rdLstR s (r.mono x) e
    cases eb
    obtain ⟨v, hv, rv⟩ := h2.get hi
    refine ⟨⟨vs, v, h1, hv⟩, fun y H' ⟨eH, f⟩ => ?_⟩
    subst eH
    have ey := f vs h1
    rw [hv] at ey; cases ey
    exact ⟨Ext.refl _ _, s, rv⟩
theorem di_list {tg l : Expr} {w : DW} (hl : PD X l w) : PDI X tg l (wIt (fun d h => lstR h d) w) := by
  refine pi_imp (pi_list hl) fun σ H R q => ?_
  obtain ⟨env, h, μ, P, S, p, l⟩ := q
  refine ⟨env, h, μ, _, S, p, fun d h1 v μ1 H1 ⟨⟨xs, e⟩, p1⟩ x1 s1 r1 => ?_⟩
  obtain ⟨a, vs, rfl, h2, h3⟩ := rdLstR s1 r1 e
  exact ⟨a, rfl, ⟨vs, h2⟩, l _ h1 μ1 H1 _ p1 x1 s1 (j_list r1)⟩
def tupD : D → DIt := fun d _ => match d with | .tup xs => some xs | _ => none
theorem j_tup {K : PySem.W.Frag} {μ : Wd} {H : Hp} {d : D} {a : Addr} (r : RD K μ H d (.ref a)) : JRel K μ H (Itt K a) (tupD d) where
  stop := fun i h μ1 H1 xs x s e hl => by
    have r' := r.mono x
    cases d with
    | tup ys =>
      cases e
      obtain ⟨b, vs, eb, h1, h2⟩ := rdTup r'
      cases eb
      exact ⟨vs, h1, by rw [← h2.length]; exact hl⟩
    | _ => cases e
  item := fun i h μ1 H1 xs d1 x s e hi => by
    have r' := r.mono x
    cases d with
    | tup ys =>
      cases e
      obtain ⟨b, vs, eb, h1, h2⟩ := rdTup r'
      cases eb
      obtain ⟨v, hv, rv⟩ := h2.get hi
      refine ⟨⟨vs, v, h1, hv⟩, fun y H' ⟨eH, f⟩ => ?_⟩
      subst eH
      have ey := f vs h1
      rw [hv] at ey; cases ey
      exact ⟨Ext.refl _ _, s, rv⟩
    | _ => cases e
theorem di_tup {tg l : Expr} {w : DW} (hl : PD X l w) : PDI X tg l (wIt tupD w) := by
  refine pi_imp (pi_tup hl) fun σ H R q => ?_
  obtain ⟨env, h, μ, P, S, p, l⟩ := q
  refine ⟨env, h, μ, _, S, p, fun d h1 v μ1 H1 ⟨⟨xs, e⟩, p1⟩ x1 s1 r1 => ?_⟩
  cases d with
  | tup ys =>
    obtain ⟨a, vs, rfl, h2, h3⟩ := rdTup r1
    exact ⟨a, rfl, ⟨vs, h2⟩, l _ h1 μ1 H1 _ p1 x1 s1 (j_tup r1)⟩
  | _ => cases e
/-! a tuple or a list: which of both is seen behind its making -/
theorem di_seq {tg l : Expr} {w : DW} (hl : PD X l w) : PDI X tg l (wIt (fun d h => seqD h d) w) := by
  refine ⟨fun pins s σ H R I q => ?_⟩
  obtain ⟨env, h, μ, P, S, p, l⟩ := q
  refine thn (hl.run pins s σ H _ I ⟨env, h, μ, _, S, p, LkE.refl⟩) fun v s1 ⟨x, H1, I1, r1, d, h1, μ1, ⟨⟨xs, e⟩, p1⟩, x1, s1', rd1⟩ => ?_
  by_cases hd : ∃ ys, d = .tup ys
  · obtain ⟨ys, rfl⟩ := hd
    obtain ⟨a, vs, rfl, h2, h3⟩ := rdTup rd1
    cases r1
    obtain ⟨its, rv, p2, hz⟩ := I1.tuple h2
    refine wpAny_pyIter_tuple (show s1.heap.IsTuple a its.toArray from p2) ?_
    refine ⟨s1.heap.objs.size, [s1.heap.objs.size], _, _, H1, rfl, I1.kept (t' := s1.toks) fun b o e => Heap.get?_push_of_some _ e, turn_tuple a _, ⟨_, Heap.get?_push_size _ rfl, rfl, rfl⟩, fun b hb => ?_, ?_⟩
    · have e : b = s1.heap.objs.size := by simpa using hb
      subst e
      exact I1.fpOk (Nat.le_refl _) (I1.hok.fresh (Nat.le_refl _))
    · exact l _ h1 μ1 H1 _ p1 x1 s1' (by have := j_tup (K := X.K) rd1; exact ⟨fun i h μ H xs x s e hl => this.stop i h μ H xs x s e hl, fun i h μ H xs d x s e hi => this.item i h μ H xs d x s e hi⟩)
  · have eR : ∀ hh, seqD hh d = lstR hh d := fun hh => by
      cases d with
      | tup ys => exact absurd ⟨ys, rfl⟩ hd
      | _ => rfl
    obtain ⟨a, vs, rfl, h2, h3⟩ := rdLstR s1' rd1 ((eR _).symm.trans e)
    cases r1
    obtain ⟨its, rv, p2, hz⟩ := I1.list h2
    refine wpAny_pyIter_list p2.isList ?_
    refine ⟨s1.heap.objs.size, [s1.heap.objs.size], _, _, H1, rfl, I1.kept (t' := s1.toks) fun b o e => Heap.get?_push_of_some _ e, turn_list a _, ⟨_, Heap.get?_push_size _ rfl, rfl, rfl⟩, fun b hb => ?_, ?_⟩
    · have e : b = s1.heap.objs.size := by simpa using hb
      subst e
      exact I1.fpOk (Nat.le_refl _) (I1.hok.fresh (Nat.le_refl _))
    · have J := j_list (K := X.K) rd1
      exact l _ h1 μ1 H1 _ p1 x1 s1' ⟨fun i h μ H xs x s e hl => J.stop i h μ H xs x s ((eR _).symm.trans e) hl, fun i h μ H xs d x s e hi => J.item i h μ H xs d x s ((eR _).symm.trans e) hi⟩
def rngL (lo : Int) (n : Nat) : List D := (List.range n).map fun (i : Nat) => D.int (lo + i)
theorem j_rng {K : PySem.W.Frag} {μ : Wd} {H : Hp} (lo : Int) (n : Nat) : JRel K μ H (Itr lo n) (fun _ => some (rngL lo n)) where
  stop := fun i h μ1 H1 xs x s e hl => by
    cases e
    unfold rngL at hl
    rw [List.length_map, List.length_range] at hl
    exact hl
  item := fun i h μ1 H1 xs d1 x s e hi => by
    cases e
    unfold rngL at hi
    rw [List.getElem?_map] at hi
    have hn : i < n := by
      by_cases z : i < n
      · exact z
      · rw [List.getElem?_eq_none (by rw [List.length_range]; omega)] at hi; cases hi
    rw [List.getElem?_range hn] at hi
    cases hi
    refine ⟨hn, fun y H' ⟨eH, ey⟩ => ?_⟩
    subst eH; subst ey
    exact ⟨Ext.refl _ _, s, .int _⟩
def wRng1 (ws : DA) : DI := fun env h Q => ws env h fun ds h1 => ∃ j : Int, ds = [.int j] ∧ -(2 ^ 62) ≤ j ∧ j < 2 ^ 62 ∧ Q (fun _ => some (rngL 0 j.toNat)) h1
def wRng2 (ws : DA) : DI := fun env h Q => ws env h fun ds h1 => ∃ i j : Int, ds = [.int i, .int j] ∧ (-(2 ^ 62) ≤ i ∧ i < 2 ^ 62 ∧ -(2 ^ 62) ≤ j ∧ j < 2 ^ 62) ∧ Q (fun _ => some (rngL i (j - i).toNat)) h1
theorem di_rng1 {tg a : Expr} {ws : DA} {p pos : Pos} (hg : Gl X "range") (hm : X.mg "range" = none) (ha : PDA X [a] ws) (hs : starEach [a] X.env = [(false, eval a X.env)] := by rfl) : PDI X tg (.Call (.Name "range" p) [a] [] pos) (wRng1 ws) := by
  refine pi_imp (pi_range1 hg hm ha hs) fun σ H R q => ?_
  obtain ⟨env, h, μ, P, S, p, l⟩ := q
  refine ⟨env, h, μ, _, S, p, fun ds h1 vs μ1 H1 ⟨j, e, b1, b2, p1⟩ x1 s1 r1 => ?_⟩
  subst e
  obtain ⟨v, rfl, r2⟩ := rds1 r1
  exact ⟨j, by rw [rdInt r2], b1, b2, l _ h1 μ1 H1 _ p1 x1 s1 (j_rng _ _)⟩
theorem di_rng2 {tg a b : Expr} {ws : DA} {p pos : Pos} (hg : Gl X "range") (hm : X.mg "range" = none) (ha : PDA X [a, b] ws) (hs : starEach [a, b] X.env = [(false, eval a X.env), (false, eval b X.env)] := by rfl) (hs2 : starEach [b] X.env = [(false, eval b X.env)] := by rfl) :
    PDI X tg (.Call (.Name "range" p) [a, b] [] pos) (wRng2 ws) := by
  refine pi_imp (pi_range2 hg hm ha hs hs2) fun σ H R q => ?_
  obtain ⟨env, h, μ, P, S, p, l⟩ := q
  refine ⟨env, h, μ, _, S, p, fun ds h1 vs μ1 H1 ⟨i, j, e, b1, p1⟩ x1 s1 r1 => ?_⟩
  subst e
  obtain ⟨v, w, rfl, r2, r3⟩ := rds2 r1
  exact ⟨i, j, by rw [rdInt r2, rdInt r3], b1, l _ h1 μ1 H1 _ p1 x1 s1 (j_rng _ _)⟩
/-! # for, while -/
def sFor (wi : DI) (g : DG) (b : DS) : DS := fun E env h => wi env h fun it h1 => ∃ W : Nat → Nat → Env → MH → Prop, (∃ m, W 0 m env h1) ∧ ∀ i m env h, W i m env h → ∃ xs, it h = some xs ∧
  ((xs.length ≤ i ∧ E.nx env h) ∨ ∃ d N, xs[i]? = some d ∧ (∀ env' h', N env' h' → ∃ m', m' < m ∧ W (i + 1) m' env' h') ∧ g d env h fun env1 h1 => b { E with nx := N, ct := N, bk := E.nx } env1 h1)
theorem ds_for {tg iter : Expr} {body : List Stmt} {wi : DI} {g : DG} {sl : List Nat} {b : DS} {pos : Pos} (hp : PassesOwn (model X.prog X.w) X.A X.env X.xe) (hc : X.calm = true) (hi : PDI X tg iter wi) (hg : PDG X tg sl g) (hb : PDSs X body b)
    (hs : ∀ x, foldedSetIterable iter X.env x = pure x := by intro _; rfl) : PDS X (.For tg iter body [] pos) (sFor wi g b) := by
  refine ps_imp (ps_for hp hc hi hg hb hs) fun Dn σ H q => ?_
  obtain ⟨env, h, μ, E, S, p, l⟩ := q
  refine ⟨env, h, μ, _, S, p, fun it h1 μ1 H1 J ⟨W, ⟨m0, w0⟩, turn⟩ x1 s1 j => ?_⟩
  refine ⟨fun i m σ' H' => ∃ env' h' μ', Ext μ1 H1 μ' H' ∧ Sm X.K env' h' μ' σ' H' ∧ W i m env' h', ⟨m0, env, h1, μ1, Ext.refl _ _, ⟨S.re.mono x1, s1⟩, w0⟩, fun i m σ' H' hW => ?_⟩
  obtain ⟨env', h', μ', x', S', w'⟩ := hW
  obtain ⟨xs, ei, hh⟩ := turn i m env' h' w'
  rcases hh with ⟨hl, pn⟩ | ⟨d, N, hd, hN, pg⟩
  · exact .inl ⟨j.stop i h' μ' H' xs x' S'.sh ei hl, l.nx _ _ _ _ _ pn (x1.trans x') S'⟩
  · obtain ⟨go, yl⟩ := j.item i h' μ' H' xs d x' S'.sh ei hd
    refine .inr ⟨go, fun σ2 H2 => ∃ env2 h2 μ2, Ext μ1 H1 μ2 H2 ∧ Sm X.K env2 h2 μ2 σ2 H2 ∧ N env2 h2, fun σ2 H2 ⟨env2, h2, μ2, x2, S2, n2⟩ => ?_, fun x H2 y => ?_⟩
    · obtain ⟨m', hm, w2⟩ := hN env2 h2 n2
      exact ⟨m', hm, env2, h2, μ2, x2, S2, w2⟩
    · obtain ⟨x2, s2, r2⟩ := yl x H2 y
      refine ⟨d, env', h', μ', _, ⟨S'.re.mono x2, s2⟩, r2, pg, fun env3 h3 μ3 σ3 H3 p3 x3 S3 _ _ => ?_⟩
      have x13 := (x'.trans x2).trans x3
      refine ⟨env3, h3, μ3, _, S3, p3, ⟨fun env4 h4 μ4 σ4 H4 p4 x4 S4 => ⟨env4, h4, μ4, x13.trans x4, S4, p4⟩, l.rt.ext (x1.trans x13), fun env4 h4 μ4 σ4 H4 p4 x4 S4 => ?_, fun env4 h4 μ4 σ4 H4 p4 x4 S4 => ⟨env4, h4, μ4, x13.trans x4, S4, p4⟩⟩⟩
      exact l.nx _ _ _ _ _ p4 ((x1.trans x13).trans x4) S4
def sWhl (t : DT) (b : DS) : DS := fun E env h => ∃ W : Nat → Env → MH → Prop, (∃ m, W m env h) ∧ ∀ m env h, W m env h →
  t env h fun c h1 => if c = true then ∃ N : Env → MH → Prop, (∀ env' h', N env' h' → ∃ m', m' < m ∧ W m' env' h') ∧ b { E with nx := N, ct := N, bk := E.nx } env h1 else E.nx env h1
theorem ds_while {c : Expr} {body : List Stmt} {t : DT} {b : DS} {pos : Pos} (hp : PassesOwn (model X.prog X.w) X.A X.env X.xe) (hc : PDT X c t) (hb : PDSs X body b) : PDS X (.While c body [] pos) (sWhl t b) := by
  refine ps_imp (ps_while hp hc hb) fun Dn σ H q => ?_
  obtain ⟨env, h, μ, E, S, ⟨W, ⟨m0, w0⟩, turn⟩, l⟩ := q
  refine ⟨fun m σ' H' => ∃ env' h' μ', Ext μ H μ' H' ∧ Sm X.K env' h' μ' σ' H' ∧ W m env' h', ⟨m0, env, h, μ, Ext.refl _ _, S, w0⟩, fun m σ' H' hW => ?_⟩
  obtain ⟨env', h', μ', x', S', w'⟩ := hW
  refine ⟨env', h', μ', _, S', turn m env' h' w', fun c h1 μ1 H1 p1 x1 s1 => ?_⟩
  by_cases hb : c = true
  · rw [if_pos hb] at p1 ⊢
    obtain ⟨N, hN, p1⟩ := p1
    refine ⟨fun σ2 H2 => ∃ env2 h2 μ2, Ext μ H μ2 H2 ∧ Sm X.K env2 h2 μ2 σ2 H2 ∧ N env2 h2, fun σ2 H2 ⟨env2, h2, μ2, x2, S2, n2⟩ => ?_, ?_⟩
    · obtain ⟨m', hm, w2⟩ := hN env2 h2 n2
      exact ⟨m', hm, env2, h2, μ2, x2, S2, w2⟩
    · have x01 := x'.trans x1
      refine ⟨env', h1, μ1, _, ⟨S'.re.mono x1, s1⟩, p1, ⟨fun env4 h4 μ4 σ4 H4 p4 x4 S4 => ⟨env4, h4, μ4, x01.trans x4, S4, p4⟩, l.rt.ext x01, fun env4 h4 μ4 σ4 H4 p4 x4 S4 => l.nx _ _ _ _ _ p4 (x01.trans x4) S4, fun env4 h4 μ4 σ4 H4 p4 x4 S4 => ⟨env4, h4, μ4, x01.trans x4, S4, p4⟩⟩⟩
  · rw [if_neg hb] at p1 ⊢
    exact l.nx _ _ _ _ _ p1 (x'.trans x1) ⟨S'.re.mono x1, s1⟩
end
end DL
namespace DL
open PySem PySem.Spec PyProof.Rows L2
/-! # what no value refers to may be changed -/
section
variable {K : PySem.W.Frag} {μ ν : Wd} {H : Hp}
mutual
theorem RD.less (e : ν.mu = μ.mu) (l : ∀ a ∈ ν.rho, a ∈ μ.rho) : ∀ {d : D} {v : V}, RD K μ H d v → RD K ν H d v
  | _, _, .non => .non
  | _, _, .bl b => .bl b
  | _, _, .int i => .int i
  | _, _, .str x => .str x
  | _, _, .tup h r => .tup (h.imp (fun z => ⟨z.1, by rw [e]; exact z.2⟩) id) (RDs.less e l r)
  | _, _, .lv h n m r => .lv h (by rw [e]; exact n) (fun z => m (l _ z)) (RDs.less e l r)
  | _, _, .scr h r => .scr (h.imp (fun z => ⟨z.1, by rw [e]; exact z.2⟩) id) (RDs.less e l r)
  | _, _, .ob h => .ob (by rw [e]; exact h)
theorem RDs.less (e : ν.mu = μ.mu) (l : ∀ a ∈ ν.rho, a ∈ μ.rho) : ∀ {d : List D} {v : List V}, RDs K μ H d v → RDs K ν H d v
  | _, _, .nil => .nil
  | _, _, .cons h r => .cons (RD.less e l h) (RDs.less e l r)
end
theorem RO.less (e : ν.mu = μ.mu) (l : ∀ a ∈ ν.rho, a ∈ μ.rho) {o : MO} {a : Addr} (h : RO K μ H o a) : RO K ν H o a := by
  cases o with
  | lst ds => obtain ⟨vs, h, r⟩ := h; exact ⟨vs, h, r.less e l⟩
  | dic kvs => obtain ⟨vs, h, r⟩ := h; exact ⟨vs, h, Paired.mapP r fun _ _ z => ⟨z.1, z.2.less e l⟩⟩
theorem SimH.less {h : MH} (e : ν.mu = μ.mu) (l : ∀ a ∈ ν.rho, a ∈ μ.rho) (s : SimH K h μ H) : SimH K h ν H :=
  ⟨by rw [e]; exact s.len, by rw [e]; exact s.nd, fun n o q => by
    obtain ⟨a, ha, r⟩ := s.at_ n o q
    exact ⟨a, by rw [e]; exact ha, r.less e l⟩, fun a m => by rw [e]; exact s.rs a (l a m)⟩
theorem RE.less {env : Env} {σ : L2.St} (e : ν.mu = μ.mu) (l : ∀ a ∈ ν.rho, a ∈ μ.rho) (s : RE K μ H env σ) : RE K ν H env σ :=
  ⟨s.len, fun i d q => let ⟨v, h1, h2⟩ := s.at_ i d q; ⟨v, h1, h2.less e l⟩⟩
section
variable {p : Addr} {o o' : HO} (hp : p ∈ μ.rho) (ho : H p = some o) (hm : Mut (some o)) (hn : ∀ ob u, o ≠ .frz ob u)
include hp ho hm hn
mutual
theorem RD.anon : ∀ {d : D} {v : V}, RD K μ H d v → RD K μ (upd H p o') d v
  | _, _, .non => .non
  | _, _, .bl b => .bl b
  | _, _, .int i => .int i
  | _, _, .str x => .str x
  | _, _, .tup h r => .tup (h.imp (fun ⟨z, n⟩ => ⟨by
      rcases z with z | ⟨ob, z⟩
      · exact .inl (by rw [upd_ne (fun e => by rw [e, ho] at z; cases z; exact hm)]; exact z)
      · exact .inr ⟨ob, by rw [upd_ne (fun e => by rw [e, ho] at z; cases z; exact hn _ _ rfl)]; exact z⟩, n⟩) id) (RDs.anon r)
  | _, _, .lv (a := a) h n m r => .lv (by rw [upd_ne (fun e : a = p => m (e.symm ▸ hp))]; exact h) n m (RDs.anon r)
  | _, _, .scr h r => .scr (h.imp (fun ⟨⟨ob, z⟩, n⟩ => ⟨⟨ob, by rw [upd_ne (fun e => by rw [e, ho] at z; cases z; exact hn _ _ rfl)]; exact z⟩, n⟩) id) (RDs.anon r)
  | _, _, .ob h => .ob h
theorem RDs.anon : ∀ {d : List D} {v : List V}, RDs K μ H d v → RDs K μ (upd H p o') d v
  | _, _, .nil => .nil
  | _, _, .cons h r => .cons (RD.anon h) (RDs.anon r)
end
theorem SimH.anon {h : MH} (s : SimH K h μ H) : SimH K h μ (upd H p o') :=
  ⟨s.len, s.nd, fun n u q => by
    obtain ⟨a, ha, r⟩ := s.at_ n u q
    have na : a ≠ p := fun e => (s.rs p hp).2 (e ▸ List.mem_of_getElem? ha)
    refine ⟨a, ha, ?_⟩
    cases u with
    | lst ds => obtain ⟨vs, h1, r⟩ := r; exact ⟨vs, by rw [upd_ne na]; exact h1, RDs.anon hp ho hm hn r⟩
    | dic kvs => obtain ⟨vs, h1, r⟩ := r; exact ⟨vs, by rw [upd_ne na]; exact h1, Paired.mapP r fun _ _ z => ⟨z.1, RD.anon hp ho hm hn z.2⟩⟩, fun a m => by
    obtain ⟨⟨u, hu⟩, n⟩ := s.rs a m
    refine ⟨?_, n⟩
    by_cases e : a = p
    · rw [e, upd_same]; exact ⟨_, rfl⟩
    · rw [upd_ne e]; exact ⟨u, hu⟩⟩
theorem RE.anon {env : Env} {σ : L2.St} (s : RE K μ H env σ) : RE K μ (upd H p o') env σ :=
  ⟨s.len, fun i d q => let ⟨v, h1, h2⟩ := s.at_ i d q; ⟨v, h1, RD.anon hp ho hm hn h2⟩⟩
end
/-- a new object that no value refers to -/
abbrev Wd.res (μ : Wd) (p : Addr) : Wd := ⟨μ.mu, p :: μ.rho⟩
theorem Ext.res {p : Addr} {o : HO} (hp : H p = none) : Ext μ H (μ.res p) (upd H p o) :=
  ⟨fun a u e n => ⟨by rw [upd_ne (ne_of_none e hp)]; exact e, n, fun z => by
    simp only [List.mem_cons, not_or]; exact ⟨ne_of_none e hp, z⟩⟩, ⟨[], by simp⟩, fun a z => List.mem_cons_of_mem _ z⟩
theorem SimH.res {h : MH} {p : Addr} {o : HO} (s : SimH K h μ H) (hp : H p = none) : SimH K h (μ.res p) (upd H p o) := by
  have x : Ext μ H (μ.res p) (upd H p o) := Ext.res hp
  refine ⟨s.len, s.nd, fun n u e => ?_, fun a m => ?_⟩
  · obtain ⟨a, ha, r⟩ := s.at_ n u e
    have : a ≠ p := fun z => s.fresh hp (z ▸ List.mem_of_getElem? ha)
    exact ⟨a, ha, r.mono x (by rw [upd_ne this])⟩
  · rcases List.mem_cons.mp m with e | m
    · subst e; exact ⟨⟨_, upd_same⟩, s.fresh hp⟩
    · obtain ⟨⟨u, hu⟩, n⟩ := s.rs a m
      exact ⟨⟨u, by rw [upd_ne (ne_of_none hu hp)]; exact hu⟩, n⟩
/-- .. becomes an object of ours -/
theorem SimH.adopt {h : MH} {p : Addr} {m : MO} (s : SimH K h μ H) (hp : p ∈ μ.rho) (r : RO K ⟨μ.mu ++ [p], μ.rho.filter (fun a => decide (a ≠ p))⟩ H m p)
    (k : ∀ {d : D} {v : V}, RD K μ H d v → RD K ⟨μ.mu ++ [p], μ.rho.filter (fun a => decide (a ≠ p))⟩ H d v) : SimH K (h ++ [m]) ⟨μ.mu ++ [p], μ.rho.filter (fun a => decide (a ≠ p))⟩ H := by
  have hf := (s.rs p hp).2
  have kk : ∀ {ds : List D} {vs : List V}, RDs K μ H ds vs → RDs K ⟨μ.mu ++ [p], μ.rho.filter (fun a => decide (a ≠ p))⟩ H ds vs := by
    intro ds
    induction ds with
    | nil => intro vs q; cases q; exact .nil
    | cons d ds ih => intro vs q; cases q with | cons a b => exact .cons (k a) (ih b)
  refine ⟨by simp [s.len], ?_, fun n u e => ?_, fun a ma => ?_⟩
  · rw [List.nodup_append]
    exact ⟨s.nd, by simp, fun a ha b hb z => by simp at hb; subst hb; subst z; exact hf ha⟩
  · by_cases hn : n < h.length
    · rw [List.getElem?_append_left hn] at e
      obtain ⟨a, ha, q⟩ := s.at_ n u e
      refine ⟨a, by rw [List.getElem?_append_left (by rw [s.len]; exact hn)]; exact ha, ?_⟩
      cases u with
      | lst ds => obtain ⟨vs, h1, q⟩ := q; exact ⟨vs, h1, kk q⟩
      | dic kvs => obtain ⟨vs, h1, q⟩ := q; exact ⟨vs, h1, Paired.mapP q fun _ _ z => ⟨z.1, k z.2⟩⟩
    · have hn2 : n = h.length := by
        have := (List.getElem?_eq_some_iff.mp e).1
        rw [List.length_append, List.length_singleton] at this; omega
      subst hn2
      rw [List.getElem?_append_right (Nat.le_refl _), Nat.sub_self] at e
      have e' : m = u := by simpa using e
      subst e'
      exact ⟨p, by rw [← s.len, List.getElem?_append_right (Nat.le_refl _), Nat.sub_self]; rfl, r⟩
  · have ma' := List.mem_filter.mp ma
    have na : a ≠ p := of_decide_eq_true ma'.2
    obtain ⟨hu, n⟩ := s.rs a ma'.1
    refine ⟨hu, ?_⟩
    simp only [List.mem_append, List.mem_singleton, not_or]; exact ⟨n, na⟩
mutual
theorem RD.adopt {p : Addr} (hp : p ∈ μ.rho) (ht : ∀ xs, H p ≠ some (.tup xs)) (hf : ∀ ob u, H p ≠ some (.frz ob u)) : ∀ {d : D} {v : V}, RD K μ H d v → RD K ⟨μ.mu ++ [p], μ.rho.filter (fun a => decide (a ≠ p))⟩ H d v
  | _, _, .non => .non
  | _, _, .bl b => .bl b
  | _, _, .int i => .int i
  | _, _, .str x => .str x
  | _, _, .tup h r => .tup (h.imp (fun ⟨z, n⟩ => ⟨z, by
      simp only [List.mem_append, List.mem_singleton, not_or]
      refine ⟨n, fun e => ?_⟩
      subst e
      rcases z with z | ⟨ob, z⟩
      · exact ht _ z
      · exact hf _ _ z⟩) id) (RDs.adopt hp ht hf r)
  | _, _, .lv h n m r => .lv h (by
      simp only [List.mem_append, List.mem_singleton, not_or]
      exact ⟨n, fun e => m (e ▸ hp)⟩) (fun z => m (List.mem_filter.mp z).1) (RDs.adopt hp ht hf r)
  | _, _, .scr h r => .scr (h.imp (fun ⟨⟨ob, z⟩, n⟩ => ⟨⟨ob, z⟩, by
      simp only [List.mem_append, List.mem_singleton, not_or]
      exact ⟨n, fun e => by subst e; exact hf _ _ z⟩⟩) id) (RDs.adopt hp ht hf r)
  | _, _, .ob h => .ob (by rw [List.getElem?_append_left (List.getElem?_eq_some_iff.mp h).1]; exact h)
theorem RDs.adopt {p : Addr} (hp : p ∈ μ.rho) (ht : ∀ xs, H p ≠ some (.tup xs)) (hf : ∀ ob u, H p ≠ some (.frz ob u)) : ∀ {d : List D} {v : List V}, RDs K μ H d v → RDs K ⟨μ.mu ++ [p], μ.rho.filter (fun a => decide (a ≠ p))⟩ H d v
  | _, _, .nil => .nil
  | _, _, .cons h r => .cons (RD.adopt hp ht hf h) (RDs.adopt hp ht hf r)
end
end
section
variable {X : Cx}
/-! # comprehensions -/
def PDTs (X : Cx) (ifs : List Expr) (w : DT) : Prop := PTs X ifs (rdT X.K w)
def wYes : DT := fun _ h Q => Q true h
theorem pts_imp {e : List Expr} {t t' : TT} (h : PTs X e t) (i : ∀ σ H Q, t' σ H Q → t σ H Q) : PTs X e t' := ⟨fun p s σ H Q I q => h.run p s σ H Q I (i σ H Q q)⟩
theorem dts_nil : PDTs X [] wYes := by
  refine pts_imp pts_nil fun σ H Q q => ?_
  obtain ⟨env, h, μ, P, S, p, l⟩ := q
  exact l _ h μ H p (Ext.refl _ _) S.sh
theorem dts_one {c : Expr} {w : DT} (h : PDT X c w) : PDTs X [c] w := pts_one h
def wipeD (env : Env) : List Nat → Env
  | [] => env
  | v :: vs => (wipeD env vs).set v none
theorem RE.wipe {K : PySem.W.Frag} {μ : Wd} {H : Hp} {env : Env} {σ : L2.St} (r : RE K μ H env σ) : ∀ vs, RE K μ H (wipeD env vs) (wipe σ vs)
  | [] => r
  | v :: vs => by
    have q := r.wipe vs
    refine ⟨by show ((wipeD env vs).set v none).length = ((L2.wipe σ vs).set v none).length; rw [List.length_set, List.length_set]; exact q.len, fun i d e => ?_⟩
    unfold wipeD at e
    show ∃ v', ((L2.wipe σ vs).set v none)[i]? = _ ∧ _
    by_cases hi : i = v
    · subst hi
      by_cases hl : i < (wipeD env vs).length
      · rw [List.getElem?_set_self hl] at e; cases e
      · rw [List.getElem?_eq_none (by rw [List.length_set]; omega)] at e; cases e
    · rw [List.getElem?_set_ne (Ne.symm hi)] at e ⊢
      exact q.at_ i d e
theorem wipe_get (σ : L2.St) (j : Nat) : ∀ vs : List Nat, (wipe σ vs)[j]? = if j ∈ vs ∧ j < σ.length then some none else σ[j]?
  | [] => by simp [wipe]
  | v :: vs => by
    show ((wipe σ vs).set v none)[j]? = _
    by_cases hj : v = j
    · subst hj
      by_cases hl : v < σ.length
      · rw [List.getElem?_set_self (by rw [wipe_length]; exact hl), if_pos ⟨List.mem_cons_self, hl⟩]
      · rw [List.getElem?_eq_none (by rw [List.length_set, wipe_length]; omega), if_neg (fun z => hl z.2), List.getElem?_eq_none (by omega)]
    · rw [List.getElem?_set_ne hj, wipe_get σ j vs]
      have : (j ∈ v :: vs) ↔ j ∈ vs := by
        simp only [List.mem_cons]
        exact ⟨fun z => z.resolve_left (fun e => hj e.symm), .inr⟩
      simp only [this]
theorem wipe_eq {σ σ2 : L2.St} {vs sl : List Nat} (hs : ∀ j ∈ sl, j ∈ vs) (hl : σ2.length = (wipe σ vs).length) (f : ∀ j, j ∉ sl → σ2[j]? = (wipe σ vs)[j]?) : wipe σ2 vs = wipe σ vs := by
  apply List.ext_getElem?
  intro j
  rw [wipe_get, wipe_get]
  rw [wipe_length] at hl
  by_cases hj : j ∈ vs
  · by_cases hl2 : j < σ2.length
    · rw [if_pos ⟨hj, hl2⟩, if_pos ⟨hj, by omega⟩]
    · rw [if_neg (fun z => hl2 z.2), if_neg (fun z => hl2 (by omega)), List.getElem?_eq_none (by omega), List.getElem?_eq_none (by omega)]
  · rw [if_neg (fun z => hj z.1), if_neg (fun z => hj z.1), f j (fun z => hj (hs j z)), wipe_get, if_neg (fun z => hj z.1)]
def wLc (b : Bool) (wi : DI) (g : DG) (tt : DT) (te : DW) (vs : List Nat) : DW := fun env h Q => wi env h fun (it : DIt) h1 => ∃ W : Nat → Nat → List D → MH → Prop, (∃ m, W 0 m [] h1) ∧ ∀ i m acc h, W i m acc h → ∃ xs, it h = some xs ∧
  ((xs.length ≤ i ∧ qLst b acc h Q) ∨ ∃ (d : D) (N : List D → MH → Prop), xs[i]? = some d ∧ (∀ acc' h', N acc' h' → ∃ m', m' < m ∧ W (i + 1) m' acc' h') ∧ g d (wipeD env vs) h fun env2 h2 => tt env2 h2 fun c h3 =>
    if c = true then te env2 h3 fun y h4 => acc.length < sizeLine ∧ N (acc ++ [y]) h4 else N acc h3)
theorem t_lc {K : PySem.W.Frag} {b : Bool} {wi : DI} {g : DG} {tt : DT} {te : DW} {vs sl : List Nat} (hs : ∀ j ∈ sl, j ∈ vs) : ∀ σ H Q, rd K (wLc b wi g tt te vs) σ H Q → tLc (rdI K wi) (rdG K sl g) (rdT K tt) (rd K te) vs σ H Q := fun σ H Q q => by
  obtain ⟨env, h, μ, P, S, p, l⟩ := q
  refine ⟨env, h, μ, _, S, p, fun it h1 μ1 H1 J ⟨W, ⟨m0, w0⟩, turn⟩ x1 s1 j => ?_⟩
  intro D hD
  -- what holds at each turn
  refine ⟨fun i m H' => ∃ acc vs' h' ν, Ext μ1 H1 ν H' ∧ SimH K h' ν H' ∧ D ∈ ν.rho ∧ H' D = some (.lst vs') ∧ RDs K ν H' acc vs' ∧ W i m acc h',
    ⟨m0, [], [], h1, μ1.res D, Ext.res hD, s1.res hD, List.mem_cons_self, upd_same, .nil, w0⟩, fun i m H' hW => ?_⟩
  obtain ⟨acc, ws, h', ν, x', s', hr, hd, ra, w'⟩ := hW
  have hnf : ∀ ob u, (HO.lst ws) ≠ .frz ob u := fun _ _ z => nomatch z
  obtain ⟨xs, ei, hh⟩ := turn i m acc h' w'
  rcases hh with ⟨hl, pq⟩ | ⟨d, N, hdd, hN, pg⟩
  · refine .inl ⟨j.stop i h' ν H' xs x' s' ei hl, ?_⟩
    have nD : D ∉ ν.mu := (s'.rs D hr).2
    cases b with
    | false =>
      -- as a value
      obtain ⟨ν2, e2⟩ : ∃ ν2 : Wd, ν2 = ⟨ν.mu, ν.rho.filter (fun a => decide (a ≠ D))⟩ := ⟨_, rfl⟩
      have em : ν2.mu = ν.mu := by rw [e2]
      have le0 : ∀ a, a ∈ ν2.rho ↔ a ∈ ν.rho.filter (fun a => decide (a ≠ D)) := fun a => by rw [e2]
      have le : ∀ a ∈ ν2.rho, a ∈ ν.rho := fun a z => (List.mem_filter.mp ((le0 a).mp z)).1
      have x2 : Ext μ H ν2 H' := by
        have xx := x1.trans x'
        refine ⟨fun a u e n => ?_, by rw [em]; exact xx.pre, fun a z => ?_⟩
        · obtain ⟨a1, a2, a3⟩ := xx.keep a u e n
          exact ⟨a1, by rw [em]; exact a2, fun z w => a3 z (le a w)⟩
        · have aD : a ≠ D := fun e => by
            subst e
            obtain ⟨⟨u, hu⟩, _⟩ := s1.rs a (x1.rho a z)
            rw [hD] at hu; cases hu
          exact (le0 a).mpr (List.mem_filter.mpr ⟨xx.rho a z, decide_eq_true aD⟩)
      exact l _ _ _ ν2 H' pq x2 (SimH.less em le s') (.lv hd (by rw [em]; exact nD) (fun z => by have := (List.mem_filter.mp ((le0 D).mp z)).2; simp at this) (RDs.less em le ra))
    | true =>
      have kk : ∀ {d : DL.D} {v : V}, RD K ν H' d v → RD K ⟨ν.mu ++ [D], ν.rho.filter (fun a => decide (a ≠ D))⟩ H' d v := fun {d v} r => RD.adopt hr (fun _ z => by rw [hd] at z; cases z) (fun _ _ z => by rw [hd] at z; cases z) r
      have ra' : RDs K ⟨ν.mu ++ [D], ν.rho.filter (fun a => decide (a ≠ D))⟩ H' acc ws := RDs.adopt hr (fun _ z => by rw [hd] at z; cases z) (fun _ _ z => by rw [hd] at z; cases z) ra
      have x2 : Ext μ H ⟨ν.mu ++ [D], ν.rho.filter (fun a => decide (a ≠ D))⟩ H' := by
        have xx := x1.trans x'
        refine ⟨fun a u e n => ?_, ?_, fun a z => ?_⟩
        · obtain ⟨a1, a2, a3⟩ := xx.keep a u e n
          obtain ⟨b1, _, _⟩ := x1.keep a u e n
          have aD : a ≠ D := fun z => by rw [z, hD] at b1; cases b1
          refine ⟨a1, ?_, fun z w => a3 z (List.mem_filter.mp w).1⟩
          simp only [List.mem_append, List.mem_singleton, not_or]; exact ⟨a2, aD⟩
        · obtain ⟨r, e⟩ := xx.pre
          exact ⟨r ++ [D], by rw [e, List.append_assoc]⟩
        · have aD : a ≠ D := fun e => by
            subst e
            obtain ⟨⟨u, hu⟩, _⟩ := s1.rs a (x1.rho a z)
            rw [hD] at hu; cases hu
          exact List.mem_filter.mpr ⟨xx.rho a z, decide_eq_true aD⟩
      refine l _ _ _ _ H' pq x2 (s'.adopt hr ⟨ws, hd, ra'⟩ kk) (.ob ?_)
      rw [← s'.len]
      show (ν.mu ++ [D])[ν.mu.length]? = some D
      rw [List.getElem?_append_right (Nat.le_refl _), Nat.sub_self]; rfl
  · obtain ⟨go, yl⟩ := j.item i h' ν H' xs d x' s' ei hdd
    refine .inr ⟨go, fun H2 => ∃ acc2 vs2 h2 ν2, Ext μ1 H1 ν2 H2 ∧ SimH K h2 ν2 H2 ∧ D ∈ ν2.rho ∧ H2 D = some (.lst vs2) ∧ RDs K ν2 H2 acc2 vs2 ∧ N acc2 h2, fun H2 ⟨acc2, vs2, h2, ν2, a1, a2, a3, a4, a5, n2⟩ => ?_, fun x H2 y => ?_⟩
    · obtain ⟨m', hm, w2⟩ := hN acc2 h2 n2
      exact ⟨m', hm, acc2, vs2, h2, ν2, a1, a2, a3, a4, a5, w2⟩
    · obtain ⟨x2, s2, r2⟩ := yl x H2 y
      have xe : Ext μ H ν H2 := (x1.trans x').trans x2
      refine ⟨d, wipeD env vs, h', ν, _, ⟨(S.re.mono xe).wipe vs, s2⟩, r2, pg, fun env3 h3 ν3 σ3 H3 p3 x3 S3 f3 g3 => ?_⟩
      refine ⟨wipe_eq hs g3 f3, ?_⟩
      refine ⟨env3, h3, ν3, _, S3, p3, fun c h4 ν4 H4 p4 x4 s4 => ?_⟩
      have hr4 : D ∈ ν4.rho := x4.rho _ (x3.rho _ hr)
      have nD : ∀ {H' : Hp} {ν' : Wd} {hh : MH}, SimH K hh ν' H' → D ∈ ν'.rho → D ∉ ν'.mu := fun s z => (s.rs D z).2
      have hd4 : H4 D = some (.lst ws) := by
        have e2 := (x2.keep D _ hd (s'.rs D hr).2).1
        have e3 := (x3.keep D _ e2 (s2.rs D hr).2).1
        exact (x4.keep D _ e3 (S3.sh.rs D (x3.rho _ hr)).2).1
      have x14 : Ext μ1 H1 ν4 H4 := ((x'.trans x2).trans x3).trans x4
      have ra4 := ((ra.mono x2).mono x3).mono x4
      cases c with
      | true =>
        simp only [if_true] at p4 ⊢
        refine ⟨env3, h4, ν4, _, ⟨S3.re.mono x4, s4⟩, p4, fun y2 h5 v5 ν5 H5 ⟨p5, n5⟩ x5 s5 r5 => ?_⟩
        have hr5 : D ∈ ν5.rho := x5.rho _ hr4
        have hd5 : H5 D = some (.lst ws) := (x5.keep D _ hd4 (s4.rs D hr4).2).1
        have ra5 := ra4.mono x5
        have hnf : ∀ ob u, (HO.lst ws) ≠ .frz ob u := fun _ _ z => nomatch z
        refine ⟨ws, hd5, by rw [← ra5.length]; exact p5, acc ++ [y2], ws ++ [v5], h5, ν5, ?_, s5.anon hr5 hd5 trivial hnf, hr5, upd_same, (ra5.append (.one r5)).anon hr5 hd5 trivial hnf, n5⟩
        have x15 := x14.trans x5
        refine ⟨fun a u e n => ?_, x15.pre, x15.rho⟩
        obtain ⟨a1, a2, a3⟩ := x15.keep a u e n
        have aD : a ≠ D := fun z => by rw [z, hD] at e; cases e
        exact ⟨by rw [upd_ne aD]; exact a1, a2, a3⟩
      | false =>
        simp only [Bool.false_eq_true, if_false] at p4 ⊢
        exact ⟨acc, ws, h4, ν4, x14, s4, hr4, hd4, ra4, p4⟩
end
end DL
namespace DL
open PySem PySem.Spec PyProof.Rows L2
/-! # a def's end: its own objects are dropped, what is handed back is read -/
def mapO {α β : Type} (f : α → Option β) : List α → Option (List β)
  | [] => some []
  | x :: xs => match f x, mapO f xs with
    | some y, some ys => some (y :: ys)
    | _, _ => none
def fz : Nat → Nat → MH → D → Option D
  | _, _, _, .non => some .non
  | _, _, _, .bl b => some (.bl b)
  | _, _, _, .int i => some (.int i)
  | _, _, _, .str x => some (.str x)
  | k + 1, n, h, .tup xs => (mapO (fz k n h) xs).map .tup
  | k + 1, n, h, .lv xs => (mapO (fz k n h) xs).map .lv
  | k + 1, n, h, .scr xs => (mapO (fz k n h) xs).map .scr
  | k, n, h, .ob m => if m < n then some (.ob m) else match k with
    | 0 => none
    | k + 1 => match lstAt h m with
      | some xs => (mapO (fz k n h) xs).map .lv
      | none => none
  | 0, _, _, _ => none
mutual
def obsLt (n : Nat) : D → Prop
  | .tup xs => obsLts n xs
  | .lv xs => obsLts n xs
  | .scr xs => obsLts n xs
  | .ob m => m < n
  | _ => True
def obsLts (n : Nat) : List D → Prop
  | [] => True
  | x :: xs => obsLt n x ∧ obsLts n xs
end
def obsO (n : Nat) : MO → Prop
  | .lst xs => obsLts n xs
  | .dic kvs => obsLts n (kvs.map (·.2))
section
variable {K : PySem.W.Frag} {μ ν : Wd} {H H' : Hp}
mutual
theorem RD.obs : ∀ {d : D} {v : V}, RD K μ H d v → obsLt μ.mu.length d
  | _, _, .non => trivial
  | _, _, .bl b => trivial
  | _, _, .int i => trivial
  | _, _, .str x => trivial
  | _, _, .tup h r => by rw [obsLt]; exact RDs.obs r
  | _, _, .lv h n m r => by rw [obsLt]; exact RDs.obs r
  | _, _, .scr h r => by rw [obsLt]; exact RDs.obs r
  | _, _, .ob h => by rw [obsLt]; exact (List.getElem?_eq_some_iff.mp h).1
theorem RDs.obs : ∀ {d : List D} {v : List V}, RDs K μ H d v → obsLts μ.mu.length d
  | _, _, .nil => by rw [obsLts]; trivial
  | _, _, .cons h r => by rw [obsLts]; exact ⟨RD.obs h, RDs.obs r⟩
end
theorem RK.obs : ∀ {a : List (Key × D)} {b : List (Key × V)}, RK K μ H a b → obsLts μ.mu.length (a.map (·.2))
  | _, _, .nil => by rw [List.map_nil, obsLts]; trivial
  | _, _, .cons h r => by rw [List.map_cons, obsLts]; exact ⟨h.2.obs, RK.obs r⟩
theorem RO.obs {o : MO} {a : Addr} (r : RO K μ H o a) : obsO μ.mu.length o := by
  cases o with
  | lst ds => obtain ⟨vs, _, r⟩ := r; exact r.obs
  | dic kvs => obtain ⟨vs, _, r⟩ := r; exact RK.obs r
/-- fewer objects -/
structure Shr (μ ν : Wd) : Prop where
  mu : ∃ r, ν.mu = μ.mu ++ r
  rho : ∀ a ∈ μ.rho, a ∈ ν.rho
theorem Shr.get {n : Nat} {a : Addr} (x : Shr μ ν) (h : ν.mu[n]? = some a) (hn : n < μ.mu.length) : μ.mu[n]? = some a := by
  obtain ⟨r, e⟩ := x.mu
  rw [e, List.getElem?_append_left hn] at h; exact h
theorem Shr.nin {a : Addr} (x : Shr μ ν) (h : a ∉ ν.mu) : a ∉ μ.mu := fun z => by
  obtain ⟨r, e⟩ := x.mu
  exact h (by rw [e]; exact List.mem_append_left _ z)
mutual
theorem RD.shr (x : Shr μ ν) : ∀ {d : D} {v : V}, RD K ν H d v → obsLt μ.mu.length d → RD K μ H d v
  | _, _, .non, _ => .non
  | _, _, .bl b, _ => .bl b
  | _, _, .int i, _ => .int i
  | _, _, .str s, _ => .str s
  | _, _, .tup h r, o => .tup (h.imp (fun z => ⟨z.1, x.nin z.2⟩) id) (RDs.shr x r (by rw [obsLt] at o; exact o))
  | _, _, .lv h n m r, o => .lv h (x.nin n) (fun z => m (x.rho _ z)) (RDs.shr x r (by rw [obsLt] at o; exact o))
  | _, _, .scr h r, o => .scr (h.imp (fun z => ⟨z.1, x.nin z.2⟩) id) (RDs.shr x r (by rw [obsLt] at o; exact o))
  | _, _, .ob h, o => .ob (x.get h (by rw [obsLt] at o; exact o))
theorem RDs.shr (x : Shr μ ν) : ∀ {d : List D} {v : List V}, RDs K ν H d v → obsLts μ.mu.length d → RDs K μ H d v
  | _, _, .nil, _ => .nil
  | _, _, .cons h r, o => by
    rw [obsLts] at o
    exact .cons (RD.shr x h o.1) (RDs.shr x r o.2)
end
theorem RK.shr (x : Shr μ ν) : ∀ {a : List (Key × D)} {b : List (Key × V)}, RK K ν H a b → obsLts μ.mu.length (a.map (·.2)) → RK K μ H a b
  | _, _, .nil, _ => .nil
  | _, _, .cons h r, o => by
    rw [List.map_cons, obsLts] at o
    exact .cons ⟨h.1, h.2.shr x o.1⟩ (RK.shr x r o.2)
theorem RO.shr (x : Shr μ ν) {o : MO} {a : Addr} (r : RO K ν H o a) (q : obsO μ.mu.length o) : RO K μ H o a := by
  cases o with
  | lst ds => obtain ⟨vs, h, r⟩ := r; exact ⟨vs, h, r.shr x q⟩
  | dic kvs => obtain ⟨vs, h, r⟩ := r; exact ⟨vs, h, RK.shr x r q⟩
theorem mapO_cons {α β : Type} {f : α → Option β} {x : α} {xs : List α} {zs : List β} (h : mapO f (x :: xs) = some zs) : ∃ y ys, f x = some y ∧ mapO f xs = some ys ∧ zs = y :: ys := by
  unfold mapO at h
  split at h
  · rename_i y ys e1 e2; cases h; exact ⟨y, ys, e1, e2, rfl⟩
  · cases h
theorem fz_all {h : MH} {k n : Nat} (ih : ∀ {d d' : D} {v : V}, fz k n h d = some d' → RD K ν H d v → RD K μ H d' v) : ∀ {ds ds' : List D} {vs : List V}, mapO (fz k n h) ds = some ds' → RDs K ν H ds vs → RDs K μ H ds' vs
  | _, _, _, e, .nil => by cases e; exact .nil
  | _, _, _, e, .cons a b => by
    obtain ⟨y, ys, e1, e2, rfl⟩ := mapO_cons e
    exact .cons (ih e1 a) (fz_all ih e2 b)
theorem fz_ok {h : MH} (x : Shr μ ν) (s : SimH K h ν H) : ∀ {k : Nat} {d d' : D} {v : V}, fz k μ.mu.length h d = some d' → RD K ν H d v → RD K μ H d' v := by
  intro k
  induction k with
  | zero =>
    intro d d' v e r
    cases r with
    | non => simp [fz] at e; subst e; exact .non
    | bl b => simp [fz] at e; subst e; exact .bl b
    | int b => simp [fz] at e; subst e; exact .int b
    | str b => simp [fz] at e; subst e; exact .str b
    | tup _ _ => simp [fz] at e
    | lv _ _ _ _ => simp [fz] at e
    | scr _ _ => simp [fz] at e
    | ob hb =>
      simp only [fz] at e
      split at e
      · rename_i hn; cases e; exact .ob (x.get hb hn)
      · cases e
  | succ k ih =>
    intro d d' v e r
    cases r with
    | non => simp [fz] at e; subst e; exact .non
    | bl b => simp [fz] at e; subst e; exact .bl b
    | int b => simp [fz] at e; subst e; exact .int b
    | str b => simp [fz] at e; subst e; exact .str b
    | tup h1 h2 =>
      simp only [fz, Option.map_eq_some_iff] at e
      obtain ⟨ys, e1, rfl⟩ := e
      exact .tup (h1.imp (fun z => ⟨z.1, x.nin z.2⟩) id) (fz_all ih e1 h2)
    | lv h1 n m h2 =>
      simp only [fz, Option.map_eq_some_iff] at e
      obtain ⟨ys, e1, rfl⟩ := e
      exact .lv h1 (x.nin n) (fun z => m (x.rho _ z)) (fz_all ih e1 h2)
    | scr h1 h2 =>
      simp only [fz, Option.map_eq_some_iff] at e
      obtain ⟨ys, e1, rfl⟩ := e
      exact .scr (h1.imp (fun z => ⟨z.1, x.nin z.2⟩) id) (fz_all ih e1 h2)
    | ob hb =>
      rename_i a n
      simp only [fz] at e
      split at e
      · rename_i hn; cases e; exact .ob (x.get hb hn)
      · rename_i hn
        split at e
        · rename_i xs e1
          simp only [Option.map_eq_some_iff] at e
          obtain ⟨ys, e2, rfl⟩ := e
          obtain ⟨b, vs, eb, hb2, hv, r2⟩ := obL s (.ob hb) (lstAt_iff.mp e1)
          cases eb
          have ha : a ∈ ν.mu := List.mem_of_getElem? hb
          refine .lv hv (fun z => ?_) (fun z => ?_) (fz_all ih e2 r2)
          · obtain ⟨i, hi, ei⟩ := List.getElem_of_mem z
            have q1 : μ.mu[i]? = some a := by rw [List.getElem?_eq_getElem hi, ei]
            obtain ⟨r, er⟩ := x.mu
            have q2 : ν.mu[i]? = some a := by rw [er, List.getElem?_append_left hi]; exact q1
            have := nodup_get s.nd q2 hb
            omega
          · exact (s.rs a (x.rho a z)).2 ha
        · cases e
end
def fin (h0 : MH) (Q : DK) : DK := fun d h' => ∃ d', fz 9 h0.length h' d = some d' ∧ (∀ (i : Nat) (o : MO), i < h0.length → h'[i]? = some o → h0[i]? = some o ∨ obsO h0.length o) ∧ Q d' (h'.take h0.length)
theorem fin_lk {K : PySem.W.Frag} {μ : Wd} {H : Hp} {h0 : MH} {P : DK} {Q : VK} (s0 : SimH K h0 μ H) (l : LkE K P μ H Q) : LkE K (fin h0 P) μ H Q := by
  intro d h' v μ' H' ⟨d', e, un, p⟩ x s r
  have sh : Shr μ μ' := ⟨x.pre, x.rho⟩
  rw [← s0.len] at e un p
  have x' : Ext μ H μ H' := ⟨fun a u q n => ⟨(x.keep a u q n).1, n, fun z => z⟩, ⟨[], by simp⟩, fun _ z => z⟩
  obtain ⟨r0, er⟩ := x.pre
  have hl : μ.mu.length ≤ h'.length := by rw [← s.len, er, List.length_append]; omega
  refine l d' _ v μ H' p x' ⟨by rw [List.length_take]; omega, s0.nd, fun n o q => ?_, fun a m => ⟨(s.rs a (x.rho a m)).1, (s0.rs a m).2⟩⟩ (fz_ok sh s e r)
  have hn : n < μ.mu.length := by
    have := (List.getElem?_eq_some_iff.mp q).1
    rw [List.length_take] at this; omega
  rw [List.getElem?_take_of_lt hn] at q
  obtain ⟨a, ha, ro⟩ := s.at_ n o q
  refine ⟨a, sh.get ha hn, ro.shr sh ?_⟩
  rcases un n o hn q with q0 | q0
  · obtain ⟨b, _, rb⟩ := s0.at_ n o q0
    exact rb.obs
  · exact q0
/-- nothing of the caller's was touched -/
theorem fin_pure {h0 g : MH} {Q : DK} {d d' : D} (e : fz 9 h0.length (h0 ++ g) d = some d') (q : Q d' h0) : fin h0 Q d (h0 ++ g) := by
  refine ⟨d', e, fun i o hi q => ?_, by rw [List.take_left]; exact q⟩
  rw [List.getElem?_append_left hi] at q; exact .inl q
theorem fz_pure {h : MH} {n : Nat} : ∀ {k : Nat} {d : D}, Gd k d → fz k n h d = some d := by
  have all : ∀ {k : Nat}, (∀ {d : D}, Gd k d → fz k n h d = some d) → ∀ {ds : List D}, (∀ x ∈ ds, Gd k x) → mapO (fz k n h) ds = some ds := by
    intro k ih ds
    induction ds with
    | nil => intro _; rfl
    | cons d ds ih2 =>
      intro g
      unfold mapO
      rw [ih (g d List.mem_cons_self), ih2 fun x hx => g x (List.mem_cons_of_mem _ hx)]
  intro k
  induction k with
  | zero => intro d g; cases d <;> simp [Gd] at g <;> simp [fz]
  | succ k ih =>
    intro d g
    cases d with
    | tup xs => simp only [fz]; rw [all ih (by simpa [Gd] using g)]; rfl
    | lv xs => simp only [fz]; rw [all ih (by simpa [Gd] using g)]; rfl
    | scr xs => simp only [fz]; rw [all ih (by simpa [Gd] using g)]; rfl
    | ob m => simp [Gd] at g
    | _ => simp [fz]

/-! # defs -/
section
variable {P : Program} {w : World} {K : PySem.W.Frag} {mg : Str → Option Value} {base : Heap}
structure FnG (P : Program) (w : World) (K : PySem.W.Frag) (mg : Str → Option Value) (base : Heap) (k : Nat) (f : Addr) (fd : FuncData) (ps : List Str) (S : List D → MH → DK → Prop) : Prop where
  len : ∀ ds h Q, S ds h Q → ds.length = ps.length
  run : ∀ (A : Around) (outer : List PySem.Env) (s : Shared) (H : Hp) (args : Args) (us : List Value) (vs : List V) (Q : VK), A.guards = some [] → Room k A → Env0 P w K mg base A outer s H → BindsTo s fd args (ps.zip us) → Vals vs us → rdC K S vs H Q →
    codeAny (model P w) A (.call (.ref f) args) (CR CX0 outer P w H s Q E0) s
/-- the values by slot at the entry -/
def envOf (n : Nat) (ds : List D) : Env := ds.map some ++ List.replicate (n - ds.length) none
/-- a def: n parameters, m names -/
def fnS (n m : Nat) (b : DS) : List D → MH → DK → Prop := fun ds h Q => ds.length = n ∧ b { nx := fun _ h' => fin h Q .non h', rt := fin h Q } (envOf m ds) h
/-- .. whose objects stay -/
def fnK (n m : Nat) (b : DS) : List D → MH → DK → Prop := fun ds h Q => ds.length = n ∧ b { nx := fun _ h' => Q .non h', rt := Q } (envOf m ds) h
theorem re_start {K : PySem.W.Frag} {μ : Wd} {H : Hp} {N : List Str} {ds : List D} {vs : List V} (r : RDs K μ H ds vs) : RE K μ H (envOf N.length ds) (L2.start N vs) := by
  have hl := r.length
  refine ⟨by unfold envOf L2.start; simp [hl], fun i d e => ?_⟩
  unfold envOf at e
  unfold L2.start
  by_cases hi : i < ds.length
  · rw [List.getElem?_append_left (by simpa using hi), List.getElem?_map] at e
    cases q : ds[i]? with
    | none => rw [q] at e; cases e
    | some z =>
      rw [q] at e; cases e
      obtain ⟨v, h1, h2⟩ := r.get q
      exact ⟨v, by rw [List.getElem?_append_left (by simp; omega), List.getElem?_map, h1]; rfl, h2⟩
  · rw [List.getElem?_append_right (by simpa using hi), List.getElem?_replicate] at e
    split at e <;> cases e
/-- the context of a def's body -/
structure Ctx (X : Cx) (k : Nat) : Prop where
  guards : X.A.guards = some []
  room : Room k X.A
theorem fnG_core {x qual : Str} {st : Stmt} {f : Addr} {fd : FuncData} {N ps : List Str} {k n : Nat} {S : List D → MH → DK → Prop} (F : Fun K x qual st f fd) (Sc : FnScope N ps (defScope st)) (hn : n = ps.length) (hl : ∀ ds h Q, S ds h Q → ds.length = n) (b : DS)
    (hS : ∀ {μ : Wd} {H : Hp} {ds : List D} {h : MH} {Pq : DK} {Q : VK}, SimH K h μ H → S ds h Pq → LkE K Pq μ H Q → ∃ E : EndsD, b E (envOf N.length ds) h ∧ Lk K E μ H { nx := fun _ H' => Q .non H', rt := Q })
    (hb : ∀ (cdv : Value) (A : Around) (outer : List PySem.Env) (s : Shared) (H : Hp) (E : XK), Ctx (cxOf CX0 P w K mg base N qual (defScope st) f cdv A outer s H E).nox k →
      PDSs (cxOf CX0 P w K mg base N qual (defScope st) f cdv A outer s H E).nox (defBody st) b) : FnG P w K mg base (k + 1) f fd ps S := by
  obtain ⟨oc, od, kV, doc, pm, an, cdv, ct, osl, rfl, lk, hcd⟩ := F.ex
  refine ⟨fun ds h Q q => by rw [← hn]; exact hl ds h Q q, fun A outer s H args us vs Q hg hr e0 hbd r hsp => ?_⟩
  obtain ⟨ds, h, μ, Pq, s0, rds, sp, l⟩ := hsp
  have hlen : vs.length = ps.length := by rw [← rds.length, ← hn]; exact hl ds h Pq sp
  have KX : K.In s.heap := e0.mod.kin.keeps fun c o e => (e0.bs c o e).1
  have lim : s.heap.NoLimit := e0.mod.nolimit.keeps fun c o e => (e0.bs c o e).1
  have knd : ∀ y ∈ ps.zip us, (defScope st).names.lookup y.1 = some .local ∨ ((defScope st).names.lookup y.1 = some .cell ∧ ((cellsFrom (s.heap.objs.size + 1) (defScope st).names []).lookup y.1).isSome = true) := fun y hy => by
    rcases Sc.par y.1 (List.of_mem_zip (show (y.1, y.2) ∈ ps.zip us from hy)).1 with q | q
    · exact .inl q
    · exact .inr ⟨q, PySem.W.cellsFrom_some _ _ _ (.inl q)⟩
  refine codeAny_call_function hr.depth (KX f _ lk) rfl Sc.co Sc.gen rfl (PySem.W.codeRec_of KX hcd) (hbd _ _ _ _ ?_)
  refine wpAny_newFunctionEnv_cells Sc.kind knd fun env he s1 x => ?_
  subst he
  refine ⟨lim.keeps x.toInCall.keep, codeAny_func ?_⟩
  have I : Inv (cxOf CX0 P w K mg base N qual (defScope st) f cdv A outer s H E0) [] (L2.start N vs) H s1 := inv_start Sc hr.hd e0 hlen r x
  obtain ⟨E, hE, lE⟩ := hS s0 sp l
  have rdy : rdS K b { nx := fun _ H' => Q .non H', rt := Q } (L2.start N vs) H := ⟨_, h, μ, E, ⟨re_start rds, s0⟩, hE, lE⟩
  have B := (hb cdv A outer s H E0 ⟨hg, hr.deeper _⟩)
  refine wpAny_mono ((PSs.nox B).run [] s1 (L2.start N vs) H _ I rdy) (fun fl s' hs => ?_) fun e s' hs => hs
  cases fl with
  | ret u =>
    obtain ⟨v, σ', H', J, rv, q⟩ := hs
    exact ⟨v, H', J.os, J.bare, J.base, J.hok, rv, q⟩
  | next =>
    obtain ⟨σ', H', J, q⟩ := hs
    exact ⟨.non, H', J.os, J.bare, J.base, J.hok, rfl, q⟩
  | brk => obtain ⟨_, _, _, q⟩ := hs; exact q.elim
  | cont => obtain ⟨_, _, _, q⟩ := hs; exact q.elim
theorem fnG_of {x qual : Str} {st : Stmt} {f : Addr} {fd : FuncData} {N ps : List Str} {k n m : Nat} {b : DS} (F : Fun K x qual st f fd) (Sc : FnScope N ps (defScope st)) (hn : n = ps.length) (hm : m = N.length)
    (hb : ∀ (cdv : Value) (A : Around) (outer : List PySem.Env) (s : Shared) (H : Hp) (E : XK), Ctx (cxOf CX0 P w K mg base N qual (defScope st) f cdv A outer s H E).nox k →
      PDSs (cxOf CX0 P w K mg base N qual (defScope st) f cdv A outer s H E).nox (defBody st) b) : FnG P w K mg base (k + 1) f fd ps (fnS n m b) := by
  subst hm
  refine fnG_core F Sc hn (fun ds h Q q => q.1) b (fun {μ H ds h Pq Q} s0 sp l => ⟨_, sp.2, ⟨fun env' h' μ' σ' H' p x S => ?_, fin_lk s0 l, fun _ _ _ _ _ p _ _ => p.elim, fun _ _ _ _ _ p _ _ => p.elim⟩⟩) hb
  exact fin_lk s0 l .non h' .non μ' H' p x S.sh .non
theorem fnG_ofK {x qual : Str} {st : Stmt} {f : Addr} {fd : FuncData} {N ps : List Str} {k n m : Nat} {b : DS} (F : Fun K x qual st f fd) (Sc : FnScope N ps (defScope st)) (hn : n = ps.length) (hm : m = N.length)
    (hb : ∀ (cdv : Value) (A : Around) (outer : List PySem.Env) (s : Shared) (H : Hp) (E : XK), Ctx (cxOf CX0 P w K mg base N qual (defScope st) f cdv A outer s H E).nox k →
      PDSs (cxOf CX0 P w K mg base N qual (defScope st) f cdv A outer s H E).nox (defBody st) b) : FnG P w K mg base (k + 1) f fd ps (fnK n m b) := by
  subst hm
  refine fnG_core F Sc hn (fun ds h Q q => q.1) b (fun {μ H ds h Pq Q} s0 sp l => ⟨_, sp.2, ⟨fun env' h' μ' σ' H' p x S => ?_, l, fun _ _ _ _ _ p _ _ => p.elim, fun _ _ _ _ _ p _ _ => p.elim⟩⟩) hb
  exact l .non h' .non μ' H' p x S.sh .non
theorem FnG.imp {k : Nat} {f : Addr} {fd : FuncData} {ps : List Str} {S S' : List D → MH → DK → Prop} (F : FnG P w K mg base k f fd ps S) (h : ∀ ds h Q, S' ds h Q → S ds h Q) : FnG P w K mg base k f fd ps S' :=
  ⟨fun ds h' Q q => F.len ds h' Q (h _ _ _ q), fun A outer s H args us vs Q hg hr he hb hv ⟨ds, h', μ, Pq, s0, r, sp, l⟩ => F.run A outer s H args us vs Q hg hr he hb hv ⟨ds, h', μ, Pq, s0, r, h _ _ _ sp, l⟩⟩
end
/-! ## calls -/
section
variable {X : Cx}
theorem run_fnG {k : Nat} {f : Addr} {fd : FuncData} {ps : List Str} {S : List D → MH → DK → Prop} {pins : List (Addr × Obj)} {σ : L2.St} {H : Hp} {s : Shared} {Q : VK} {us : List Value} {vs : List V} (F : FnG X.prog X.w X.K X.mg X.base k f fd ps S)
    (hg : X.A.guards = some []) (hr : Room k X.A) (hb : Binds X.K fd ps []) (I : Inv X pins σ H s) (r : Vals vs us) (h : rdC X.K S vs H Q) : wpAny (model X.prog X.w) X.A (call (.ref f) us) (EP X pins σ Q) X.xe s := by
  have hl : us.length = ps.length := by
    obtain ⟨ds, h', μ, Pq, s0, rds, sp, l⟩ := h
    rw [← r.length, ← rds.length]; exact F.len _ _ _ sp
  have b := hb s us I.kIn (by rw [List.append_nil]; exact hl)
  rw [List.append_nil] at b
  refine wpAny_call (codeAny_mono (F.run X.A X.stack s H ⟨us, []⟩ us vs Q hg hr I.env0 b r h) fun z s' hq => ?_)
  cases z with
  | error e => exact (show False from hq).elim
  | ok fl =>
    cases fl with
    | ret u => exact I.after hq
    | next => exact (show False from hq).elim
    | brk => exact (show False from hq).elim
    | cont => exact (show False from hq).elim
theorem pd_call {k : Nat} {f : Addr} {fd : FuncData} {ps : List Str} {S : List D → MH → DK → Prop} {x : Str} {p pos : Pos} {e : Expr} {es : List Expr} {was : DA} (F : FnG X.prog X.w X.K X.mg X.base k f fd ps S) (hG : X.A.guards = some []) (hr : Room k X.A)
    (hg : Gl X x) (hm : X.mg x = some (.ref f)) (hk : PySem.W.keepIn X.K (.ref f) = true) (hb : Binds X.K fd ps []) (ha : PDA X (e :: es) was) (hdb : (x == ("__debug__" : Str)) = false := by decide)
    (he : starEach (e :: es) X.env = (false, eval e X.env) :: starEach es X.env := by rfl) (hpl : (backTo pos (starEach es X.env)).any (·.1) = false := by rfl) : PD X (.Call (.Name x p) (e :: es) [] pos) (wCall S was) := by
  refine ⟨fun pins s σ H Q I q => ?_⟩
  have q' := t_call _ _ _ q
  refine wpAny_Call_Name_kw (ld_glob I hg hm ?_ hdb)
  refine PySem.W.callWith_K (h₀ := X.base) I.ok.mod.kin hk (thn (ha.run pos pins s σ H _ I q') fun us s1 ⟨vs, H1, I1, r, z⟩ => ⟨I1.kIn, ?_⟩) he hpl
  exact run_fnG F hG hr hb I1 r z
theorem pd_call0 {k : Nat} {f : Addr} {fd : FuncData} {ps : List Str} {S : List D → MH → DK → Prop} {x : Str} {p pos : Pos} (F : FnG X.prog X.w X.K X.mg X.base k f fd ps S) (hG : X.A.guards = some []) (hr : Room k X.A)
    (hg : Gl X x) (hm : X.mg x = some (.ref f)) (hk : PySem.W.keepIn X.K (.ref f) = true) (hb : Binds X.K fd ps []) (hdb : (x == ("__debug__" : Str)) = false := by decide) : PD X (.Call (.Name x p) [] [] pos) (wCall S wNil) := by
  refine ⟨fun pins s σ H Q I q => ?_⟩
  obtain ⟨env, hh, μ, Pq, Sm, sp, l⟩ := q
  refine wpAny_Call_Name_kw (ld_glob I hg hm ?_ hdb)
  exact PySem.W.callWith_K0 I.kIn hk (run_fnG (us := []) F hG hr hb I .nil ⟨[], hh, μ, Pq, Sm.sh, .nil, sp, l⟩)
end
end DL
namespace DL
open PySem PySem.Spec PyProof.Rows L2
/-! # dicts -/
def kD : Key → D
  | .inl i => .int i
  | .inr x => .str x
def getD (kvs : List (Key × D)) (k : Key) : Option D := (kvs.find? fun kv => decide (kv.1 = k)).map (·.2)
def putD (kvs : List (Key × D)) (k : Key) (v : D) : List (Key × D) :=
  if (kvs.any fun kv => decide (kv.1 = k)) = true then kvs.map (fun kv => if kv.1 = k then (kv.1, v) else kv) else kvs ++ [(k, v)]
def mergeD (kvs more : List (Key × D)) : List (Key × D) := more.foldl (fun acc kv => putD acc kv.1 kv.2) kvs
section
variable {K : PySem.W.Frag} {μ : Wd} {H : Hp}
theorem rd_kD {k : Key} {v : V} (r : RD K μ H (kD k) v) : v = kV k := by
  cases k with
  | inl i => exact rdInt r
  | inr i => exact rdStr r
theorem kD_rd (k : Key) : RD K μ H (kD k) (kV k) := by
  cases k with
  | inl i => exact .int i
  | inr i => exact .str i
theorem RK.get : ∀ {a : List (Key × D)} {b : List (Key × V)} {k : Key} {d : D}, RK K μ H a b → getD a k = some d → ∃ v, valV b k = some v ∧ RD K μ H d v
  | _, _, _, _, .nil, e => by cases e
  | p :: a, q :: b, k, d, .cons h r, e => by
    by_cases hk : p.1 = k
    · have e1 : getD (p :: a) k = some p.2 := by simp [getD, List.find?_cons, hk]
      rw [e1] at e; cases e
      exact ⟨q.2, valV_pos (h.1.symm.trans hk), h.2⟩
    · have e1 : getD (p :: a) k = getD a k := by simp [getD, List.find?_cons, hk]
      rw [e1] at e
      obtain ⟨v, h1, h2⟩ := RK.get r e
      exact ⟨v, by rw [valV_neg (fun z => hk (h.1.trans z))]; exact h1, h2⟩
theorem RK.any : ∀ {a : List (Key × D)} {b : List (Key × V)} (k : Key), RK K μ H a b → (a.any fun kv => decide (kv.1 = k)) = (b.any fun kv => decide (kv.1 = k))
  | _, _, _, .nil => rfl
  | _, _, k, .cons h r => by rw [List.any_cons, List.any_cons, RK.any k r, h.1]
theorem RK.app : ∀ {a a' : List (Key × D)} {b b' : List (Key × V)}, RK K μ H a b → RK K μ H a' b' → RK K μ H (a ++ a') (b ++ b')
  | _, _, _, _, .nil, s => s
  | _, _, _, _, .cons h r, s => .cons h (RK.app r s)
theorem RK.mp {k : Key} {d : D} {v : V} (hv : RD K μ H d v) : ∀ {a : List (Key × D)} {b : List (Key × V)}, RK K μ H a b → RK K μ H (a.map fun kv => if kv.1 = k then (kv.1, d) else kv) (b.map fun kv => if kv.1 = k then (kv.1, v) else kv)
  | _, _, .nil => .nil
  | p :: _, q :: _, .cons h r => by
    refine .cons ?_ (RK.mp hv r)
    show (if p.1 = k then (p.1, d) else p).1 = (if q.1 = k then (q.1, v) else q).1 ∧ RD K μ H (if p.1 = k then (p.1, d) else p).2 (if q.1 = k then (q.1, v) else q).2
    by_cases hk : p.1 = k
    · rw [if_pos hk, if_pos (h.1.symm.trans hk)]; exact ⟨h.1, hv⟩
    · rw [if_neg hk, if_neg (fun z => hk (h.1.trans z))]; exact h
theorem RK.put {a : List (Key × D)} {b : List (Key × V)} {k : Key} {d : D} {v : V} (r : RK K μ H a b) (hv : RD K μ H d v) : RK K μ H (putD a k d) (putK b k v) := by
  unfold putD putK
  rw [r.any k]
  split
  · exact r.mp hv
  · exact r.app (.cons ⟨rfl, hv⟩ .nil)
theorem RK.merge : ∀ {m : List (Key × D)} {n : List (Key × V)} {a : List (Key × D)} {b : List (Key × V)}, RK K μ H m n → RK K μ H a b → RK K μ H (mergeD a m) (mergeK b n)
  | _, _, _, _, .nil, r => r
  | p :: m, q :: n, a, b, .cons h t, r => by
    show RK K μ H (mergeD (putD a p.1 p.2) m) (mergeK (putK b q.1 q.2) n)
    rw [h.1]
    exact RK.merge t (r.put h.2)
theorem RK.length : ∀ {a : List (Key × D)} {b : List (Key × V)}, RK K μ H a b → a.length = b.length
  | _, _, .nil => rfl
  | _, _, .cons _ r => by rw [List.length_cons, List.length_cons, RK.length r]
end
section
variable {X : Cx}
def wPairs : List (DW × DW) → Env → MH → (List (D × D) → MH → Prop) → Prop
  | [], _, h, Q => Q [] h
  | (a, b) :: r, env, h, Q => a env h fun x h1 => b env h1 fun y h2 => wPairs r env h2 fun ps h3 => Q ((x, y) :: ps) h3
def wDisp (ps : List (DW × DW)) : DW := fun env h Q => wPairs ps env h fun kvs h1 => ∃ kk : List (Key × D), kvs = kk.map (fun kv => (kD kv.1, kv.2)) ∧ kk.length ≤ 15 ∧ Q (.ob h1.length) (h1 ++ [.dic (mergeD [] kk)])
def RPs (K : PySem.W.Frag) (μ : Wd) (H : Hp) : List (D × D) → List (V × V) → Prop := Paired fun p q => RD K μ H p.1 q.1 ∧ RD K μ H p.2 q.2
theorem t_pairs {K : PySem.W.Frag} : ∀ (ps : List (DW × DW)) (σ : L2.St) (H : Hp) (Q : List (V × V) → Hp → Prop) (env : Env) (h : MH) (μ : Wd) (P : List (D × D) → MH → Prop), Sm K env h μ σ H → wPairs ps env h P →
    (∀ ds h' vs μ' H', P ds h' → Ext μ H μ' H' → SimH K h' μ' H' → RPs K μ' H' ds vs → Q vs H') → tPairs (ps.map fun p => (rd K p.1, rd K p.2)) σ H Q
  | [], σ, H, Q, env, h, μ, P, S, p, l => l [] h [] μ H p (Ext.refl _ _) S.sh .nil
  | (a, b) :: r, σ, H, Q, env, h, μ, P, S, p, l => by
    refine ⟨env, h, μ, _, S, p, fun x h1 v μ1 H1 p1 x1 s1 r1 => ?_⟩
    refine ⟨env, h1, μ1, _, ⟨S.re.mono x1, s1⟩, p1, fun y h2 u μ2 H2 p2 x2 s2 r2 => ?_⟩
    refine t_pairs r σ H2 _ env h2 μ2 _ ⟨S.re.mono (x1.trans x2), s2⟩ p2 fun ds h3 vs μ3 H3 p3 x3 s3 r3 => ?_
    exact l _ h3 _ μ3 H3 p3 ((x1.trans x2).trans x3) s3 (.cons ⟨(r1.mono x2).mono x3, r2.mono x3⟩ r3)
theorem rps_keys {K : PySem.W.Frag} {μ : Wd} {H : Hp} : ∀ {kk : List (Key × D)} {vs : List (V × V)}, RPs K μ H (kk.map fun kv => (kD kv.1, kv.2)) vs → ∃ ws : List (Key × V), vs = ws.map (fun kv => (kV kv.1, kv.2)) ∧ RK K μ H kk ws
  | [], _, r => by cases r; exact ⟨[], rfl, .nil⟩
  | (k, d) :: kk, _, r => by
    cases r with
    | cons h r =>
      rename_i q _
      obtain ⟨ws, rfl, r2⟩ := rps_keys r
      refine ⟨(k, q.2) :: ws, ?_, .cons ⟨rfl, h.2⟩ r2⟩
      rw [List.map_cons, ← rd_kD h.1]
theorem pd_disp {pos : Pos} {keys : List (Option Expr)} {values : List Expr} {ps : List (DW × DW)} (hp : PE X (.Dict keys values pos) (tDisp (ps.map fun p => (rd X.K p.1, rd X.K p.2)))) : PD X (.Dict keys values pos) (wDisp ps) := by
  refine pe_imp hp fun σ H Q q => ?_
  obtain ⟨env, h, μ, P, S, p, l⟩ := q
  intro D hD
  have x0 : Ext μ H (μ.res D) (upd H D (.dK [])) := Ext.res hD
  refine t_pairs ps σ _ _ env h (μ.res D) _ ⟨S.re.mono x0, S.sh.res hD⟩ p fun ds h1 vs μ1 H1 ⟨kk, e, hl, p1⟩ x1 s1 r1 => ?_
  subst e
  obtain ⟨ws, rfl, r2⟩ := rps_keys r1
  have hr : D ∈ μ1.rho := x1.rho D List.mem_cons_self
  have hd : H1 D = some (.dK []) := (x1.keep D _ upd_same (S.sh.fresh hD)).1
  refine ⟨hd, ws, rfl, by rw [← r2.length]; exact hl, ?_⟩
  have hnf : ∀ ob u, (HO.dK []) ≠ .frz ob u := fun _ _ z => nomatch z
  have s2 : SimH X.K h1 μ1 (upd H1 D (.dK (mergeK [] ws))) := s1.anon hr hd trivial hnf
  have r3 : RK X.K μ1 (upd H1 D (.dK (mergeK [] ws))) (mergeD [] kk) (mergeK [] ws) := RK.merge (Paired.mapP r2 fun _ _ z => ⟨z.1, z.2.anon hr hd trivial hnf⟩) .nil
  have ht : ∀ xs, (upd H1 D (.dK (mergeK [] ws))) D ≠ some (.tup xs) := fun _ z => by rw [upd_same] at z; cases z
  have hf : ∀ ob u, (upd H1 D (.dK (mergeK [] ws))) D ≠ some (.frz ob u) := fun _ _ z => by rw [upd_same] at z; cases z
  have nD : D ∉ μ1.mu := (s1.rs D hr).2
  have xx := x0.trans x1
  have x2 : Ext μ H ⟨μ1.mu ++ [D], μ1.rho.filter (fun a => decide (a ≠ D))⟩ (upd H1 D (.dK (mergeK [] ws))) := by
    refine ⟨fun a u e n => ?_, ?_, fun a z => ?_⟩
    · obtain ⟨a1, a2, a3⟩ := xx.keep a u e n
      have aD : a ≠ D := ne_of_none e hD
      refine ⟨by rw [upd_ne aD]; exact a1, ?_, fun z w => a3 z (List.mem_filter.mp w).1⟩
      simp only [List.mem_append, List.mem_singleton, not_or]; exact ⟨a2, aD⟩
    · obtain ⟨r, e⟩ := xx.pre
      exact ⟨r ++ [D], by rw [e, List.append_assoc]⟩
    · have aD : a ≠ D := fun e => by
        subst e
        obtain ⟨⟨u, hu⟩, _⟩ := S.sh.rs a z
        rw [hD] at hu; cases hu
      exact List.mem_filter.mpr ⟨xx.rho a z, decide_eq_true aD⟩
  refine l _ _ _ _ _ p1 x2 (s2.adopt hr ⟨_, upd_same, Paired.mapP r3 fun _ _ z => ⟨z.1, z.2.adopt hr ht hf⟩⟩ fun r => r.adopt hr ht hf) (.ob ?_)
  rw [← s1.len, List.getElem?_append_right (Nat.le_refl _), Nat.sub_self]; rfl
def rDG : D → D → MH → DK → Prop := fun x y h Q => ∃ n kvs k v, x = .ob n ∧ h[n]? = some (.dic kvs) ∧ y = kD k ∧ getD kvs k = some v ∧ Q v h
theorem obK {K : PySem.W.Frag} {μ : Wd} {H : Hp} {h : MH} {v : V} {n : Nat} {kvs : List (Key × D)} (s : SimH K h μ H) (r : RD K μ H (.ob n) v) (e : h[n]? = some (.dic kvs)) : ∃ a ws, v = .ref a ∧ μ.mu[n]? = some a ∧ H a = some (.dK ws) ∧ RK K μ H kvs ws := by
  obtain ⟨a, ha, vs, hv, q⟩ := s.at_ n _ e
  cases r with
  | ob hb => rw [ha] at hb; cases hb; exact ⟨_, vs, rfl, ha, hv, q⟩
theorem pd_dget {o i : Expr} {wo wi : DW} {pos : Pos} (hu : X.A.units + 1 < cLine) (ho : PD X o wo) (hi : PD X i wi) (hs : NoSl i) : PD X (.Subscript o i pos) (wOp rDG wo wi) := by
  refine pe_imp (pe_dget hu ho hi hs) fun σ H Q q => ?_
  obtain ⟨env, hh, μ, P, S, p, l⟩ := q
  refine ⟨env, hh, μ, _, S, p, fun x h1 v μ1 H1 p1 x1 s1 r1 => ?_⟩
  refine ⟨env, h1, μ1, _, ⟨S.re.mono x1, s1⟩, p1, fun y h2 u μ2 H2 ⟨n, kvs, k, d, e1, e2, e3, e4, p2⟩ x2 s2 r2 => ?_⟩
  subst e1; subst e3
  obtain ⟨a, ws, rfl, ha, hw, rk⟩ := obK s2 (r1.mono x2) e2
  obtain ⟨v, hv, rv⟩ := rk.get e4
  refine ⟨a, v, rfl, ?_, l _ _ _ _ _ p2 (x1.trans x2) s2 rv⟩
  rw [rd_kD r2, ← hv]
  exact DGet.k hw
def sDPut (wo wi wv : DW) : DS := fun E env h => wv env h fun v h1 => wo env h1 fun x h2 => wi env h2 fun y h3 => ∃ n kvs k, x = .ob n ∧ h3[n]? = some (.dic kvs) ∧ y = kD k ∧ kvs.length < sizeLine ∧ E.nx env (h3.set n (.dic (putD kvs k v)))
theorem ds_dput {o i value : Expr} {pos pos' : Pos} {wo wi wv : DW} (hp : PS X (.Assign [.Subscript o i pos'] value pos) (L2.sDPut (rd X.K wo) (rd X.K wi) (rd X.K wv))) : PDS X (.Assign [.Subscript o i pos'] value pos) (sDPut wo wi wv) := by
  refine ps_imp hp fun Dn σ H q => ?_
  obtain ⟨env, hh, μ, E, S, p, l⟩ := q
  refine ⟨env, hh, μ, _, S, p, fun d h1 v μ1 H1 p1 x1 s1 r1 => ?_⟩
  refine ⟨env, h1, μ1, _, ⟨S.re.mono x1, s1⟩, p1, fun x h2 v2 μ2 H2 p2 x2 s2 r2 => ?_⟩
  refine ⟨env, h2, μ2, _, ⟨S.re.mono (x1.trans x2), s2⟩, p2, fun y h3 v3 μ3 H3 ⟨n, kvs, k, e1, e2, e3, hl, p3⟩ x3 s3 r3 => ?_⟩
  subst e1; subst e3
  obtain ⟨a, ws, rfl, ha, hw, rk⟩ := obK s3 (r2.mono x3) e2
  have hm : a ∈ μ3.mu := List.mem_of_getElem? ha
  refine ⟨a, _, rfl, by rw [rd_kD r3]; exact DPut.k hw (by rw [← rk.length]; exact hl), ?_⟩
  have rv := (r1.mono x2).mono x3
  have xc : Ext μ3 H3 μ3 (upd H3 a (.dK (putK ws k v))) := Ext.chg hm
  have x13 := (x1.trans x2).trans x3
  exact l.nx _ _ _ _ _ p3 (x13.trans xc) ⟨(S.re.mono x13).mono xc, s3.chg ha ⟨_, upd_same, (rk.put rv).mono xc⟩⟩
end
/-! # the law -/
section
variable {P : Program} {w : World} {K : PySem.W.Frag} {mg mb : Str → Option Value}
/-- the script as data -/
def scrD (ns : List Int) : D := .scr (ns.map D.int)
theorem rds_of_ints {μ : Wd} {H : Hp} : ∀ ns : List Int, RDs K μ H (ns.map D.int) (ns.map V.int)
  | [] => .nil
  | n :: ns => .cons (.int n) (rds_of_ints ns)
theorem law_call {k : Nat} {fa a : Addr} {fd : FuncData} {x : Str} {S : List D → MH → DK → Prop} {s₁ : Shared} {vs : List Value} {ns : List Int}
    (KX : K.In s₁.heap) (hns : s₁.heap.Ns mainGlobals mg) (hb : s₁.heap.Ns builtinsNs mb) (hbb : ∀ x : Str, x ≠ "__name__" → mb x = bootBuiltins x) (hlim : s₁.heap.NoLimit) (hgn : s₁.gens = #[])
    (ha : s₁.heap.get? a = some { cls := .type "list", data := .seq vs.toArray }) (hi : IntsAre vs ns) (hl : ns.length ≤ sizeLine) (hr : Room k callerA)
    (F : ∀ base : Heap, K.In base → base.Ns mainGlobals mg → FnG P w K mg base k fa fd [x] S) (hbind : ∀ (s : Shared) (u : Value), BindsTo s fd ⟨[u], []⟩ [(x, u)])
    (hS : S [scrD ns] [] fun d _ => d = .bl true) :
    codeAny (model P w) callerA (.call (.ref fa) ⟨[.ref a], []⟩) (fun r s' => r = .ok (.ret (.bool true)) ∧ OldK s₁.heap s'.heap ∧ s'.os = s₁.os ∧ AllBare s'.gens) s₁ := by
  -- a def that does what F does, whatever runs around it
  have F2 : ∀ base : Heap, K.In base → base.Ns mainGlobals mg → ∀ (s : Shared) (H : Hp), Env0 P w K mg base callerA [] s H → Only H → SqL K H a (ns.map V.int) →
      codeAny (model P w) callerA (.call (.ref fa) ⟨[.ref a], []⟩) (CR CX0 [] P w H s (fun v _ => v = .bl true) E0) s := fun base kb nb s H e0 hO hS' => by
    refine (F base kb nb).run callerA [] s H ⟨[.ref a], []⟩ [.ref a] [.ref a] _ rfl hr e0 (hbind s (.ref a)) (.cons rfl .nil) ?_
    refine ⟨[scrD ns], [], ⟨[], []⟩, _, ⟨rfl, List.nodup_nil, fun n o e => by simp at e, fun b z => nomatch z⟩, ?_, hS, fun d h' v μ' H' p x s r => ?_⟩
    · refine .cons (.scr ?_ (rds_of_ints ns)) .nil
      rcases hS' with h1 | h1
      · rcases hO a with z | ⟨o, xs, z⟩
        · rcases h1 with h1 | ⟨o, h1⟩
          · rw [z] at h1; cases h1
          · rw [z] at h1; cases h1
        · rcases h1 with h1 | ⟨o', h1⟩
          · rw [z] at h1; cases h1
          · exact .inl ⟨⟨o', h1⟩, fun q => nomatch q⟩
      · exact .inr (.inr h1)
    · subst p
      exact rdBl r
  have rv := vals_ints hi
  have lenV := hi.length
  have core : ∀ H : Hp, Only H → SqL K H a (ns.map V.int) → HOk P w H s₁.heap → (∀ b, H b ≠ none → b = a) → (H a ≠ none → K.lookup a = none) →
      codeAny (model P w) callerA (.call (.ref fa) ⟨[.ref a], []⟩) (fun r s' => r = .ok (.ret (.bool true)) ∧ OldK s₁.heap s'.heap ∧ s'.os = s₁.os ∧ AllBare s'.gens) s₁ := by
    intro H hO hSq hok hA hK
    have only_a : ∀ {b : Addr} {u : HO}, H b = some u → b = a := fun {b u} q => hA b (by rw [q]; intro z; cases z)
    have noA : ∀ {b : Addr} {o : Obj} {es : Array DictEntry} {ep : Nat}, s₁.heap.get? b = some o → o.data = .dict es ep → H b = none := fun {b o es ep} e d => by
      cases q : H b with
      | none => rfl
      | some u =>
        rw [only_a q, ha] at e
        cases e
        exact absurd (show Data.seq vs.toArray _ = Data.dict es ep from d) (fun z => by cases z)
    have nsK : ∀ {b : Addr} {m : Str → Option Value}, s₁.heap.Ns b m → (hidT s₁.heap H).Ns b m := fun {b m} z => by
      obtain ⟨o, es, ep, e, d, r⟩ := z
      exact ⟨o, es, ep, hidT_get e (noA e d), d, r⟩
    have hKb : K.In (hidT s₁.heap H) := fun b o e => by
      refine hidT_get (KX b o e) ?_
      cases q : H b with
      | none => rfl
      | some u =>
        have ea := only_a q
        rw [ea] at e q
        rw [hK (by rw [q]; intro z; cases z)] at e
        cases e
    obtain ⟨mc, n1, n2⟩ := hlim
    have hM : Mod K mg (hidT s₁.heap H) := ⟨hKb, nsK hns, ⟨mb, nsK hb, hbb⟩, mc, nsK n1, n2⟩
    have e0 : Env0 P w K mg (hidT s₁.heap H) callerA [] s₁ H := ⟨rfl, hM, fun b o e => of_hidT e, Nat.le_of_eq (hidT_size _ _), trivial, fun b z => absurd (show b ∈ ([] : List Addr) from z) (by simp), hok, .of_eq hgn⟩
    refine codeAny_mono (F2 _ hKb (nsK hns) s₁ H e0 hO hSq) fun r s' h => ?_
    cases r with
    | error e => exact (show False from h).elim
    | ok fl =>
      cases fl with
      | next => exact (show False from h).elim
      | brk => exact (show False from h).elim
      | cont => exact (show False from h).elim
      | ret u =>
        obtain ⟨v, H', os, bare, un, hok', r', q⟩ := h
        subst q
        cases (show u = Value.bool true from r')
        refine ⟨rfl, OldK.of_keep fun b o e => ?_, os, bare⟩
        cases q : H b with
        | none => exact un.keep b o e q (fun z => absurd (show b ∈ ([] : List Addr) from z) (by simp)) (by simp)
        | some u =>
          rcases hO b with z | ⟨ob, xs, z⟩
          · rw [q] at z; cases z
          · obtain ⟨e1, _⟩ := hok b _ z
            obtain ⟨e2, _⟩ := hok' b _ (un.frzs b ob _ z)
            rw [e1] at e; cases e
            exact e2
  cases hk : K.lookup a with
  | some o =>
    have e := KX a o hk
    rw [ha] at e
    cases e
    exact core (fun _ => none) (fun _ => .inl rfl) (.inr ⟨_, vs.toArray, _, hk, rfl, rfl, rfl, by rw [List.size_toArray, lenV]; exact hl, by simpa using rv⟩) (fun b u z => nomatch z) (fun b z => absurd rfl z) fun z => absurd rfl z
  | none =>
    let Hs : Hp := fun b => if b = a then some (.frz { cls := .type "list", data := .seq vs.toArray } (.lst (ns.map V.int))) else none
    have hs1 : Hs a = some (.frz { cls := .type "list", data := .seq vs.toArray } (.lst (ns.map V.int))) := if_pos rfl
    have hs2 : ∀ b, b ≠ a → Hs b = none := fun b n => if_neg n
    refine core Hs (fun b => ?_) (.inl (.inr ⟨_, hs1⟩)) (fun b u z => ?_) (fun b z => ?_) fun _ => hk
    · by_cases e : b = a
      · exact .inr ⟨_, _, by rw [e]; exact hs1⟩
      · exact .inl (hs2 b e)
    · by_cases e : b = a
      · subst e
        rw [hs1] at z; cases z
        exact ⟨ha, by rw [List.length_map]; exact hl, vs, _, rv, ha⟩
      · rw [hs2 b e] at z; cases z
    · by_cases e : b = a
      · exact e
      · exact absurd (hs2 b e) z
end
end DL
namespace DL
open PySem PySem.Spec PyProof.Rows L2
theorem walk_ofG {l : PySem.W.OpenLaw} {n k : Nat} {q : Program} {loose : List Str} {XP : (Str → Option Value) → Heap → Prop} {YP : World → Heap → Prop} {d : DefRec} {K : Params → PySem.W.Frag} {S : List D → MH → DK → Prop} {x : Str}
    (hn : l.most = some n) (hn2 : n ≤ sizeLine) (hdf : d.params.defaults = []) (hr : Room k callerA) (hY : ∀ (w : World) (h : Heap), YP w h → (K w.params).In h)
    (F : ∀ (w : World) (mg : Str → Option Value) (fa : Addr) (h : Heap), (K w.params).In h → h.Ns mainGlobals mg → mg d.name = some (.ref fa) →
      ∃ fd : FuncData, (∀ (s : Shared) (u : Value), BindsTo s fd ⟨[u], []⟩ [(x, u)]) ∧ ∀ base : Heap, (K w.params).In base → base.Ns mainGlobals mg → FnG l.prog w (K w.params) mg base k fa fd [x] S)
    (hS : ∀ ns : List Int, ns.length ≤ n → S [scrD ns] [] fun d _ => d = .bl true) :
    PySem.W.WalkO q loose XP YP l.row.toRowW d [] (fun f vs => PySem.call f vs) := by
  refine Att.attach_call hn hdf fun w s₀ s₁ mg mb fa o pm cd doc a vs ns G Y ho hd hcd hmg hobj hints hlen hg => ?_
  have KX := hY w _ Y
  obtain ⟨fd, hb, hF⟩ := F w mg fa _ KX G.T.g hmg
  exact DL.law_call KX G.T.g G.T.b G.T.builtins G.T.nolimit hg hobj hints (Nat.le_trans hlen hn2) hr hF hb (hS ns hlen)
/-- a def of the text as it stands behind the top -/
structure DefAt (K : PySem.W.Frag) (mg : Str → Option Value) (x : Str) (st : Stmt) (ps : List Str) (f : Addr) (fd : FuncData) : Prop where
  fn : Fun K x x st f fd
  at_ : mg x = some (.ref f)
  bd : Binds K fd ps []
  bt : ∀ (s : Shared) (us : List Value), us.length = ps.length → BindsTo s fd ⟨us, []⟩ (ps.zip us)
theorem defAt {K : PySem.W.Frag} {h : Heap} {mg : Str → Option Value} {x : Str} {st : Stmt} {ps : List Str} {f : Addr} {oc : Value} {od an : Option Addr} {osl : Array (Option Value)} {kV doc pm cdv ct : Value} (X : K.In h) (G : h.Ns mainGlobals mg)
    (a : PySem.W.nsIn K mainGlobals x = some (some (.ref f))) (l : K.lookup f = some ⟨oc, od, .func (PySem.W.fnOf x x (defArgs st) (defBody st) (defScope st) .none kV doc pm an cdv ct), osl⟩) (c : PySem.W.codeIn K cdv x = true) (k : PySem.W.keepIn K (.ref f) = true)
    (b : ∀ (kV doc pm : Value) (an : Option Addr) (cdv ct : Value) (us : List Value), us.length = ps.length → bindArgs (PySem.W.fnOf x x (defArgs st) (defBody st) (defScope st) .none kV doc pm an cdv ct) ⟨us, []⟩ = pure (ps.zip us)) :
    DefAt K mg x st ps f (PySem.W.fnOf x x (defArgs st) (defBody st) (defScope st) .none kV doc pm an cdv ct) :=
  ⟨fun_mk l c k, PySem.W.mg_of X G a, (fun_mk (x := x) (qual := x) l c k).binds b, fun s us e => .of_eq (b _ _ _ _ _ _ us e)⟩

/-! # short forms for printed terms -/
section
variable {X : Cx}
theorem pd_lc (b : Bool) {elt tg iter : Expr} {ifs : List Expr} {scope : Scope} {own : List (Str × Nat)} {pos : Pos} {wi : DI} {g : DG} {sl : List Nat} {tt : DT} {te : DW} (hc : X.calm = true) (hN : X.N.Nodup) (hi : PDI X tg iter wi) (ok : BlkOk X.N X.env.scope scope own)
    (hs : ∀ j ∈ sl, j ∈ own.map (·.2))
    (hg : ∀ (s : Shared) (H : Hp) (C : Addr) (cl : List (Str × Addr)) (fp : List Addr), PDG (X.blk s H scope (compEnvC scope cl C X.env) fp) tg sl g) (ht : ∀ (s : Shared) (H : Hp) (C : Addr) (cl : List (Str × Addr)) (fp : List Addr), PDTs (X.blk s H scope (compEnvC scope cl C X.env) fp) ifs tt)
    (he : ∀ (s : Shared) (H : Hp) (C : Addr) (cl : List (Str × Addr)) (fp : List Addr), PD (X.blk s H scope (compEnvC scope cl C X.env) fp) elt te) (hf : ∀ x, foldedSetIterable iter X.env x = pure x := by intro _; rfl) :
    PD X (.ListComp elt [⟨tg, iter, ifs, 0⟩] scope pos) (wLc b wi g tt te (own.map (·.2))) := pe_imp (pe_lc (g := rdG X.K sl g) (tt := rdT X.K tt) (te := rd X.K te) hc hN hi ok hg ht he hf) (t_lc hs)
theorem ds_setLc (b : Bool) (i : Nat) {y : Str} {py : Pos} {elt tg iter : Expr} {ifs : List Expr} {scope : Scope} {own : List (Str × Nat)} {pos spos : Pos} {wi : DI} {g : DG} {sl : List Nat} {tt : DT} {te : DW} (hc : X.calm = true) (hN : X.N.Nodup) (hy : X.N[i]? = some y) (hyl : X.env.scope.names.lookup y = some .local)
    (hsw : swapsWith (.ListComp elt [⟨tg, iter, ifs, 0⟩] scope pos) (some (.Name y py)) spos.line X.env = pure true) (hi : PDI X tg iter wi) (ok : BlkOk X.N X.env.scope scope own) (hs : ∀ j ∈ sl, j ∈ own.map (·.2))
    (hg : ∀ (s : Shared) (H : Hp) (C : Addr) (cl : List (Str × Addr)) (fp : List Addr), PDG (X.blk s H scope (compEnvC scope cl C X.env) fp) tg sl g) (ht : ∀ (s : Shared) (H : Hp) (C : Addr) (cl : List (Str × Addr)) (fp : List Addr), PDTs (X.blk s H scope (compEnvC scope cl C X.env) fp) ifs tt)
    (he : ∀ (s : Shared) (H : Hp) (C : Addr) (cl : List (Str × Addr)) (fp : List Addr), PD (X.blk s H scope (compEnvC scope cl C X.env) fp) elt te) (hf : ∀ x, foldedSetIterable iter X.env x = pure x := by intro _; rfl) :
    PDS X (.Assign [.Name y py] (.ListComp elt [⟨tg, iter, ifs, 0⟩] scope pos) spos) (sAsg (wLc b wi g tt te (own.map (·.2))) (gNm i)) := by
  refine ps_imp (L2.ps_setLc (g := rdG X.K sl g) (tt := rdT X.K tt) (te := rd X.K te) hc hN hy hyl hsw hi ok hg ht he hf) fun Dn σ H q => ?_
  obtain ⟨env, h, μ, E, S, p, l⟩ := q
  refine t_lc hs σ H _ ⟨env, h, μ, _, S, p, fun d h1 v μ1 H1 p1 x1 s1 r1 => ?_⟩
  exact l.nx _ _ _ _ _ p1 x1 ⟨(S.re.mono x1).set i r1, s1⟩
theorem Ctx.hu64 {k : Nat} (c : Ctx X k) : X.A.units + 64 < cLine := c.room.units
theorem Ctx.hu65 {k : Nat} (c : Ctx X k) : X.A.units + 65 < cLine := by have := c.room.un; omega
theorem Ctx.hu1 {k : Nat} (c : Ctx X k) : X.A.units + 1 < cLine := by have := c.room.un; omega
end
theorem bt_len : bootBuiltins "len" = some (.builtin "len") := by decide +kernel
theorem bt_tuple : bootBuiltins "tuple" = some (.type "tuple") := by decide +kernel
theorem bt_list : bootBuiltins "list" = some (.type "list") := by decide +kernel
theorem bt_int : bootBuiltins "int" = some (.type "int") := by decide +kernel
theorem bt_str : bootBuiltins "str" = some (.type "str") := by decide +kernel
theorem bt_abs : bootBuiltins "abs" = some (.builtin "abs") := by decide +kernel
theorem bt_max : bootBuiltins "max" = some (.builtin "max") := by decide +kernel
theorem bt_min : bootBuiltins "min" = some (.builtin "min") := by decide +kernel
theorem bt_sum : bootBuiltins "sum" = some (.builtin "sum") := by decide +kernel
theorem bt_all : bootBuiltins "all" = some (.builtin "all") := by decide +kernel
theorem bt_any : bootBuiltins "any" = some (.builtin "any") := by decide +kernel
theorem bt_repr : bootBuiltins "repr" = some (.builtin "repr") := by decide +kernel
theorem bt_isinstance : bootBuiltins "isinstance" = some (.builtin "isinstance") := by decide +kernel
end DL
namespace DL
open PySem PySem.Spec PyProof.Rows L2
/-! # enumerate -/
theorem meets_enumT (q : Addr) (xs : Array Value) (k : Nat) (dq : Option Addr) (sq : Array (Option Value)) :
    Meets (Builtin.«enumerate.__new__» ⟨[.type "enumerate", .ref q], []⟩) (fun _ R s =>
      s.heap.get? q = some ⟨.type "tuple", dq, .seq xs k, sq⟩ ∧
      R (.ok (.ret (.ref (s.heap.push { cls := .type "tuple_iterator", data := .fields #[.ref q, .int 0 0] }).objs.size)))
        { s with heap := (s.heap.push { cls := .type "tuple_iterator", data := .fields #[.ref q, .int 0 0] }).push { cls := .type "enumerate", data := .fields #[.none, .bool false, .ref s.heap.objs.size, rawInt 0, .none, .none] } }) :=
  .of_wp fun prog w A R s h => by
    obtain ⟨a1, a2, a3, a4, a5⟩ := s
    obtain ⟨hq, h⟩ := h
    have hsub := sub_enumerate
    have hT : Heap.IsTuple (Shared.heap ⟨a1, a2, a3, a4, a5⟩) q xs := ⟨_, hq, rfl, k, rfl⟩
    wp_walk using PySem.AutoSeq1.wpAny_loadPart' hq
    refine wpAny_stack_any fun st => wpAny_pure ?_
    split
    · rename_i c _ _ _ _ _
      cases (c == Value.type "enumerate")
      · wp_walk using PySem.AutoSeq1.wpAny_loadPart' hq, wpAny_pyIter_tuple hT
        exact ⟨_, rfl, h⟩
      · wp_walk using PySem.AutoSeq1.wpAny_loadPart' hq, wpAny_pyIter_tuple hT
        exact ⟨_, rfl, h⟩
    · wp_walk using PySem.AutoSeq1.wpAny_loadPart' hq, wpAny_pyIter_tuple hT
      exact ⟨_, rfl, h⟩
theorem call_enumT {prog : Program} {w : World} {A : Around} {E : Value → Shared → Prop} {s : Shared} {q : Addr} {xs : Array Value} {Q : Value → Shared → Prop} (hT : s.heap.IsTuple q xs)
    (h : ∀ h', IsEnum h' (s.heap.objs.size + 1) s.heap.objs.size 0 .none → h'.IsTupleIter s.heap.objs.size q 0 → (∀ b o, s.heap.get? b = some o → h'.get? b = some o) → Q (.ref (s.heap.objs.size + 1)) { s with heap := h' }) :
    wpAny (model prog w) A (call (.type "enumerate") [.ref q]) Q E s := by
  obtain ⟨⟨c, dq, dt, sq⟩, hq, hc, n, hd⟩ := hT
  simp only at hc hd
  subst hc hd
  refine callType_new F.called_enumerate (by decide) (F.typeCall_enumerate_1 _) (F.newCall_enumerate_1 _) (fun obj => F.args_object_init_2 obj _) F.entry_enumerate_new (meets_enumT q xs n dq sq) ⟨hq, ?_⟩
  obtain ⟨h1, e1⟩ : ∃ h1, h1 = s.heap.push { cls := .type "tuple_iterator", data := .fields #[.ref q, .int 0 0] } := ⟨_, rfl⟩
  have hz : h1.objs.size = s.heap.objs.size + 1 := by rw [e1, Heap.size_push]
  rw [← e1]
  have he : IsEnum (h1.push { cls := .type "enumerate", data := .fields #[.none, .bool false, .ref s.heap.objs.size, rawInt 0, .none, .none] }) (s.heap.objs.size + 1) s.heap.objs.size 0 .none := by
    have z := Heap.get?_push_size h1 (o := { cls := .type "enumerate", data := .fields #[.none, .bool false, .ref s.heap.objs.size, rawInt 0, .none, .none] }) rfl
    rw [hz] at z
    exact z
  show _ ∧ _
  rw [hz]
  have g0 : h1.get? s.heap.objs.size = some { cls := .type "tuple_iterator", data := .fields #[.ref q, .int 0 0] } := by rw [e1]; exact Heap.get?_push_size _ rfl
  have g1 : ∀ b o, s.heap.get? b = some o → h1.get? b = some o := fun b o x => by rw [e1]; exact Heap.get?_push_of_some _ x
  refine ⟨⟨_, he, rfl⟩, h _ he ⟨_, Heap.get?_push_of_some _ g0, rfl, rfl⟩ fun b o x => Heap.get?_push_of_some _ (g1 b o x)⟩
/-- pairs of the place and the item -/
def IteT (K : PySem.W.Frag) (a : Addr) : It where
  go := fun i H => ∃ (xs : List V) (x : V), SqT K H a xs ∧ xs[i]? = some x
  yld := fun i H v H' => ∃ T x, v = .ref T ∧ H T = none ∧ H' = upd H T (.tup [.int (i : Nat), x]) ∧ ∀ xs, SqT K H a xs → xs[i]? = some x
  stop := fun i H => ∃ xs : List V, SqT K H a xs ∧ xs.length ≤ i
theorem turn_enumT {P : Program} {w : World} {K : PySem.W.Frag} {elts : List Expr} {kk : Nat} {tpos : Pos} (a e it : Addr) :
    Turn P w K (.Tuple elts kk tpos) (IteT K a) [e, it] e (fun i h => (∃ old, IsEnum h e it ((i : Nat) : Int) old) ∧ h.IsTupleIter it a i ∧ e ≠ it) where
  mem := List.mem_cons_self
  obj := fun i h st b hb => by
    obtain ⟨⟨old, he⟩, ⟨o, ho, hc, hd⟩, _⟩ := st
    rcases (by simpa using hb : b = e ∨ b = it) with z | z
    · subst z; exact ⟨_, he, fun v q => nomatch q⟩
    · subst z; exact ⟨o, ho, fun v q => by rw [hd] at q; cases q⟩
  keep := fun i h h' st k => by
    obtain ⟨⟨old, he⟩, hi, hne⟩ := st
    exact ⟨⟨old, k e List.mem_cons_self _ he⟩, hi.at fun o q => k it (by simp) o q, hne⟩
  item := by
    intro X hP hw hK hc i pins s σ H E I hf st hg
    subst hP hw hK
    obtain ⟨⟨old, he⟩, hit, hne⟩ := st
    obtain ⟨xs, x, hq, hx⟩ := hg
    obtain ⟨its, rv, p, hz⟩ := I.tuple hq
    obtain ⟨u, hu, ru⟩ := rv.get hx
    have hil : it < s.heap.objs.size := by obtain ⟨_, q, _⟩ := hit; exact Heap.lt_size q
    have hel : e < s.heap.objs.size := Heap.lt_size he
    obtain ⟨oa, hoa, hca, na, hda⟩ := id p
    have hae : e ≠ a := fun z => by
      subst z
      have z := Option.some.inj (hoa.symm.trans he)
      rw [z] at hca
      have z2 : Value.type "enumerate" = Value.type "tuple" := hca
      injection z2 with z2
      exact absurd z2 (by decide)
    have hai : a ≠ it := fun z => by
      subst z
      obtain ⟨o2, h2, c2, _⟩ := hit
      have z := Option.some.inj (hoa.symm.trans h2)
      rw [← z, hca] at c2
      injection c2 with c2
      exact absurd c2 (by decide)
    have hul : i < its.toArray.size := by
      have := (List.getElem?_eq_some_iff.mp hu).1
      simpa using this
    refine wpAny_pyNext_enum_itemD (Draws.tuple (prog := X.prog) (w := X.w) (A := X.A.in1) (I.ok.hd hc) it a hai its.toArray) he ⟨hit, p⟩ hul hne (by simp [hne, hae]) fun y h' tk hy ho st' hT hsz hk => ?_
    have ey : y = u := by
      have : its.toArray[i]? = some u := by simpa using hu
      rw [this] at hy; cases hy; rfl
    subst ey
    refine ⟨_, rfl, wpAny_letOwnedTupleGo_enum (s := { s with heap := h', toks := tk + 1 }) ho fun h'' he' sb => ?_⟩
    have hT2 : h''.get? s.heap.objs.size = some { cls := .type "tuple", data := .seq #[.int i tk, y] } := (sb.2 _ (Nat.ne_of_gt hel)).trans hT
    have new : ObjOk X.prog X.w (upd H s.heap.objs.size (.tup [.int (i : Nat), x])) h'' s.heap.objs.size (.tup [.int (i : Nat), x]) := by
      refine ⟨(by decide : 2 ≤ sizeLine), [.int i tk, y], .cons ⟨_, rfl⟩ (.cons ru .nil), ⟨_, hT2, rfl, _, rfl⟩⟩
    have I1 : Inv X pins σ (upd H s.heap.objs.size (.tup [.int (i : Nat), x])) { s with heap := h'', toks := tk + 1 } := by
      refine I.turnedNew (ch := [e, it]) (fun b ob hb q => ?_) hf (Nat.le_refl _) new
      have n1 : b ≠ e := fun z => hb (by simp [z])
      have n2 : b ≠ it := fun z => hb (by simp [z])
      exact (sb.2 b n1).trans (hk b ob n1 n2 q)
    refine ⟨.ref s.heap.objs.size, _, I1, rfl, ⟨_, x, rfl, I.hok.fresh (Nat.le_refl _), rfl, fun ys hy' => by rw [I.tuple_inj hy' hq]; exact hx⟩, ⟨⟨y, ?_⟩, st'.1.at fun o q => (sb.2 it (Ne.symm hne)).trans q, hne⟩, fun b hb => ?_⟩
    · have e1 : ((i + 1 : Nat) : Int) = (i : Int) + 1 := by omega
      rw [e1]; exact he'
    · have hb' : b < s.heap.objs.size := by
        rcases (by simpa using hb : b = e ∨ b = it) with z | z
        · subst z; exact hel
        · subst z; exact hil
      rw [upd_ne (Nat.ne_of_lt hb')]
      exact (hf b hb).1
  done := by
    intro X hP hw hK hc i pins s σ H E I hf st hg
    subst hP hw hK
    obtain ⟨⟨old, he⟩, hit, hne⟩ := st
    obtain ⟨xs, hq, hx⟩ := hg
    obtain ⟨its, rv, p, hz⟩ := I.tuple hq
    obtain ⟨f0, f1, f2, f3, f4, f5⟩ := hf it (by simp)
    have hl := rv.length
    obtain ⟨oa, hoa, hca, na, hda⟩ := id p
    have hai : a ≠ it := fun z => by
      subst z
      obtain ⟨o2, h2, c2, _⟩ := hit
      have z := Option.some.inj (hoa.symm.trans h2)
      rw [← z, hca] at c2
      injection c2 with c2
      exact absurd c2 (by decide)
    -- the end, wherever the iterator stands
    have D := Draws.tuple (prog := X.prog) (w := X.w) (A := X.A.in1) (I.ok.hd hc) it a hai its.toArray
    have hT : s.TypeIs (.ref e) "enumerate" := ⟨_, he, rfl⟩
    unfold pyNext
    refine wpAny_bind (wpAny_attempt (wpAny_callSpecial?_slot (name := Str.ofString "__next__") hT F.slot_enumerate_next (wpAny_call_entry F.slot_enumerate_next hT F.entry_enumerate_next ?_ (F.args_enumerate_next_1 _))))
    show wpAny _ _ (field (.ref e) 2 >>= _) _ _ _
    refine wpAny_bind (wpAny_field he rfl (x := .ref it) rfl ?_)
    refine wpAny_bind (wpAny_nextOf_tuple_end (I.ok.hd hc) hit p (by simp; omega) fun h' x he' hx' => ?_)
    obtain ⟨o, ho, hc'⟩ := hx'
    refine wpAny_bind (wpAny_isInstance (T := "StopIteration") (b := true) ⟨o, ho, hc'⟩ isSubtype_stop ?_)
    exact wpAny_pure ⟨rfl, I.turned (t' := s.toks) (fun b o hb q => he' b o hb q) f0 f1 f3 f4 f5⟩
  self := fun A i s Q E st h => by
    obtain ⟨⟨_, he⟩, _⟩ := st
    exact wpAny_pyIter_enum he h
def enumL (xs : List D) : List D := xs.mapIdx fun i x => D.tup [.int (i : Nat), x]
def enumD : D → DIt := fun d h => (seqD h d).map enumL
section
variable {K : PySem.W.Frag} {μ : Wd} {H : Hp}
theorem pair_new {h : MH} {p : Addr} {d e : D} {v w : V} (s : SimH K h μ H) (hp : H p = none) (r1 : RD K μ H d v) (r2 : RD K μ H e w) : Ext μ H μ (upd H p (.tup [v, w])) ∧ SimH K h μ (upd H p (.tup [v, w])) ∧ RD K μ (upd H p (.tup [v, w])) (.tup [d, e]) (.ref p) :=
  ⟨Ext.new hp, s.new hp, .tup (.inl ⟨.inl upd_same, s.fresh hp⟩) (.cons (r1.mono (Ext.new hp)) (.cons (r2.mono (Ext.new hp)) .nil))⟩
theorem j_enumL {d : D} {a : Addr} (r : RD K μ H d (.ref a)) (nt : ∀ xs, d ≠ .tup xs) : JRel K μ H (Ite K a) (enumD d) where
  stop := fun i h μ1 H1 xs x s e hl => by
    unfold enumD at e
    obtain ⟨ys, e1, rfl⟩ := Option.map_eq_some_iff.mp e
    have e2 : lstR h d = some ys := by
      cases d with
      | tup zs => exact absurd rfl (nt zs)
      | _ => exact e1
    obtain ⟨b, vs, eb, h1, h2⟩ := rdLstR s (r.mono x) e2
    cases eb
    unfold enumL at hl
    rw [List.length_mapIdx] at hl
    exact ⟨vs, h1, by rw [← h2.length]; exact hl⟩
  item := fun i h μ1 H1 xs d1 x s e hi => by
    unfold enumD at e
    obtain ⟨ys, e1, rfl⟩ := Option.map_eq_some_iff.mp e
    have e2 : lstR h d = some ys := by
      cases d with
      | tup zs => exact absurd rfl (nt zs)
      | _ => exact e1
    obtain ⟨b, vs, eb, h1, h2⟩ := rdLstR s (r.mono x) e2
    cases eb
    unfold enumL at hi
    rw [List.getElem?_mapIdx] at hi
    obtain ⟨y, hy, rfl⟩ := Option.map_eq_some_iff.mp hi
    obtain ⟨v, hv, rv⟩ := h2.get hy
    refine ⟨⟨vs, v, h1, hv⟩, fun z H' ⟨T, w, ez, hT, eH, f⟩ => ?_⟩
    subst ez; subst eH
    have ew := f vs h1
    rw [hv] at ew; cases ew
    exact pair_new s hT (.int _) rv
theorem j_enumT {ds : List D} {a : Addr} (r : RD K μ H (.tup ds) (.ref a)) : JRel K μ H (IteT K a) (enumD (.tup ds)) where
  stop := fun i h μ1 H1 xs x s e hl => by
    cases e
    obtain ⟨b, vs, eb, h1, h2⟩ := rdTup (r.mono x)
    cases eb
    unfold enumL at hl
    rw [List.length_mapIdx] at hl
    exact ⟨vs, h1, by rw [← h2.length]; exact hl⟩
  item := fun i h μ1 H1 xs d1 x s e hi => by
    cases e
    obtain ⟨b, vs, eb, h1, h2⟩ := rdTup (r.mono x)
    cases eb
    unfold enumL at hi
    rw [List.getElem?_mapIdx] at hi
    obtain ⟨y, hy, rfl⟩ := Option.map_eq_some_iff.mp hi
    obtain ⟨v, hv, rv⟩ := h2.get hy
    refine ⟨⟨vs, v, h1, hv⟩, fun z H' ⟨T, w, ez, hT, eH, f⟩ => ?_⟩
    subst ez; subst eH
    have ew := f vs h1
    rw [hv] at ew; cases ew
    exact pair_new s hT (.int _) rv
end
section
variable {X : Cx}
def wEnum (ws : DA) : DI := fun env h Q => ws env h fun ds h1 => ∃ d, ds = [d] ∧ (∃ xs, enumD d h1 = some xs) ∧ Q (enumD d) h1
theorem di_enum {e : Expr} {ws : DA} {p pos tpos : Pos} {elts : List Expr} {kk : Nat} (hg : Gl X "enumerate") (hm : X.mg "enumerate" = none) (ha : PDA X [e] ws) (hs : starEach [e] X.env = [(false, eval e X.env)] := by rfl) :
    PDI X (.Tuple elts kk tpos) (.Call (.Name "enumerate" p) [e] [] pos) (wEnum ws) := by
  refine ⟨fun pins s σ H R I q => ?_⟩
  obtain ⟨env, h, μ, P, S, pw, l⟩ := q
  have rdy : rdA X.K ws σ H (fun vs H' => ∃ d h' μ' v, vs = [v] ∧ ((∃ xs, enumD d h' = some xs) ∧ P (enumD d) h') ∧ Ext μ H μ' H' ∧ SimH X.K h' μ' H' ∧ RD X.K μ' H' d v) := by
    refine ⟨env, h, μ, _, S, pw, ?_⟩
    rintro ds h' vs μ' H' ⟨d, e, pp⟩ x s r
    subst e
    obtain ⟨v, rfl, r1⟩ := rds1 r
    exact ⟨d, h', μ', v, rfl, pp, x, s, r1⟩
  refine Call_ (ld_blt I hg hm boot_enumerate (PyProof.Rows.callWith_type1 (thn (ha.run pos pins s σ H _ I rdy) fun us s1 ⟨vs, H1, I1, r1, d, h1, μ1, v, ev, ⟨⟨xs, ex⟩, pp⟩, x1, s1', rd1⟩ => ?_) hs rfl))
  subst ev
  obtain ⟨u, rfl, ru⟩ := vals1 r1
  have fresh : ∀ b, b ∈ [s1.heap.objs.size + 1, s1.heap.objs.size] → FpOk X pins H1 b := fun b hb => by
    have hle : s1.heap.objs.size ≤ b := by
      rcases (by simpa using hb : b = s1.heap.objs.size + 1 ∨ b = s1.heap.objs.size) with z | z <;> omega
    exact I1.fpOk hle (I1.hok.fresh hle)
  by_cases hd : ∃ ys, d = .tup ys
  · obtain ⟨ys, rfl⟩ := hd
    obtain ⟨a, ws, rfl, h2, h3⟩ := rdTup rd1
    cases ru
    obtain ⟨its, rv, p2, hz⟩ := I1.tuple h2
    refine call_enumT (xs := its.toArray) p2 fun h' he hit hk => wpAny_pyIter_enum he ?_
    have I2 : Inv X pins σ H1 { s1 with heap := h' } := I1.kept (t' := s1.toks) hk
    exact ⟨s1.heap.objs.size + 1, _, _, _, H1, rfl, I2, turn_enumT a (s1.heap.objs.size + 1) s1.heap.objs.size, ⟨⟨.none, he⟩, hit, Nat.succ_ne_self _⟩, fresh, l _ h1 μ1 H1 _ pp x1 s1' (j_enumT rd1)⟩
  · have nt : ∀ ys, d ≠ .tup ys := fun ys z => hd ⟨ys, z⟩
    obtain ⟨ys, e1, _⟩ := Option.map_eq_some_iff.mp ex
    have e2 : lstR h1 d = some ys := by
      cases d with
      | tup zs => exact absurd rfl (nt zs)
      | _ => exact e1
    obtain ⟨a, ws, rfl, h2, h3⟩ := rdLstR s1' rd1 e2
    cases ru
    obtain ⟨its, rv, p2, hz⟩ := I1.list h2
    refine call_enumerate_list p2.isList fun h' he hit hsz hk => wpAny_pyIter_enum he ?_
    have I2 : Inv X pins σ H1 { s1 with heap := h' } := I1.kept (t' := s1.toks) hk
    exact ⟨s1.heap.objs.size + 1, _, _, _, H1, rfl, I2, turn_enum a (s1.heap.objs.size + 1) s1.heap.objs.size, ⟨⟨.none, he⟩, hit, Nat.succ_ne_self _⟩, fresh, l _ h1 μ1 H1 _ pp x1 s1' (j_enumL rd1 nt)⟩
/-! # list(range(..)) -/
def wLstR1 (b : Bool) (ws : DA) : DW := fun env h Q => ws env h fun ds h1 => ∃ n : Int, ds = [.int n] ∧ n ≤ 16777216 ∧ 0 ≤ n ∧ qLst b (rngL 0 n.toNat) h1 Q
theorem rds_rng {K : PySem.W.Frag} {μ : Wd} {H : Hp} (n : Int) : RDs K μ H (rngL 0 n.toNat) (rgV 0 n) := by
  have all : ∀ l : List Nat, RDs K μ H (l.map fun (i : Nat) => D.int (0 + i)) (l.map fun i => V.int (0 + (i : Nat))) := by
    intro l
    induction l with
    | nil => exact .nil
    | cons a l ih => exact .cons (.int _) ih
  unfold rngL rgV
  rw [Int.sub_zero]
  exact all _
theorem pd_lstR1 (b : Bool) {a : Expr} {p p2 pos pos2 : Pos} (hg : Gl X "list") (hm : X.mg "list" = none) (hg2 : Gl X "range") (hm2 : X.mg "range" = none) {w : DW} (hc : X.calm = true) (ha : PD X a w)
    (na : starEach [a] X.env = (false, eval a X.env) :: starEach [] X.env := by rfl) (na2 : starEach [.Call (.Name "range" p2) [a] [] pos2] X.env = (false, eval (.Call (.Name "range" p2) [a] [] pos2) X.env) :: starEach [] X.env := by rfl) :
    PD X (.Call (.Name "list" p) [.Call (.Name "range" p2) [a] [] pos2] [] pos) (wLstR1 b (wCons w wNil)) := by
  refine pe_imp (pe_listRg hc hg hm (prg_1 hg2 hm2 ha na) na2) fun σ H Q q => ?_
  obtain ⟨env, h, μ, P, S, pw, l⟩ := q
  refine ⟨env, h, μ, _, S, pw, fun d h1 v μ1 H1 p1 x1 s1 r1 => ?_⟩
  obtain ⟨n, e, hn, h0, p1⟩ : ∃ n : Int, [d] = [.int n] ∧ n ≤ 16777216 ∧ 0 ≤ n ∧ qLst b (rngL 0 n.toNat) h1 P := p1
  cases e
  exact ⟨n, rdInt r1, RgOk.of_le (by omega) hn (by omega) h0, p1.ok s1 (rds_rng n) (l.ext x1)⟩
/-! # isinstance of built-in classes -/
def tyD (h : MH) : D → Option String
  | .non => some "NoneType" | .bl _ => some "bool" | .int _ => some "int" | .str _ => some "str" | .tup _ => some "tuple" | .lv _ => some "list" | .scr _ => none
  | .ob n => match h[n]? with
    | some (.lst _) => some "list"
    | some (.dic _) => some "dict"
    | none => none
def wIsi (T : String) (w : DW) : DW := fun env h Q => w env h fun d h1 => ∃ t b, tyD h1 d = some t ∧ kitB t T = some b ∧ Q (.bl b) h1
end
/-! # a comprehension within a comprehension -/
theorem blk_in {N : List Str} {sc scope : Scope} (own : List (Str × Nat)) (h : blkC N sc scope own = true) : BlkOk N sc scope own := blkOk_by h
end DL
namespace DL
open PySem PySem.Spec PyProof.Rows L2
/-! # zip(.., strict=True) of two -/
abbrev SZ (h : Heap) (z TI TO : Addr) (cur : Value) : Prop := h.get? z = some { cls := .type "zip", data := .fields #[cur, .bool false, .bool true, .ref TI, .ref TO] }
section
variable {prog : Program} {w : World} {A : Around} {E : Value → Shared → Prop} {s : Shared} {z TI TO i1 i2 : Addr} {fp1 fp2 : List Addr} {n1 n2 i : Nat} {P1 P2 : Nat → Value → Prop} {St1 St2 : Nat → Heap → Prop} {a1 a2 : Value}
theorem drawn_item {it : Addr} {fp : List Addr} {n : Nat} {P : Nat → Value → Prop} {St : Nat → Heap → Prop} (D : Draws prog w A it fp n P St) {Q : Option Value → Shared → Prop} (hi : i < n) (st : St i s.heap)
    (hQ : ∀ x h' tk, P i x → St (i + 1) h' → Heap.SameBut it s.heap h' → Q (some x) { s with heap := h', toks := tk }) : wpAny (model prog w) A (Builtin.SmallTypes.nextOrEnd (.ref it)) Q E s := by
  unfold Builtin.SmallTypes.nextOrEnd
  exact wpAny_bind (wpAny_attempt (D.item i s _ _ hi st fun x h' tk p st' sb => wpAny_pure (hQ x h' tk p st' sb)))
/-- the iterator has come to its end -/
def Ended (prog : Program) (w : World) (A : Around) (it : Addr) (St : Heap → Prop) : Prop :=
  ∀ (s : Shared) (Q : Value → Shared → Prop) (E : Value → Shared → Prop), St s.heap → (∀ h' e, Heap.ExtBut it s.heap h' → (∃ o, h'.get? e = some o ∧ o.cls = .type "StopIteration") → E (.ref e) { s with heap := h' }) → wpAny (model prog w) A (Builtin.SmallTypes.nextOf (.ref it)) Q E s
theorem drawn_done {it : Addr} {St : Heap → Prop} (D : Ended prog w A it St) {Q : Option Value → Shared → Prop} (st : St s.heap)
    (hQ : ∀ h', Heap.ExtBut it s.heap h' → Q none { s with heap := h' }) : wpAny (model prog w) A (Builtin.SmallTypes.nextOrEnd (.ref it)) Q E s := by
  unfold Builtin.SmallTypes.nextOrEnd
  refine wpAny_bind (wpAny_attempt (D s _ _ st fun h' e sb he => ?_))
  obtain ⟨o, ho, hc⟩ := he
  exact wpAny_bind (wpAny_isInstance (T := "StopIteration") (b := true) ⟨o, ho, hc⟩ isSubtype_stop (wpAny_pure (hQ h' sb)))
theorem szNext_item {Q : Value → Shared → Prop} (S : ZipSep2 z TI TO i1 i2 fp1 fp2) (D1 : Draws prog w A i1 fp1 n1 P1 St1) (D2 : Draws prog w A i2 fp2 n2 P2 St2)
    (hz : SZ s.heap z TI TO .none) (hTI : IsTupOf2 s.heap TI (.ref i1) (.ref i2)) (hTO : IsTupOf2 s.heap TO a1 a2) (st1 : St1 i s.heap) (st2 : St2 i s.heap) (lt1 : i < n1) (lt2 : i < n2)
    (hQ : ∀ x1 x2 h' tk, P1 i x1 → P2 i x2 → SZ h' z TI TO (rawInt s.heap.objs.size) → IsTupOf2 h' TO x1 x2 → St1 (i + 1) h' → St2 (i + 1) h' → IsTupOf2 h' s.heap.objs.size x1 x2 → h'.objs.size = s.heap.objs.size + 1 →
      (∀ c o, c ≠ z → c ≠ TO → c ≠ i1 → c ≠ i2 → s.heap.get? c = some o → h'.get? c = some o) → Q (.ref s.heap.objs.size) { s with heap := h', toks := tk }) :
    wpAny (model prog w) A (Builtin.«zip.__next__» ⟨[.ref z], []⟩) (fun fin s' => ∃ v, fin = .done (.ret v) ∧ Q v s') E s := by
  obtain ⟨hp, g, d, tk0, os⟩ := s
  show wpAny _ _ (field (.ref z) 2 >>= _) _ _ _
  refine wpAny_bind (wpAny_field hz rfl (x := .bool true) rfl ?_); show wpAny _ _ (field (.ref z) 3 >>= _) _ _ _
  refine wpAny_bind (wpAny_field hz rfl (x := .ref TI) rfl (wpAny_bind (wpAny_seqItems hTI rfl ?_)))
  show wpAny _ _ (Builtin.SmallTypes.ownedTupleIsFree (.ref z) >>= _) _ _ _
  refine wpAny_bind ?_; unfold Builtin.SmallTypes.ownedTupleIsFree
  refine wpAny_bind (wpAny_field hz rfl (x := .none) rfl (wpAny_pure ?_)); simp only [if_true]
  refine wpAny_bind (wpAny_rule (wpAny_bind (wpAny_field hz rfl (x := .ref TO) rfl (wpAny_bind (wpAny_setField_rec hz (by simp) fun g0 hz0 hs0 => ?_)))))
  replace hz0 : SZ g0 z TI TO .ellipsis := hz0; replace hs0 : Heap.SameBut z hp g0 := hs0
  refine wpAny_bind ?_; simp only [List.zipIdx_cons, List.zipIdx_nil, List.forIn_cons, List.forIn_nil]
  refine wpAny_bind (wpAny_bind (wpAny_onRaise ?_))
  show wpAny _ _ (Builtin.SmallTypes.nextOrEnd (.ref i1)) _ _ ⟨g0, g, d, tk0, os⟩
  refine drawn_item D1 lt1 (D1.over st1 hs0 S.zf1) fun x1 p1 tk1 hx1 sn1 hp1 => ?_
  replace hp1 : Heap.SameBut i1 g0 p1 := hp1
  have hU1 : IsTupOf2 p1 TO a1 a2 := hp1.extBut _ _ S.Ti1 (hs0.extBut _ _ S.TOz hTO)
  refine wpAny_bind (wpAny_seqItems (s := ⟨p1, g, d, tk1, os⟩) hU1 rfl (wpAny_bind (updateSeq_IsTupOf2 (s := ⟨p1, g, d, tk1, os⟩) hU1 fun g1 hT1 hs1 => ?_)))
  replace hT1 : IsTupOf2 g1 TO x1 a2 := hT1; replace hs1 : Heap.SameBut TO p1 g1 := hs1
  refine wpAny_bind (wpAny_letGo (wpAny_pure (wpAny_bind (wpAny_bind (wpAny_onRaise ?_)))))
  show wpAny _ _ (Builtin.SmallTypes.nextOrEnd (.ref i2)) _ _ ⟨g1, g, d, tk1, os⟩
  refine drawn_item D2 lt2 (D2.over (D2.over (D2.over st2 hs0 S.zf2) hp1 S.sep1_2) hs1 S.Tf2) fun x2 p2 tk2 hx2 sn2 hp2 => ?_
  replace hp2 : Heap.SameBut i2 g1 p2 := hp2
  have hU2 : IsTupOf2 p2 TO x1 a2 := hp2.extBut _ _ S.Ti2 hT1
  refine wpAny_bind (wpAny_seqItems (s := ⟨p2, g, d, tk2, os⟩) hU2 rfl (wpAny_bind (updateSeq_IsTupOf2 (s := ⟨p2, g, d, tk2, os⟩) hU2 fun g2 hT2 hs2 => ?_)))
  replace hT2 : IsTupOf2 g2 TO x1 x2 := hT2; replace hs2 : Heap.SameBut TO p2 g2 := hs2
  refine wpAny_bind (wpAny_letGo (wpAny_pure (wpAny_pure (wpAny_bind (wpAny_seqItems (s := ⟨g2, g, d, tk2, os⟩) hT2 rfl (wpAny_bind (wpAny_newTuple ?_)))))))
  have esz : g2.objs.size = hp.objs.size := by rw [hs2.1, hp2.1, hs1.1, hp1.1, hs0.1]
  have hzz : SZ g2 z TI TO .ellipsis := hs2.extBut _ _ S.TOz.symm (hp2.extBut _ _ S.zi2 (hs1.extBut _ _ S.TOz.symm (hp1.extBut _ _ S.zi1 hz0)))
  have kk : ∀ c o, c ≠ z → c ≠ TO → c ≠ i1 → c ≠ i2 → hp.get? c = some o → g2.get? c = some o := fun c o cz cT c1 c2 e => hs2.extBut _ _ cT (hp2.extBut _ _ c2 (hs1.extBut _ _ cT (hp1.extBut _ _ c1 (hs0.extBut _ _ cz e))))
  have j1 : St1 (i + 1) g2 := D1.over (D1.over (D1.over sn1 hs1 S.Tf1) hp2 S.sep2_1) hs2 S.Tf1
  have j2 : St2 (i + 1) g2 := D2.over sn2 hs2 S.Tf2
  have zlt : z < g2.objs.size := Heap.lt_size hzz
  show wpAny _ _ (Builtin.SmallTypes.ownedTupleHandOut (.ref z) (.ref g2.objs.size) >>= _) _ _ ⟨g2.push { cls := .type "tuple", data := .seq #[x1, x2] }, g, d, tk2, os⟩
  refine wpAny_bind ?_; unfold Builtin.SmallTypes.ownedTupleHandOut
  have z6 : SZ (g2.push { cls := .type "tuple", data := .seq #[x1, x2] }) z TI TO .ellipsis := Heap.get?_push_of_some _ hzz
  refine wpAny_bind (wpAny_setField_rec z6 (by simp) fun h7 z7 s7 => ?_); replace z7 : SZ h7 z TI TO (rawInt g2.objs.size) := z7
  refine wpAny_setField_rec z7 (by simp) fun h8 z8 s8 => ?_; replace z8 : SZ h8 z TI TO (rawInt g2.objs.size) := z8
  replace s7 : Heap.SameBut z (g2.push { cls := .type "tuple", data := .seq #[x1, x2] }) h7 := s7; replace s8 : Heap.SameBut z h7 h8 := s8
  have up : ∀ c o, c ≠ z → g2.get? c = some o → h8.get? c = some o := fun c o c1 e => s8.extBut _ _ c1 (s7.extBut _ _ c1 (Heap.get?_push_of_some _ e))
  have t8 : IsTupOf2 h8 g2.objs.size x1 x2 := s8.extBut _ _ (Nat.ne_of_gt zlt) (s7.extBut _ _ (Nat.ne_of_gt zlt) (Heap.get?_push_size _ rfl))
  have n8 : h8.objs.size = g2.objs.size + 1 := by rw [s8.1, s7.1, Heap.size_push]
  rw [esz] at z8 t8 n8
  refine wpAny_pure ⟨_, rfl, ?_⟩; show Q (.ref g2.objs.size) ⟨h8, g, d, tk2, os⟩; rw [esz]
  exact hQ x1 x2 h8 tk2 hx1 hx2 z8 (up _ _ S.TOz hT2) (D1.frame _ _ _ j1 fun b hb o e => up b o (fun q => S.zf1 (q ▸ hb)) e) (D2.frame _ _ _ j2 fun b hb o e => up b o (fun q => S.zf2 (q ▸ hb)) e) t8 n8 fun c o cz cT c1 c2 e => up c o cz (kk c o cz cT c1 c2 e)
theorem szNext_end {Q : Fin → Shared → Prop} (hh : A.handled = none) (S : ZipSep2 z TI TO i1 i2 fp1 fp2) (D1 : Draws prog w A i1 fp1 n1 P1 St1) (D2 : Draws prog w A i2 fp2 n2 P2 St2) (e1 : Ended prog w A i1 (St1 i)) (e2 : Ended prog w A i2 (St2 i))
    (hz : SZ s.heap z TI TO .none) (hTI : IsTupOf2 s.heap TI (.ref i1) (.ref i2)) (hTO : IsTupOf2 s.heap TO a1 a2) (st1 : St1 i s.heap) (st2 : St2 i s.heap)
    (hE : ∀ h' tk e, (∀ c o, c ≠ z → c ≠ TO → c ≠ i1 → c ≠ i2 → s.heap.get? c = some o → h'.get? c = some o) → (∃ o, h'.get? e = some o ∧ o.cls = .type "StopIteration") → E (.ref e) { s with heap := h', toks := tk }) :
    wpAny (model prog w) A (Builtin.«zip.__next__» ⟨[.ref z], []⟩) Q E s := by
  obtain ⟨hp, g, d, tk0, os⟩ := s
  show wpAny _ _ (field (.ref z) 2 >>= _) _ _ _
  refine wpAny_bind (wpAny_field hz rfl (x := .bool true) rfl ?_); show wpAny _ _ (field (.ref z) 3 >>= _) _ _ _
  refine wpAny_bind (wpAny_field hz rfl (x := .ref TI) rfl (wpAny_bind (wpAny_seqItems hTI rfl ?_)))
  show wpAny _ _ (Builtin.SmallTypes.ownedTupleIsFree (.ref z) >>= _) _ _ _
  refine wpAny_bind ?_; unfold Builtin.SmallTypes.ownedTupleIsFree
  refine wpAny_bind (wpAny_field hz rfl (x := .none) rfl (wpAny_pure ?_)); simp only [if_true]
  refine wpAny_bind (wpAny_rule (wpAny_bind (wpAny_field hz rfl (x := .ref TO) rfl (wpAny_bind (wpAny_setField_rec hz (by simp) fun g0 hz0 hs0 => ?_)))))
  replace hz0 : SZ g0 z TI TO .ellipsis := hz0; replace hs0 : Heap.SameBut z hp g0 := hs0
  refine wpAny_bind ?_; simp only [List.zipIdx_cons, List.zipIdx_nil, List.forIn_cons, List.forIn_nil]
  refine wpAny_bind (wpAny_bind (wpAny_onRaise ?_))
  show wpAny _ _ (Builtin.SmallTypes.nextOrEnd (.ref i1)) _ _ ⟨g0, g, d, tk0, os⟩
  refine drawn_done e1 (D1.over st1 hs0 S.zf1) fun q hq => ?_
  replace hq : Heap.ExtBut i1 g0 q := hq
  have hzq : SZ q z TI TO .ellipsis := hq _ _ S.zi1 hz0
  refine wpAny_bind (wpAny_setField_rec (s := ⟨q, g, d, tk0, os⟩) hzq (by simp) fun q1 hz1 hq1 => ?_)
  replace hq1 : Heap.SameBut z q q1 := hq1
  have f2 : ∀ {h' : Heap}, (∀ c o, c ≠ z → c ≠ TO → c ≠ i1 → hp.get? c = some o → h'.get? c = some o) → St2 i h' := fun k => D2.frame _ _ _ st2 fun b hb o e => k b o (fun x => S.zf2 (x ▸ hb)) (fun x => S.Tf2 (x ▸ hb)) (fun x => S.sep1_2 (x ▸ hb)) e
  have k1 : ∀ c o, c ≠ z → c ≠ TO → c ≠ i1 → hp.get? c = some o → q1.get? c = some o := fun c o cz _ c1 e => hq1.extBut _ _ cz (hq _ _ c1 (hs0.extBut _ _ cz e))
  refine wpAny_bind ?_
  show wpAny _ _ (forIn ([(Value.ref i2, 1)] : List (Value × Nat)) PUnit.unit _ >>= _) _ _ _
  simp only [List.forIn_cons, List.forIn_nil]
  refine wpAny_bind (wpAny_bind ?_)
  show wpAny _ _ (Builtin.SmallTypes.nextOrEnd (.ref i2) >>= _) _ _ ⟨q1, g, d, tk0, os⟩
  refine wpAny_bind (drawn_done e2 (f2 k1) fun r hr => ?_)
  replace hr : Heap.ExtBut i2 q1 r := hr
  refine wpAny_pure (wpAny_pure (wpAny_bind (wpAny_rule ?_)))
  unfold Builtin.SmallTypes.stopIteration
  refine wpAny_bind ?_
  simp only [newExc, newTuple]
  refine wpAny_bind (wpAny_newObj_type ?_ (by size_fits))
  refine wpAny_bind (m := firstArgMember _ _) (wpAny_of_eq (a := Value.none) (by first | rfl | (simp only [firstArgMember]; rfl)) (wpAny_newObj_type ?_ (by size_fits)))
  simp only [raiseNew]
  refine wpAny_bind (wpAny_handled ?_)
  rw [hh]
  refine wpAny_bind (wpAny_pure (wpAny_throw (hE _ _ _ (fun c o c1 c2 c3 c4 e => ?_) ⟨_, Heap.get?_push_size _ rfl, rfl⟩)))
  exact Heap.get?_push_of_some _ (Heap.get?_push_of_some _ (hr _ _ c4 (k1 c o c1 c2 c3 e)))
end
abbrev kwS : List (Str × Value) := [(Str.ofString "strict", .bool true)]
theorem tc_zipS (a b : Value) : checkTypeCall "zip" ⟨[a, b], kwS⟩ = pure () := by kernel_rfl
theorem nc_zipS (a b : Value) : checkBuiltinCall "zip.__new__" ⟨[.type "zip", a, b], kwS⟩ = pure () := by kernel_rfl
theorem oi_zipS (obj a b : Value) : argsOk "object.__init__" ⟨[obj, a, b], kwS⟩ := by unfold argsOk; kernel_rfl
abbrev szT (h : Heap) (o1 o2 : Obj) : Heap := ((h.push o1).push o2).push { cls := .type "tuple", data := .seq #[.ref h.objs.size, .ref (h.push o1).objs.size] }
abbrev szO (h : Heap) (o1 o2 : Obj) : Heap := (szT h o1 o2).push { cls := .type "tuple", data := .seq #[.none, .none] }
abbrev szZ (h : Heap) (o1 o2 : Obj) : Heap := (szO h o1 o2).push { cls := .type "zip", data := .fields #[.none, .bool false, .bool true, .ref ((h.push o1).push o2).objs.size, .ref (szT h o1 o2).objs.size] }
theorem meets_zipS {v1 v2 : Value} {o1 o2 : Obj} {H1 H2 : Heap → Prop} (B1 : Begins v1 o1 H1) (B2 : Begins v2 o2 H2) :
    Meets (Builtin.«zip.__new__» ⟨[.type "zip", v1, v2], kwS⟩) (fun _ R s => (H1 s.heap ∧ H2 s.heap) ∧ R (.ok (.ret (.ref (szO s.heap o1 o2).objs.size))) { s with heap := szZ s.heap o1 o2 }) :=
  .of_wp fun prog w A R s h => by
    obtain ⟨hp, g, d, tk, os⟩ := s
    obtain ⟨⟨h1, h2⟩, h⟩ := h
    have hsub := sub_zip
    have it1 : ∀ {A' : Around} {E Q : Value → Shared → Prop}, Q (.ref hp.objs.size) ⟨hp.push o1, g, d, tk, os⟩ → wpAny (model prog w) A' (pyIter v1) Q E ⟨hp, g, d, tk, os⟩ := fun q => B1.iter prog w _ _ ⟨hp, g, d, tk, os⟩ _ h1 q
    have it2 : ∀ {A' : Around} {E Q : Value → Shared → Prop}, Q (.ref (hp.push o1).objs.size) ⟨(hp.push o1).push o2, g, d, tk, os⟩ → wpAny (model prog w) A' (pyIter v2) Q E ⟨hp.push o1, g, d, tk, os⟩ := fun q => B2.iter prog w _ _ ⟨hp.push o1, g, d, tk, os⟩ _ (B2.keeps _ _ h2 fun b o' e => Heap.get?_push_of_some _ e) q
    wp_walk using it1, it2
    exact ⟨_, rfl, h⟩
section
variable {prog : Program} {w : World} {A : Around} {E : Value → Shared → Prop} {s : Shared}
theorem init_zipS {self a b : Value} : Meets (Builtin.«object.__init__» ⟨[self, a, b], kwS⟩) (fun _ R s => s.TypeIs self "zip" ∧ R (.ok (.ret .none)) s) := by
  refine Meets.of_wp fun prog w A R s hs => ?_
  obtain ⟨hT, hq⟩ := hs
  have e1 := F.called_zip.init.lookup
  have e2 := F.called_zip.made
  repeat (any_goals (first | assumption | wp_step))
  exact ⟨_, rfl, hq⟩
theorem call_zipS {v1 v2 : Value} {o1 o2 : Obj} {H1 H2 : Heap → Prop} {Q : Value → Shared → Prop} (B1 : Begins v1 o1 H1) (B2 : Begins v2 o2 H2) (h1 : H1 s.heap) (h2 : H2 s.heap)
    (hq : ∀ h', SZ h' (s.heap.objs.size + 4) (s.heap.objs.size + 2) (s.heap.objs.size + 3) .none → IsTupOf2 h' (s.heap.objs.size + 2) (.ref s.heap.objs.size) (.ref (s.heap.objs.size + 1)) →
      IsTupOf2 h' (s.heap.objs.size + 3) .none .none → h'.get? s.heap.objs.size = some o1 → h'.get? (s.heap.objs.size + 1) = some o2 →
      (∀ c o, s.heap.get? c = some o → h'.get? c = some o) → Q (.ref (s.heap.objs.size + 4)) { s with heap := h' }) : wpAny (model prog w) A (call (.type "zip") [v1, v2] kwS) Q E s := by
  have ft := F.called_zip
  obtain ⟨c, tl, hmro⟩ := ft.mro
  have hmade := ft.made
  have hsub := ft.sub
  have hct := tc_zipS v1 v2
  refine wpAny_call (codeAny_of_tree ?_)
  show wpAny _ _ (callAny (.type "zip") _) _ _ _
  refine wpAny_pure ⟨Code.quiet_builtin _ (by decide +kernel), codeAny_builtin F.entry_type_call ?_⟩
  rw [Around.under_plain (weight_type_call_type "zip" [v1, v2] kwS) (units_type_call_type "zip" [v1, v2] kwS)]
  have n1 := ft.notType
  have n2 := ft.canCreate
  repeat (any_goals (first | assumption | wp_step))
  refine codeAny_mono (codeAny_call_builtin ft.plain F.entry_zip_new (wpAny_of_eq (nc_zipS v1 v2) (meets_zipS B1 B2 prog w A.in1 (wants (fun obj s1 => s1.TypeIs obj "zip" ∧ Q obj s1) E) s ⟨⟨h1, h2⟩, ?_⟩))) fun r s1 hr => ?_
  · have z1 : (s.heap.push o1).objs.size = s.heap.objs.size + 1 := Heap.size_push ..
    have z2 : ((s.heap.push o1).push o2).objs.size = s.heap.objs.size + 2 := by rw [Heap.size_push, z1]
    have z3 : (szT s.heap o1 o2).objs.size = s.heap.objs.size + 3 := by rw [Heap.size_push, z2]
    have z4 : (szO s.heap o1 o2).objs.size = s.heap.objs.size + 4 := by rw [Heap.size_push, z3]
    have gZ : (szZ s.heap o1 o2).get? (szO s.heap o1 o2).objs.size = some { cls := .type "zip", data := .fields #[.none, .bool false, .bool true, .ref ((s.heap.push o1).push o2).objs.size, .ref (szT s.heap o1 o2).objs.size] } := Heap.get?_push_size _ rfl
    have up1 : ∀ {c : Addr} {o : Obj}, (szO s.heap o1 o2).get? c = some o → (szZ s.heap o1 o2).get? c = some o := fun e => Heap.get?_push_of_some _ e
    have up2 : ∀ {c : Addr} {o : Obj}, (szT s.heap o1 o2).get? c = some o → (szZ s.heap o1 o2).get? c = some o := fun e => up1 (Heap.get?_push_of_some _ e)
    have up3 : ∀ {c : Addr} {o : Obj}, ((s.heap.push o1).push o2).get? c = some o → (szZ s.heap o1 o2).get? c = some o := fun e => up2 (Heap.get?_push_of_some _ e)
    have gO : (szZ s.heap o1 o2).get? (szT s.heap o1 o2).objs.size = some { cls := .type "tuple", data := .seq #[.none, .none] } := up1 (Heap.get?_push_size _ rfl)
    have gT : (szZ s.heap o1 o2).get? ((s.heap.push o1).push o2).objs.size = some { cls := .type "tuple", data := .seq #[.ref s.heap.objs.size, .ref (s.heap.push o1).objs.size] } := up2 (Heap.get?_push_size _ rfl)
    have g2 : (szZ s.heap o1 o2).get? (s.heap.push o1).objs.size = some o2 := up3 (Heap.get?_push_size _ B2.free)
    have g1 : (szZ s.heap o1 o2).get? s.heap.objs.size = some o1 := up3 (Heap.get?_push_of_some _ (Heap.get?_push_size _ B1.free))
    rw [z4, z3, z2] at gZ
    rw [z3] at gO
    rw [z2, z1] at gT
    rw [z1] at g2
    show _ ∧ _
    rw [z4]
    exact ⟨⟨_, gZ, rfl⟩, hq _ gZ gT gO g1 g2 fun c o e => up3 (Heap.get?_push_of_some _ (Heap.get?_push_of_some _ e))⟩
  · cases r with
    | error e => exact hr
    | ok fl =>
      cases fl with
      | ret obj =>
        obtain ⟨hT, hq2⟩ := hr
        have l1 := ft.init.lookup
        have l2 := ft.init.bind obj
        repeat (any_goals (first | assumption | wp_step))
        refine codeAny_mono (codeAny_call_builtin ft.init.plain F.entry_object_init (ft.init.check _ _ _ _ _ _ _ _ hT (oi_zipS obj v1 v2) (init_zipS prog w A.in1 (wants (fun r s2 => r = .none ∧ Q obj s2) E) s1 ⟨hT, rfl, hq2⟩))) fun r2 s2 hr2 => ?_
        cases r2 with
        | error e => exact hr2
        | ok fl2 =>
          cases fl2 with
          | ret r =>
            obtain ⟨rfl, q3⟩ := hr2
            repeat (any_goals (first | assumption | wp_step))
          | _ => exact hr2.elim
      | _ => exact hr.elim
end
end DL
namespace DL
open PySem PySem.Spec PyProof.Rows L2
section
variable {prog : Program} {w : World} {A : Around} {E : Value → Shared → Prop} {s : Shared} {z TI TO i1 i2 : Addr} {fp1 fp2 : List Addr} {n1 n2 i : Nat} {P1 P2 : Nat → Value → Prop} {St1 St2 : Nat → Heap → Prop} {a1 a2 : Value}
theorem sz_item {Q : Option Value → Shared → Prop} (S : ZipSep2 z TI TO i1 i2 fp1 fp2) (D1 : Draws prog w A.in1 i1 fp1 n1 P1 St1) (D2 : Draws prog w A.in1 i2 fp2 n2 P2 St2)
    (hz : SZ s.heap z TI TO .none) (hTI : IsTupOf2 s.heap TI (.ref i1) (.ref i2)) (hTO : IsTupOf2 s.heap TO a1 a2) (st1 : St1 i s.heap) (st2 : St2 i s.heap) (lt1 : i < n1) (lt2 : i < n2)
    (hQ : ∀ x1 x2 h' tk, P1 i x1 → P2 i x2 → SZ h' z TI TO (rawInt s.heap.objs.size) → IsTupOf2 h' TO x1 x2 → St1 (i + 1) h' → St2 (i + 1) h' → IsTupOf2 h' s.heap.objs.size x1 x2 → h'.objs.size = s.heap.objs.size + 1 →
      (∀ c o, c ≠ z → c ≠ TO → c ≠ i1 → c ≠ i2 → s.heap.get? c = some o → h'.get? c = some o) → Q (some (.ref s.heap.objs.size)) { s with heap := h', toks := tk }) : wpAny (model prog w) A (pyNext (.ref z)) Q E s := by
  have hT : s.TypeIs (.ref z) "zip" := ⟨_, hz, rfl⟩
  have c1 := szNext_item (A := A.in1) (E := fun e s' => E e s') (Q := fun v s' => Q (some v) s') S D1 D2 hz hTI hTO st1 st2 lt1 lt2 hQ
  unfold pyNext
  refine wpAny_bind (wpAny_attempt (wpAny_callSpecial?_slot (name := Str.ofString "__next__") hT F.slot_zip_next (wpAny_call_entry F.slot_zip_next hT F.entry_zip_next (szNext_item S D1 D2 hz hTI hTO st1 st2 lt1 lt2 fun x1 x2 h' tk y1 y2 b1 b2 d1 d2 b5 b6 b7 => ?_) (F.args_zip_next_1 _))))
  exact wpAny_pure (hQ x1 x2 h' tk y1 y2 b1 b2 d1 d2 b5 b6 b7)
theorem sz_end {Q : Option Value → Shared → Prop} (hh : A.handled = none) (S : ZipSep2 z TI TO i1 i2 fp1 fp2) (D1 : Draws prog w A.in1 i1 fp1 n1 P1 St1) (D2 : Draws prog w A.in1 i2 fp2 n2 P2 St2) (e1 : Ended prog w A.in1 i1 (St1 i)) (e2 : Ended prog w A.in1 i2 (St2 i))
    (hz : SZ s.heap z TI TO .none) (hTI : IsTupOf2 s.heap TI (.ref i1) (.ref i2)) (hTO : IsTupOf2 s.heap TO a1 a2) (st1 : St1 i s.heap) (st2 : St2 i s.heap)
    (hQ : ∀ h' tk, (∀ c o, c ≠ z → c ≠ TO → c ≠ i1 → c ≠ i2 → s.heap.get? c = some o → h'.get? c = some o) → Q none { s with heap := h', toks := tk }) : wpAny (model prog w) A (pyNext (.ref z)) Q E s := by
  have hT : s.TypeIs (.ref z) "zip" := ⟨_, hz, rfl⟩
  unfold pyNext
  refine wpAny_bind (wpAny_attempt (wpAny_callSpecial?_slot (name := Str.ofString "__next__") hT F.slot_zip_next (wpAny_call_entry F.slot_zip_next hT F.entry_zip_next (szNext_end hh S D1 D2 e1 e2 hz hTI hTO st1 st2 fun h' tk e hk he => ?_) (F.args_zip_next_1 _))))
  obtain ⟨o, ho, hc⟩ := he
  exact wpAny_bind (wpAny_isInstance (T := "StopIteration") (b := true) ⟨o, ho, hc⟩ isSubtype_stop (wpAny_pure (hQ _ _ hk)))
theorem sz_go {elts : List Expr} {x1} {pos : Pos} {T : Addr} {Q : Unit → Shared → Prop} (hz : SZ s.heap z TI TO (rawInt T)) (hQ : ∀ h', SZ h' z TI TO .none → Heap.SameBut z s.heap h' → Q () { s with heap := h' }) :
    wpAny (model prog w) A (letOwnedTupleGo (.Tuple elts x1 pos) (.ref z) (.ref T)) Q E s := by
  unfold letOwnedTupleGo
  refine wpAny_bind (wpAny_load hz ?_)
  show wpAny _ _ (if (["enumerate", "zip", "dict_itemiterator", "dict_reverseitemiterator", "odict_iterator", "itertools.zip_longest", "itertools.pairwise"].contains "zip" && (#[rawInt T, .bool false, .bool true, .ref TI, .ref TO] : Array Value)[0]? == some (rawInt T)) = true then _ else _) Q E s
  rw [if_pos (by simp)]
  refine wpAny_bind (wpAny_rule ?_); show wpAny _ _ (setField (.ref z) 0 .none) Q E s
  exact wpAny_setField_rec hz (by simp) fun h' hz' hs' => hQ h' hz' hs'
theorem sz_iter {f0 : Value} {Q : Value → Shared → Prop} (hz : SZ s.heap z TI TO f0) (h : Q (.ref z) s) : wpAny (model prog w) A (pyIter (.ref z)) Q E s := by
  have hT : s.TypeIs (.ref z) "zip" := ⟨_, hz, rfl⟩
  refine wpAny_pyIter_slot hT F.slot_zip_iter (wpAny_call_entry F.slot_zip_iter hT F.entry_zip_iter ?_ (F.args_zip_iter_1 _)); show wpAny _ _ (ret (.ref z)) _ _ s
  exact wpAny_pure ⟨_, rfl, "zip", _, hT, F.slot_zip_next.lookup, h⟩
end
/-! ## lists and tuples, by a flag -/
def SqB (K : PySem.W.Frag) (b : Bool) (H : Hp) (a : Addr) (xs : List V) : Prop := match b with | true => SqL K H a xs | false => SqT K H a xs
def ItB (b : Bool) (h : Heap) (it a : Addr) (i : Nat) : Prop := match b with | true => h.IsListIter it a i | false => h.IsTupleIter it a i
def CtB (b : Bool) (h : Heap) (a : Addr) (xs : Array Value) : Prop := match b with | true => h.IsList a xs | false => h.IsTuple a xs
def obB (b : Bool) (a : Addr) : Obj := match b with | true => { cls := .type "list_iterator", data := .fields #[.ref a, .int 0 0] } | false => { cls := .type "tuple_iterator", data := .fields #[.ref a, .int 0 0] }
theorem beginsB (b : Bool) (a : Addr) (xs : Array Value) : Begins (.ref a) (obB b a) fun h => CtB b h a xs := by
  cases b
  · exact begins_tuple a xs
  · exact begins_list a xs
theorem drawsB {prog : Program} {w : World} {A : Around} (hh : A.handled = none) (b : Bool) (it a : Addr) (hne : a ≠ it) (xs : Array Value) : Draws prog w A it [it, a] xs.size (fun i v => xs[i]? = some v) (fun i h => ItB b h it a i ∧ CtB b h a xs) := by
  cases b
  · exact Draws.tuple hh it a hne xs
  · exact Draws.list hh it a hne xs
theorem endedB {prog : Program} {w : World} {A : Around} (hh : A.handled = none) (b : Bool) (it a : Addr) (xs : Array Value) (i : Nat) (hi : xs.size ≤ i) : Ended prog w A it (fun h => ItB b h it a i ∧ CtB b h a xs) := by
  have e : xs[i]? = none := by simp; omega
  intro s Q E st hE
  cases b
  · exact RZ.nextOf_tuple_end hh st.1 st.2 e hE
  · exact wpAny_nextOf_list_end hh st.1 st.2 e hE
theorem ItB.lt {b : Bool} {h : Heap} {it a : Addr} {i : Nat} (x : ItB b h it a i) : ∃ o, h.get? it = some o ∧ ∀ v, o.data ≠ .cell v := by
  cases b
  · obtain ⟨o, e, _, d⟩ := x; exact ⟨o, e, fun v q => by rw [d] at q; cases q⟩
  · obtain ⟨o, e, _, d⟩ := x; exact ⟨o, e, fun v q => by rw [d] at q; cases q⟩
theorem ItB.keep {b : Bool} {h h' : Heap} {it a : Addr} {i : Nat} (x : ItB b h it a i) (k : ∀ o, h.get? it = some o → h'.get? it = some o) : ItB b h' it a i := by
  cases b
  · exact Heap.IsTupleIter.at x k
  · exact Heap.IsListIter.at x k
theorem ItB.new {b : Bool} {h : Heap} {it a : Addr} (e : h.get? it = some (obB b a)) : ItB b h it a 0 := by
  cases b
  · exact ⟨_, e, rfl, rfl⟩
  · exact ⟨_, e, rfl, rfl⟩
theorem SqB.get {X : Cx} {pins : List (Addr × Obj)} {σ : L2.St} {H : Hp} {s : Shared} {a : Addr} {xs : List V} (b : Bool) (I : Inv X pins σ H s) (h : SqB X.K b H a xs) : ∃ its : List Value, Vals xs its ∧ CtB b s.heap a its.toArray ∧ xs.length ≤ sizeLine ∧ a < s.heap.objs.size := by
  cases b
  · obtain ⟨its, r, p, z⟩ := I.tuple h
    refine ⟨its, r, p, z, ?_⟩
    obtain ⟨o, ho, _⟩ := id p
    exact Heap.lt_size ho
  · obtain ⟨its, r, p, z⟩ := I.list h
    exact ⟨its, r, p.isList, z, p.lt⟩
theorem SqB.inj {X : Cx} {pins : List (Addr × Obj)} {σ : L2.St} {H : Hp} {s : Shared} {a : Addr} {xs ys : List V} (b : Bool) (I : Inv X pins σ H s) (h : SqB X.K b H a xs) (h' : SqB X.K b H a ys) : xs = ys := by
  cases b
  · exact I.tuple_inj h h'
  · exact I.list_inj h h'
/-- both as they stand at each turn, the items in new pairs; the ends come together -/
def ItzS (K : PySem.W.Frag) (b1 b2 : Bool) (a c : Addr) : It where
  go := fun i H => ∃ (xs ys : List V) (x y : V), SqB K b1 H a xs ∧ SqB K b2 H c ys ∧ xs[i]? = some x ∧ ys[i]? = some y
  yld := fun i H v H' => ∃ T x y, v = .ref T ∧ H T = none ∧ H' = upd H T (.tup [x, y]) ∧ (∀ xs, SqB K b1 H a xs → xs[i]? = some x) ∧ ∀ ys, SqB K b2 H c ys → ys[i]? = some y
  stop := fun i H => ∃ xs ys : List V, SqB K b1 H a xs ∧ SqB K b2 H c ys ∧ xs.length ≤ i ∧ ys.length ≤ i
theorem turn_zipS {P : Program} {w : World} {K : PySem.W.Frag} {elts : List Expr} {kk : Nat} {tpos : Pos} {b1 b2 : Bool} {a c z TI TO i1 i2 : Addr} (D : ZipSep2 z TI TO i1 i2 [i1, a] [i2, c]) (n1 : a ≠ i1) (n2 : c ≠ i2) :
    Turn P w K (.Tuple elts kk tpos) (ItzS K b1 b2 a c) [z, TI, TO, i1, i2] z (fun i h => SZ h z TI TO .none ∧ IsTupOf2 h TI (.ref i1) (.ref i2) ∧ (∃ x y, IsTupOf2 h TO x y) ∧ ItB b1 h i1 a i ∧ ItB b2 h i2 c i) where
  mem := by simp
  obj := fun i h st b hb => by
    obtain ⟨hz, hTI, ⟨x, y, hTO⟩, h1, h2⟩ := st
    rcases (by simpa using hb : b = z ∨ b = TI ∨ b = TO ∨ b = i1 ∨ b = i2) with q | q | q | q | q <;> subst q
    · exact ⟨_, hz, fun v q => nomatch q⟩
    · exact ⟨_, hTI, fun v q => nomatch q⟩
    · exact ⟨_, hTO, fun v q => nomatch q⟩
    · exact h1.lt
    · exact h2.lt
  keep := fun i h h' st k => by
    obtain ⟨hz, hTI, ⟨x, y, hTO⟩, h1, h2⟩ := st
    exact ⟨k z (by simp) _ hz, k TI (by simp) _ hTI, ⟨x, y, k TO (by simp) _ hTO⟩, h1.keep fun o q => k i1 (by simp) o q, h2.keep fun o q => k i2 (by simp) o q⟩
  item := by
    intro X hP hw hK hc i pins s σ H E I hf st hg
    subst hP hw hK
    obtain ⟨hz, hTI, ⟨x0, y0, hTO⟩, h1, h2⟩ := st
    obtain ⟨xs, ys, x, y, q1, q2, hx, hy⟩ := hg
    obtain ⟨its, rv, p, _⟩ := SqB.get b1 I q1
    obtain ⟨its2, rv2, p2, _⟩ := SqB.get b2 I q2
    obtain ⟨u, hu, ru⟩ := rv.get hx
    obtain ⟨u2, hu2, ru2⟩ := rv2.get hy
    have zl : z < s.heap.objs.size := Heap.lt_size hz
    have l1 : i < its.toArray.size := by simpa using (List.getElem?_eq_some_iff.mp hu).1
    have l2 : i < its2.toArray.size := by simpa using (List.getElem?_eq_some_iff.mp hu2).1
    refine sz_item D (drawsB (A := X.A.in1) (I.ok.hd hc) b1 i1 a n1 its.toArray) (drawsB (A := X.A.in1) (I.ok.hd hc) b2 i2 c n2 its2.toArray) hz hTI hTO ⟨h1, p⟩ ⟨h2, p2⟩ l1 l2 fun v1 v2 h' tk e1 e2 z' TO' t1 t2 hT hsz hk => ?_
    have ev1 : v1 = u := by
      have e : its.toArray[i]? = some u := by simpa using hu
      rw [e] at e1; cases e1; rfl
    have ev2 : v2 = u2 := by
      have e : its2.toArray[i]? = some u2 := by simpa using hu2
      rw [e] at e2; cases e2; rfl
    subst ev1 ev2
    refine ⟨_, rfl, sz_go (s := { s with heap := h', toks := tk }) z' fun h'' z'' sb => ?_⟩
    have hT2 : h''.get? s.heap.objs.size = some { cls := .type "tuple", data := .seq #[v1, v2] } := (sb.2 _ (Nat.ne_of_gt zl)).trans hT
    have new : ObjOk X.prog X.w (upd H s.heap.objs.size (.tup [x, y])) h'' s.heap.objs.size (.tup [x, y]) := ⟨(by decide : 2 ≤ sizeLine), [v1, v2], .cons ru (.cons ru2 .nil), ⟨_, hT2, rfl, _, rfl⟩⟩
    have I1 : Inv X pins σ (upd H s.heap.objs.size (.tup [x, y])) { s with heap := h'', toks := tk } := by
      refine I.turnedNew (ch := [z, TI, TO, i1, i2]) (fun b o hb q => ?_) hf (Nat.le_refl _) new
      have m : b ≠ z ∧ b ≠ TI ∧ b ≠ TO ∧ b ≠ i1 ∧ b ≠ i2 := by simpa using hb
      exact (sb.2 b m.1).trans (hk b o m.1 m.2.2.1 m.2.2.2.1 m.2.2.2.2 q)
    refine ⟨.ref s.heap.objs.size, _, I1, rfl, ⟨_, x, y, rfl, I.hok.fresh (Nat.le_refl _), rfl, fun l hl => by rw [SqB.inj b1 I hl q1]; exact hx, fun l hl => by rw [SqB.inj b2 I hl q2]; exact hy⟩, ⟨z'', (sb.2 _ D.TIz).trans (hk _ _ D.TIz D.TITO D.TIi1 D.TIi2 hTI), ⟨v1, v2, (sb.2 _ D.TOz).trans TO'⟩, t1.1.keep fun o q => (sb.2 _ D.zi1.symm).trans q, t2.1.keep fun o q => (sb.2 _ D.zi2.symm).trans q⟩, fun b hb => ?_⟩
    have hlt : b < s.heap.objs.size := by
      rcases (by simpa using hb : b = z ∨ b = TI ∨ b = TO ∨ b = i1 ∨ b = i2) with q | q | q | q | q <;> subst q
      · exact zl
      · exact Heap.lt_size hTI
      · exact Heap.lt_size hTO
      · obtain ⟨_, e, _⟩ := h1.lt; exact Heap.lt_size e
      · obtain ⟨_, e, _⟩ := h2.lt; exact Heap.lt_size e
    rw [upd_ne (Nat.ne_of_lt hlt)]
    exact (hf b hb).1
  done := by
    intro X hP hw hK hc i pins s σ H E I hf st hg
    subst hP hw hK
    obtain ⟨hz, hTI, ⟨x0, y0, hTO⟩, h1, h2⟩ := st
    obtain ⟨xs, ys, q1, q2, g1, g2⟩ := hg
    obtain ⟨its, rv, p, _⟩ := SqB.get b1 I q1
    obtain ⟨its2, rv2, p2, _⟩ := SqB.get b2 I q2
    have l1 := rv.length
    have l2 := rv2.length
    refine sz_end (I.ok.hd hc) D (drawsB (A := X.A.in1) (I.ok.hd hc) b1 i1 a n1 its.toArray) (drawsB (A := X.A.in1) (I.ok.hd hc) b2 i2 c n2 its2.toArray) (endedB (A := X.A.in1) (I.ok.hd hc) b1 i1 a its.toArray i (by simp; omega)) (endedB (A := X.A.in1) (I.ok.hd hc) b2 i2 c its2.toArray i (by simp; omega)) hz hTI hTO ⟨h1, p⟩ ⟨h2, p2⟩ fun h' tk hk => ⟨rfl, I.turnedL (t' := tk) (ch := [z, TI, TO, i1, i2]) (fun b o hb q => ?_) hf⟩
    have m : b ≠ z ∧ b ≠ TI ∧ b ≠ TO ∧ b ≠ i1 ∧ b ≠ i2 := by simpa using hb
    exact hk b o m.1 m.2.2.1 m.2.2.2.1 m.2.2.2.2 q
  self := fun A i s Q E st h => sz_iter st.1 h

section
variable {M : Model} {A : Around} {E : Value → Shared → Prop} {s : Shared} {env : PySem.Env}
theorem callWith_kwT {pos : Pos} {T : String} {e : Expr} {rest : List Expr} {kws : List Keyword} {Q : Value → Shared → Prop}
    (h : wpAny M A (spliced (backTo pos (starEach (e :: rest) env))) (fun vs s1 => wpAny M A (evalAll ((backToKw pos (keywordEach kws env)).map (·.2))) (fun ks s2 => wpAny M A (call (.type T) vs (((backToKw pos (keywordEach kws env)).filterMap (·.1)).zip ks)) Q E s2) E s1) E s)
    (he : backTo pos (starEach (e :: rest) env) = (false, eval e env) :: backTo pos (starEach rest env) := by rfl)
    (hp : (backTo pos (starEach (e :: rest) env)).any (·.1) = false := by rfl)
    (ha : (backToKw pos (keywordEach kws env)).all (·.1.isSome) = true := by rfl)
    (hn : (backToKw pos (keywordEach kws env)).any (·.1.isNone) = false := by rfl) :
    wpAny M A (callWith pos (.type T) [] (backTo pos (starEach (e :: rest) env)) (backToKw pos (keywordEach kws env))) Q E s := by
  have h2 : wpAny M A (evalArgs (.type T) true (backTo pos (starEach (e :: rest) env)) (backToKw pos (keywordEach kws env))) (fun a s1 => wpAny M A (call (.type T) ([] ++ a.pos) a.kw) Q E s1) E s := by
    rw [he] at h ⊢
    exact evalArgs_kwB ha h
  unfold callWith
  refine wpAny_bind (wpAny_holding (wpAny_mono h2 (fun a s1 h3 => wpAny_bind (wpAny_standAt ?_)) fun _ _ x => x))
  simp only [hp, hn, Bool.or_false]
  refine wpAny_bind (wpAny_pure ?_)
  exact wpAny_bind (wpAny_mono h3 (fun r s2 hr => wpAny_bind (wpAny_holding (wpAny_point (wpAny_pure hr)))) fun _ _ x => x)
end
def zipL (xs ys : List D) : List D := List.zipWith (fun x y => D.tup [x, y]) xs ys
def zipSD (d e : D) : DIt := fun h => match seqD h d, seqD h e with
  | some xs, some ys => if xs.length = ys.length then some (zipL xs ys) else none
  | _, _ => none
def wZipS (ws : DA) : DI := fun env h Q => ws env h fun ds h1 => ∃ d e, ds = [d, e] ∧ (∃ xs, zipSD d e h1 = some xs) ∧ Q (zipSD d e) h1
theorem zipSD_some {d e : D} {h : MH} {zs : List D} (q : zipSD d e h = some zs) : ∃ xs ys, seqD h d = some xs ∧ seqD h e = some ys ∧ xs.length = ys.length ∧ zs = zipL xs ys := by
  unfold zipSD at q
  split at q
  · split at q
    · cases q; exact ⟨_, _, by assumption, by assumption, by assumption, rfl⟩
    · cases q
  · cases q
section
variable {K : PySem.W.Frag} {μ : Wd} {H : Hp}
/-- a list or a tuple, by a flag that stays -/
theorem rdSeqB {d : D} {h : MH} {xs : List D} {v : V} (s : SimH K h μ H) (r : RD K μ H d v) (e : seqD h d = some xs) :
    ∃ (b : Bool) (a : Addr), v = .ref a ∧ ∀ (h1 : MH) (μ1 : Wd) (H1 : Hp) (ys : List D), Ext μ H μ1 H1 → SimH K h1 μ1 H1 → seqD h1 d = some ys → ∃ vs, SqB K b H1 a vs ∧ RDs K μ1 H1 ys vs := by
  by_cases hd : ∃ ys, d = .tup ys
  · obtain ⟨ys, rfl⟩ := hd
    obtain ⟨a, vs, rfl, h2, h3⟩ := rdTup r
    refine ⟨false, a, rfl, fun h1 μ1 H1 zs x s1 e1 => ?_⟩
    cases e1
    obtain ⟨a', vs', ea, h2', h3'⟩ := rdTup (r.mono x)
    cases ea
    exact ⟨vs', h2', h3'⟩
  · have eR : ∀ hh, seqD hh d = lstR hh d := fun hh => by
      cases d with
      | tup ys => exact absurd ⟨ys, rfl⟩ hd
      | _ => rfl
    obtain ⟨a, vs, rfl, h2, h3⟩ := rdLstR s r ((eR _).symm.trans e)
    refine ⟨true, a, rfl, fun h1 μ1 H1 zs x s1 e1 => ?_⟩
    obtain ⟨a', vs', ea, h2', h3'⟩ := rdLstR s1 (r.mono x) ((eR _).symm.trans e1)
    cases ea
    exact ⟨vs', h2', h3'⟩
theorem j_zipS {d e : D} {b1 b2 : Bool} {a c : Addr}
    (r1 : ∀ (h1 : MH) (μ1 : Wd) (H1 : Hp) (ys : List D), Ext μ H μ1 H1 → SimH K h1 μ1 H1 → seqD h1 d = some ys → ∃ vs, SqB K b1 H1 a vs ∧ RDs K μ1 H1 ys vs)
    (r2 : ∀ (h1 : MH) (μ1 : Wd) (H1 : Hp) (ys : List D), Ext μ H μ1 H1 → SimH K h1 μ1 H1 → seqD h1 e = some ys → ∃ vs, SqB K b2 H1 c vs ∧ RDs K μ1 H1 ys vs) : JRel K μ H (ItzS K b1 b2 a c) (zipSD d e) where
  stop := fun i h1 μ1 H1 zs x s q hl => by
    obtain ⟨xs, ys, e1, e2, el, rfl⟩ := zipSD_some q
    obtain ⟨vs, p1, p2⟩ := r1 h1 μ1 H1 xs x s e1
    obtain ⟨ws, q1, q2⟩ := r2 h1 μ1 H1 ys x s e2
    have l1 := p2.length
    have l2 := q2.length
    unfold zipL at hl
    rw [List.length_zipWith] at hl
    exact ⟨vs, ws, p1, q1, by omega, by omega⟩
  item := fun i h1 μ1 H1 zs d1 x s q hi => by
    obtain ⟨xs, ys, e1, e2, el, rfl⟩ := zipSD_some q
    obtain ⟨vs, p1, p2⟩ := r1 h1 μ1 H1 xs x s e1
    obtain ⟨ws, q1, q2⟩ := r2 h1 μ1 H1 ys x s e2
    unfold zipL at hi
    obtain ⟨x0, y0, hx0, hy0, rfl⟩ := List.getElem?_zipWith_eq_some.mp hi
    obtain ⟨v, hv, rv⟩ := p2.get hx0
    obtain ⟨u, hu, ru⟩ := q2.get hy0
    refine ⟨⟨vs, ws, v, u, p1, q1, hv, hu⟩, fun zz H' ⟨T, v', u', ez, hT, eH, f1, f2⟩ => ?_⟩
    subst ez; subst eH
    have k1 := f1 vs p1
    have k2 := f2 ws q1
    rw [hv] at k1; cases k1
    rw [hu] at k2; cases k2
    exact pair_new s hT rv ru
end
section
variable {X : Cx}
theorem di_zipS {e1 e2 ek : Expr} {ws : DA} {p pos tpos kpos : Pos} {elts : List Expr} {kk : Nat} (hg : Gl X "zip") (hm : X.mg "zip" = none) (ha : PDA X [e1, e2] ws) (hk : PD X ek (wC (.bl true)))
    (hs : backTo pos (starEach [e1, e2] X.env) = (false, eval e1 X.env) :: backTo pos (starEach [e2] X.env) := by rfl) (hp : (backTo pos (starEach [e1, e2] X.env)).any (·.1) = false := by rfl) :
    PDI X (.Tuple elts kk tpos) (.Call (.Name "zip" p) [e1, e2] [⟨some "strict", ek, kpos⟩] pos) (wZipS ws) := by
  refine ⟨fun pins s σ H R I q => ?_⟩
  obtain ⟨env, h, μ, P, S, pw, l⟩ := q
  have rdy : rdA X.K ws σ H (fun vs H' => ∃ d e h' μ' v u, vs = [v, u] ∧ ((∃ xs, zipSD d e h' = some xs) ∧ P (zipSD d e) h') ∧ Ext μ H μ' H' ∧ Sm X.K env h' μ' σ H' ∧ RD X.K μ' H' d v ∧ RD X.K μ' H' e u) := by
    refine ⟨env, h, μ, fun ds h' => ∃ d e, ds = [d, e] ∧ ((∃ xs, zipSD d e h' = some xs) ∧ P (zipSD d e) h'), S, pw, ?_⟩
    rintro ds h' vs μ' H' ⟨d, e, ed, pp⟩ x s r
    subst ed
    cases r with
    | cons r1 r2 =>
      cases r2 with
      | cons r2 r3 =>
        cases r3
        exact ⟨d, e, h', μ', _, _, rfl, pp, x, ⟨S.re.mono x, s⟩, r1, r2⟩
  refine wpAny_Call_Name_kw (ld_blt I hg hm boot_zip (callWith_kwT (he := hs) (hp := hp) (thn (ha.run pos pins s σ H _ I rdy) fun us s1 ⟨vs, H1, I1, r1, d, e, h1, μ1, v, u, ev, ⟨⟨zs, ez⟩, pp⟩, x1, S1, rd1, rd2⟩ => ?_)))
  subst ev
  obtain ⟨xs, ys, q1, q2, ql, rfl⟩ := zipSD_some ez
  obtain ⟨b1, a, rfl, z1⟩ := rdSeqB S1.sh rd1 q1
  obtain ⟨b2, c, rfl, z2⟩ := rdSeqB S1.sh rd2 q2
  refine kws_cons (thn (hk.run pins s1 σ H1 _ I1 ⟨env, h1, μ1, fun d h => d = .bl true ∧ h = h1, S1, ⟨rfl, rfl⟩, LkE.refl⟩) fun kv s2 ⟨kx, H2, I2, rk, kd, h2, μ2, ⟨ekd, eh2⟩, x2, s2', rk2⟩ => kws_nil ?_)
  subst ekd eh2
  cases rk2
  cases rk
  have zz1 := z1 _ μ2 H2 xs x2 s2' q1
  have zz2 := z2 _ μ2 H2 ys x2 s2' q2
  obtain ⟨vs, y1, y2⟩ := zz1
  obtain ⟨us, y3, y4⟩ := zz2
  obtain ⟨its, rv, p1, _, la⟩ := SqB.get b1 I2 y1
  obtain ⟨its2, rv2, p2, _, lc⟩ := SqB.get b2 I2 y3
  cases r1 with
  | cons ra r1 =>
  cases r1 with
  | cons rb r1 =>
  cases r1
  cases ra
  cases rb
  have D := zip_sep2 (N := s2.heap.objs.size) (fp1 := [a]) (fp2 := [c]) (fun b hb => by rw [List.mem_singleton.mp hb]; exact la) (fun b hb => by rw [List.mem_singleton.mp hb]; exact lc)
  refine call_zipS (beginsB b1 a its.toArray) (beginsB b2 c its2.toArray) p1 p2 fun h' hz hTI hTO hi1 hi2 hk => sz_iter hz ?_
  have I3 : L2.Inv X pins σ H2 { s2 with heap := h' } := I2.kept (t' := s2.toks) hk
  refine ⟨s2.heap.objs.size + 4, [s2.heap.objs.size + 4, s2.heap.objs.size + 2, s2.heap.objs.size + 3, s2.heap.objs.size, s2.heap.objs.size + 1], _, _, H2, rfl, I3, turn_zipS (b1 := b1) (b2 := b2) D (Nat.ne_of_lt la) (Nat.ne_of_lt (Nat.lt_succ_of_lt lc)), ⟨hz, hTI, ⟨_, _, hTO⟩, .new hi1, .new hi2⟩, fun b hb => ?_, ?_⟩
  · have hle : s2.heap.objs.size ≤ b := by
      rcases (by simpa using hb : b = s2.heap.objs.size + 4 ∨ b = s2.heap.objs.size + 2 ∨ b = s2.heap.objs.size + 3 ∨ b = s2.heap.objs.size ∨ b = s2.heap.objs.size + 1) with z | z | z | z | z <;> rw [z] <;> first | exact Nat.le_add_right _ _ | exact Nat.le_refl _
    exact I2.fpOk hle (I2.hok.fresh hle)
  · exact l _ _ μ2 H2 _ pp (x1.trans x2) s2' (j_zipS (fun h1 μ3 H3 zs x s e => z1 h1 μ3 H3 zs (x2.trans x) s e) (fun h1 μ3 H3 zs x s e => z2 h1 μ3 H3 zs (x2.trans x) s e))

/-! # isinstance(e, T), T a class of the language -/
theorem tyx_of {K : PySem.W.Frag} {h : MH} {μ : Wd} {H : Hp} {d : D} {v : V} {t : String} (s : SimH K h μ H) (r : RD K μ H d v) (e : tyD h d = some t) : TyX K H v (.type t) := by
  cases r with
  | non => cases e; exact .base .non
  | bl b => cases e; exact .base (.bl b)
  | int i => cases e; exact .base (.int i)
  | str x => cases e; exact .base (.str x)
  | tup q _ =>
    cases e
    rcases q with ⟨q | ⟨o, q⟩, _⟩ | (q | ⟨o, q⟩) | ⟨o, its, n, q, c, _⟩
    · exact .base (.tup q)
    · exact .fTuple q
    · cases q
    · cases q
    · exact .kTuple q c
  | lv q _ _ _ => cases e; exact .base (.lst q)
  | scr q _ => cases e
  | @ob a n q =>
    unfold tyD at e
    simp only at e
    split at e
    · rename_i xs eo
      cases e
      obtain ⟨b, hb, ro⟩ := s.at_ n _ eo
      have z := Option.some.inj (hb.symm.trans q); subst z
      obtain ⟨vs, q2, _⟩ := ro
      exact .base (.lst q2)
    · rename_i xs eo
      cases e
      obtain ⟨b, hb, ro⟩ := s.at_ n _ eo
      have z := Option.some.inj (hb.symm.trans q); subst z
      obtain ⟨vs, q2, _⟩ := ro
      exact .base (.dK q2)
    · cases e
theorem pd_isi {e : Expr} {w : DW} {x : Str} {p p2 pos : Pos} (T : String) (hg : Gl X "isinstance") (hm : X.mg "isinstance" = none) (hg2 : Gl X x) (hm2 : X.mg x = none) (hv : bootBuiltins x = some (.type T)) (hd : PD X e w)
    (hn : x ≠ "__name__" := by decide) (hdb : (x == ("__debug__" : Str)) = false := by decide)
    (he : starEach [e, .Name x p2] X.env = (false, eval e X.env) :: starEach [.Name x p2] X.env := by rfl) (he2 : starEach [.Name x p2] X.env = (false, eval (.Name x p2) X.env) :: starEach [] X.env := by rfl)
    (hpl : (backTo pos (starEach [.Name x p2] X.env)).any (·.1) = false := by rfl) : PD X (.Call (.Name "isinstance" p) [e, .Name x p2] [] pos) (wIsi T w) := by
  refine pe_imp (pe_callB call_isi hg hm bt_isinstance (pa_cons hd (pa_cons (pe_bltn hg2 hm2 hv (v := .ty T) rfl hn hdb) pa_nil he2) he) (he := he) (hpl := hpl)) fun σ H Q q => ?_
  obtain ⟨env, h, μ, P, S, pw, l⟩ := q
  refine ⟨env, h, μ, _, S, pw, fun d h1 v μ1 H1 ⟨t, b, e1, e2, p1⟩ x1 s1 r1 => ?_⟩
  exact ⟨v, .ty T, .type t, .type T, b, rfl, .ty T, tyx_of s1 r1 e1, kit_ty e2, l _ _ _ μ1 H1 p1 x1 s1 (.bl b)⟩
end
end DL
namespace DL
open PySem PySem.Spec PyProof.Rows L2
/-! # typed data -/
def OkS : Type := { x : Str // PyData.strOk x = true }
instance : DecidableEq OkS := fun a b => decidable_of_iff (a.1 = b.1) Subtype.ext_iff.symm
/-- values of a type as plain data: dep bounds the depth, nm tells them apart -/
class En (α : Type) where
  en : α → D
  dep : Nat
  gd : ∀ a, Gd dep (en a)
  inj : ∀ a b, nm (en a) = nm (en b) → a = b
open En (en dep)
/-- values that are no containers -/
class EnF (α : Type) extends En α where
  fl : ∀ a, flat (en a) = true
instance : EnF OkS := { en := fun x => .str x.1, dep := 0, gd := fun a => a.2, inj := fun a b h => by injection h with h; exact Subtype.ext h, fl := fun _ => rfl }
instance : EnF Int := { en := fun x => .int x, dep := 0, gd := fun a => trivial, inj := fun a b h => by injection h, fl := fun _ => rfl }
instance : EnF Nat := { en := fun x => .int x, dep := 0, gd := fun a => trivial, inj := fun a b h => by injection h with h; exact Int.ofNat.inj h, fl := fun _ => rfl }
instance : EnF Bool := { en := fun x => .bl x, dep := 0, gd := fun a => trivial, inj := fun a b h => by cases a <;> cases b <;> first | rfl | (injection h with h; cases h), fl := fun _ => rfl }
theorem nms_inj {α : Type} [En α] : ∀ {a b : List α}, nms (a.map en) = nms (b.map en) → a = b
  | [], [], _ => rfl
  | [], _ :: _, h => by cases h
  | _ :: _, [], h => by cases h
  | x :: a, y :: b, h => by
    have h : nm (en x) :: nms (a.map en) = nm (en y) :: nms (b.map en) := h
    injection h with h1 h2
    rw [En.inj _ _ h1, nms_inj h2]
/-- a tuple -/
instance {α : Type} [En α] : En (List α) where
  en := fun xs => .tup (xs.map en)
  dep := dep α + 1
  gd := fun xs x hx => by
    obtain ⟨a, _, rfl⟩ := List.mem_map.mp hx
    exact En.gd a
  inj := fun a b h => by
    have h : D.tup (nms (a.map en)) = D.tup (nms (b.map en)) := h
    injection h with h
    exact nms_inj h
/-- a pair, as a tuple of two -/
instance {α β : Type} [En α] [En β] : En (α × β) where
  en := fun p => .tup [en p.1, en p.2]
  dep := max (dep α) (dep β) + 1
  gd := fun p x hx => by
    rcases (by simpa using hx : x = en p.1 ∨ x = en p.2) with rfl | rfl
    · exact (En.gd p.1).le (Nat.le_max_left _ _)
    · exact (En.gd p.2).le (Nat.le_max_right _ _)
  inj := fun a b h => by
    have h : D.tup [nm (en a.1), nm (en a.2)] = D.tup [nm (en b.1), nm (en b.2)] := h
    injection h with h
    injection h with h1 h
    injection h with h2 h
    exact Prod.ext (En.inj _ _ h1) (En.inj _ _ h2)
/-- a list of Python -/
structure Lv (α : Type) where
  l : List α
instance {α : Type} [En α] : En (Lv α) where
  en := fun xs => .lv (xs.l.map en)
  dep := dep α + 1
  gd := fun xs x hx => by
    obtain ⟨a, _, rfl⟩ := List.mem_map.mp hx
    exact En.gd a
  inj := fun a b h => by
    have h : D.lv (nms (a.l.map en)) = D.lv (nms (b.l.map en)) := h
    injection h with h
    have h := nms_inj h
    cases a; cases b; cases h; rfl
/-- a type no value of which is None -/
class EnN (α : Type) [En α] : Prop where
  nn : ∀ a : α, nm (en a) ≠ .non
instance : EnN OkS := ⟨fun _ h => nomatch h⟩
instance : EnN Int := ⟨fun _ h => nomatch h⟩
instance : EnN Nat := ⟨fun _ h => nomatch h⟩
instance : EnN Bool := ⟨fun _ h => nomatch h⟩
instance {α : Type} [En α] : EnN (List α) := ⟨fun _ h => nomatch h⟩
instance {α : Type} [En α] : EnN (Lv α) := ⟨fun _ h => nomatch h⟩
instance {α β : Type} [En α] [En β] : EnN (α × β) := ⟨fun _ h => nomatch h⟩
def enO {α : Type} [En α] : Option α → D
  | none => .non
  | some a => en a
instance {α : Type} [En α] [EnN α] : En (Option α) where
  en := enO
  dep := dep α
  gd := fun a => by
    cases a with
    | none => show Gd _ D.non; cases (dep α) <;> trivial
    | some a => exact En.gd a
  inj := fun a b h => by
    cases a with
    | none => cases b with
      | none => rfl
      | some b => exact absurd h.symm (EnN.nn b)
    | some a => cases b with
      | none => exact absurd h (EnN.nn a)
      | some b => exact congrArg some (En.inj _ _ h)
theorem fl_opt {α : Type} [EnF α] [EnN α] (a : Option α) : flat (en a) = true := by
  cases a with
  | none => rfl
  | some a => exact EnF.fl a
theorem en_inj {α : Type} [En α] {a b : α} : en a = en b ↔ a = b := ⟨fun h => En.inj a b (congrArg nm h), fun h => by rw [h]⟩
theorem eqD_en {α : Type} [En α] [DecidableEq α] (a b : α) : eqD (en a) (en b) = decide (a = b) := by
  by_cases h : a = b
  · subst h
    rw [decide_eq_true rfl]
    exact eqD_iff.mpr rfl
  · rw [decide_eq_false h]
    cases e : eqD (en a) (en b) with
    | false => rfl
    | true => exact absurd (En.inj a b (eqD_iff.mp e)) h
theorem eqD_none {α : Type} [En α] [EnN α] (a : α) : eqD (en a) .non = false := by
  cases e : eqD (en a) .non with
  | false => rfl
  | true => exact absurd (eqD_iff.mp e) (EnN.nn a)
theorem not_ob {α : Type} [En α] (a : α) (n : Nat) : en a ≠ .ob n := fun h => by
  have g := En.gd a
  rw [h] at g
  cases (dep α) <;> simp [Gd] at g
/-! # runs -/
/-- a def of arguments ds gives d and leaves all else as it is -/
def Runs (S : List D → MH → DK → Prop) (ds : List D) (d : D) : Prop := ∀ h Q, Q d h → S ds h Q
theorem fin_gd {h ls : MH} {Q : DK} {d : D} (g : Gd 9 d) (q : Q d h) : fin h Q d (h ++ ls) := fin_pure (fz_pure g) q
theorem fin_gd0 {h : MH} {Q : DK} {d : D} (g : Gd 9 d) (q : Q d h) : fin h Q d h := by
  have z := fin_gd (ls := []) g q
  rwa [List.append_nil] at z
theorem fin_en {α : Type} [En α] {h ls : MH} {Q : DK} {a : α} (hd : dep α ≤ 9) (q : Q (en a) h) : fin h Q (en a) (h ++ ls) := fin_gd ((En.gd a).le hd) q
theorem fin_en0 {α : Type} [En α] {h : MH} {Q : DK} {a : α} (hd : dep α ≤ 9) (q : Q (en a) h) : fin h Q (en a) h := fin_gd0 ((En.gd a).le hd) q
/-! # comprehensions and loops, their readings taken apart -/
def lcB (it : DIt) (g : DG) (tt : DT) (te : DW) (vs : List Nat) (env : Env) (h1 : MH) (K : List D → MH → Prop) : Prop :=
  ∃ W : Nat → Nat → List D → MH → Prop, (∃ m, W 0 m [] h1) ∧ ∀ i m acc h, W i m acc h → ∃ xs, it h = some xs ∧
  ((xs.length ≤ i ∧ K acc h) ∨ ∃ (d : D) (N : List D → MH → Prop), xs[i]? = some d ∧ (∀ acc' h', N acc' h' → ∃ m', m' < m ∧ W (i + 1) m' acc' h') ∧ g d (wipeD env vs) h fun env2 h2 => tt env2 h2 fun c h3 =>
    if c = true then te env2 h3 fun y h4 => acc.length < sizeLine ∧ N (acc ++ [y]) h4 else N acc h3)
theorem wLc_eq {b : Bool} {wi : DI} {g : DG} {tt : DT} {te : DW} {vs : List Nat} {env : Env} {h : MH} {Q : DK} : wLc b wi g tt te vs env h Q = wi env h fun it h1 => lcB it g tt te vs env h1 fun acc h => qLst b acc h Q := rfl
def forB (it : DIt) (g : DG) (b : DS) (E : EndsD) (env : Env) (h1 : MH) : Prop :=
  ∃ W : Nat → Nat → Env → MH → Prop, (∃ m, W 0 m env h1) ∧ ∀ i m env h, W i m env h → ∃ xs, it h = some xs ∧
  ((xs.length ≤ i ∧ E.nx env h) ∨ ∃ d N, xs[i]? = some d ∧ (∀ env' h', N env' h' → ∃ m', m' < m ∧ W (i + 1) m' env' h') ∧ g d env h fun env1 h1 => b { E with nx := N, ct := N, bk := E.nx } env1 h1)
theorem sFor_eq {wi : DI} {g : DG} {b : DS} {E : EndsD} {env : Env} {h : MH} : sFor wi g b E env h = wi env h fun it h1 => forB it g b E env h1 := rfl
/-- by an invariant: the list stands still -/
theorem lcB_ind {it : DIt} {g : DG} {tt : DT} {te : DW} {vs : List Nat} {env : Env} {h : MH} {K : List D → MH → Prop} (xs : List D) (I : Nat → List D → MH → Prop) (hl : xs.length ≤ sizeLine) (h0 : I 0 [] h)
    (hx : ∀ i acc h, I i acc h → it h = some xs) (hs : ∀ i acc h d, xs[i]? = some d → I i acc h → ∀ (K1 : D → MH → Prop) (K0 : MH → Prop), (∀ y h', I (i + 1) (acc ++ [y]) h' → K1 y h') → (∀ h', I (i + 1) acc h' → K0 h') →
      g d (wipeD env vs) h fun env2 h2 => tt env2 h2 fun c h3 => if c = true then te env2 h3 K1 else K0 h3) (hk : ∀ acc h, I xs.length acc h → K acc h) : lcB it g tt te vs env h K := by
  refine ⟨fun i m acc h => m = xs.length - i ∧ i ≤ xs.length ∧ acc.length ≤ i ∧ I i acc h, ⟨_, rfl, Nat.zero_le _, Nat.zero_le _, h0⟩, ?_⟩
  rintro i m acc h ⟨rfl, hi, ha, p⟩
  refine ⟨xs, hx i acc h p, ?_⟩
  by_cases hlt : i < xs.length
  · refine .inr ⟨xs[i], fun acc' h' => acc'.length ≤ i + 1 ∧ I (i + 1) acc' h', List.getElem?_eq_getElem hlt, fun acc' h' q => ⟨_, by omega, rfl, hlt, q.1, q.2⟩, ?_⟩
    exact hs i acc h _ (List.getElem?_eq_getElem hlt) p _ _ (fun y h' q => ⟨by omega, by rw [List.length_append]; exact Nat.succ_le_succ ha, q⟩) fun h' q => ⟨by omega, q⟩
  · have e : i = xs.length := by omega
    subst e
    exact .inl ⟨Nat.le_refl _, hk acc h p⟩
theorem forB_ind {it : DIt} {g : DG} {b : DS} {E : EndsD} {env : Env} {h : MH} (xs : List D) (I : Nat → Env → MH → Prop) (h0 : I 0 env h) (hx : ∀ i env h, I i env h → it h = some xs)
    (hs : ∀ i env h d, xs[i]? = some d → I i env h → ∀ N : Env → MH → Prop, (∀ env' h', I (i + 1) env' h' → N env' h') → g d env h fun env1 h1 => b { E with nx := N, ct := N, bk := E.nx } env1 h1)
    (hk : ∀ env h, I xs.length env h → E.nx env h) : forB it g b E env h := by
  refine ⟨fun i m env h => m = xs.length - i ∧ i ≤ xs.length ∧ I i env h, ⟨_, rfl, Nat.zero_le _, h0⟩, ?_⟩
  rintro i m env h ⟨rfl, hi, p⟩
  refine ⟨xs, hx i env h p, ?_⟩
  by_cases hlt : i < xs.length
  · refine .inr ⟨xs[i], I (i + 1), List.getElem?_eq_getElem hlt, fun env' h' q => ⟨_, by omega, rfl, hlt, q⟩, ?_⟩
    exact hs i env h _ (List.getElem?_eq_getElem hlt) p _ fun _ _ q => q
  · have e : i = xs.length := by omega
    subst e
    exact .inl ⟨Nat.le_refl _, hk env h p⟩
/-- no state: what is kept of the items, each made to something -/
theorem lcB_pure {α : Type} {it : DIt} {g : DG} {tt : DT} {te : DW} {vs : List Nat} {env : Env} {h : MH} {K : List D → MH → Prop} (ts : List α) (e : α → D) (p : α → Bool) (f : α → D) (hx : it h = some (ts.map e)) (hl : ts.length ≤ sizeLine)
    (hs : ∀ t, t ∈ ts → ∀ (K1 : D → MH → Prop) (K0 : MH → Prop), (if p t = true then K1 (f t) h else K0 h) → g (e t) (wipeD env vs) h fun env2 h2 => tt env2 h2 fun c h3 => if c = true then te env2 h3 K1 else K0 h3)
    (hk : K ((ts.filter p).map f) h) : lcB it g tt te vs env h K := by
  refine lcB_ind (ts.map e) (fun i acc h' => acc = ((ts.take i).filter p).map f ∧ h' = h) (by rw [List.length_map]; exact hl) ⟨by simp, rfl⟩ (fun i acc h' q => by rw [q.2]; exact hx) ?_ ?_
  · rintro i acc h' d hd ⟨rfl, rfl⟩ K1 K0 k1 k0
    rw [List.getElem?_map] at hd
    obtain ⟨t, ht, rfl⟩ := Option.map_eq_some_iff.mp hd
    refine hs t (List.mem_of_getElem? ht) K1 K0 ?_
    have et : ts.take (i + 1) = ts.take i ++ [t] := by
      have hlt := (List.getElem?_eq_some_iff.mp ht).1
      rw [List.take_add_one, ht]; rfl
    by_cases hp : p t = true
    · rw [if_pos hp]
      exact k1 _ _ ⟨by rw [et, List.filter_append, List.map_append]; simp [hp], rfl⟩
    · rw [if_neg hp]
      exact k0 _ ⟨by rw [et, List.filter_append, List.map_append]; simp [hp], rfl⟩
  · rintro acc h' ⟨rfl, rfl⟩
    rw [List.length_map, List.take_length]
    exact hk
theorem lcB_map {α : Type} {it : DIt} {g : DG} {te : DW} {vs : List Nat} {env : Env} {h : MH} {K : List D → MH → Prop} (ts : List α) (e : α → D) (f : α → D) (hx : it h = some (ts.map e)) (hl : ts.length ≤ sizeLine)
    (hs : ∀ t, t ∈ ts → ∀ (K1 : D → MH → Prop), K1 (f t) h → g (e t) (wipeD env vs) h fun env2 h2 => te env2 h2 K1)
    (hk : K (ts.map f) h) : lcB it g wYes te vs env h K := by
  refine lcB_pure ts e (fun _ => true) f hx hl (fun t m K1 K0 q => ?_) (by rw [List.filter_eq_self.mpr (fun _ _ => rfl)]; exact hk)
  rw [if_pos rfl] at q
  have z := hs t m K1 q
  unfold wYes
  simp only [if_true]
  exact z
end DL
namespace DL
open PySem PySem.Spec PyProof.Rows L2
open En (en dep)
/-! # rewriting: readings at known values -/
section
variable {h : MH} {Q : DK} {env : Env} {E : EndsD}
theorem ev_var {i : Nat} : wVar i env h Q = ∃ d, env[i]? = some (some d) ∧ Q d h := rfl
theorem ev_ex {d : D} {P : D → Prop} : (∃ e, some (some d) = some (some e) ∧ P e) = P d := propext ⟨fun ⟨e, z, p⟩ => by cases z; exact p, fun p => ⟨d, rfl, p⟩⟩
theorem ev_exI {i : Int} {P : Int → Prop} : (∃ j, D.int i = D.int j ∧ P j) = P i := propext ⟨fun ⟨e, z, p⟩ => by cases z; exact p, fun p => ⟨i, rfl, p⟩⟩
theorem ev_exB {b : Bool} {P : Bool → Prop} : (∃ c, D.bl b = D.bl c ∧ P c) = P b := propext ⟨fun ⟨e, z, p⟩ => by cases z; exact p, fun p => ⟨b, rfl, p⟩⟩
theorem ev_exI1 {i : Int} {P : Int → Prop} : (∃ j, [D.int i] = [D.int j] ∧ P j) = P i := propext ⟨fun ⟨e, z, p⟩ => by cases z; exact p, fun p => ⟨i, rfl, p⟩⟩
theorem ev_exI2 {i k : Int} {P : Int → Int → Prop} : (∃ j l, [D.int i, D.int k] = [D.int j, D.int l] ∧ P j l) = P i k := propext ⟨fun ⟨e, f, z, p⟩ => by cases z; exact p, fun p => ⟨i, k, rfl, p⟩⟩
theorem ev_exO {d : D} {P : D → Prop} : (∃ e, some d = some e ∧ P e) = P d := propext ⟨fun ⟨e, z, p⟩ => by cases z; exact p, fun p => ⟨d, rfl, p⟩⟩
theorem ev_exL {xs : List D} {P : List D → Prop} : (∃ e, some xs = some e ∧ P e) = P xs := propext ⟨fun ⟨e, z, p⟩ => by cases z; exact p, fun p => ⟨xs, rfl, p⟩⟩
theorem ev_some {xs : List D} : (∃ e, some xs = some e) = True := propext ⟨fun _ => trivial, fun _ => ⟨xs, rfl⟩⟩
theorem ev_ex1 {d : D} {P : D → Prop} : (∃ e, [d] = [e] ∧ P e) = P d := propext ⟨fun ⟨e, z, p⟩ => by cases z; exact p, fun p => ⟨d, rfl, p⟩⟩
theorem ev_exC {d : D} {r : List D} {P : D → List D → Prop} : (∃ e t, d :: r = e :: t ∧ P e t) = P d r := propext ⟨fun ⟨e, t, z, p⟩ => by cases z; exact p, fun p => ⟨d, r, rfl, p⟩⟩
theorem ev_exT {ds : List D} {P : List D → Prop} : (∃ e, D.tup ds = D.tup e ∧ P e) = P ds := propext ⟨fun ⟨e, z, p⟩ => by cases z; exact p, fun p => ⟨ds, rfl, p⟩⟩
theorem ev_add {b : Bool} {i j : Int} : rAdd b (.int i) (.int j) h Q = Q (.int (i + j)) h := rfl
theorem ev_sub {i j : Int} : rSub (.int i) (.int j) h Q = Q (.int (i - j)) h := propext ⟨fun ⟨_, _, e1, e2, q⟩ => by cases e1; cases e2; exact q, fun q => ⟨i, j, rfl, rfl, q⟩⟩
theorem ev_mul {b : Bool} {i j : Int} : rMul b (.int i) (.int j) h Q = (CMul i j ∧ Q (.int (i * j)) h) := rfl
theorem ev_fdiv {i j : Int} : rFdiv (.int i) (.int j) h Q = (CDiv i j ∧ Q (.int (i / j)) h) := propext ⟨fun ⟨_, _, e1, e2, q⟩ => by cases e1; cases e2; exact q, fun q => ⟨i, j, rfl, rfl, q⟩⟩
theorem ev_mod {i j : Int} : rMod (.int i) (.int j) h Q = (0 < j ∧ Q (.int (i % j)) h) := propext ⟨fun ⟨_, _, e1, e2, q⟩ => by cases e1; cases e2; exact q, fun q => ⟨i, j, rfl, rfl, q⟩⟩
theorem ev_cmp {f : Int → Int → Bool} {i j : Int} : rCmpI f (.int i) (.int j) h Q = Q (.bl (f i j)) h := propext ⟨fun ⟨_, _, e1, e2, q⟩ => by cases e1; cases e2; exact q, fun q => ⟨i, j, rfl, rfl, q⟩⟩
theorem ev_toInt {i : Int} : rToInt [.int i] h Q = Q (.int i) h := propext ⟨fun z => by rcases z with ⟨_, e, q⟩ | ⟨_, e, _⟩ <;> cases e; exact q, fun q => .inl ⟨i, rfl, q⟩⟩
theorem ev_toIntB {b : Bool} : rToInt [.bl b] h Q = Q (.int (b2z b)) h := propext ⟨fun z => by rcases z with ⟨_, e, _⟩ | ⟨_, e, q⟩ <;> cases e; exact q, fun q => .inr ⟨b, rfl, q⟩⟩
theorem ev_i2 {f : Int → Int → Int} {i j : Int} : rI2 f [.int i, .int j] h Q = Q (.int (f i j)) h := propext ⟨fun ⟨_, _, e, q⟩ => by cases e; exact q, fun q => ⟨i, j, rfl, q⟩⟩
theorem ev_i1 {f : Int → Int} {i : Int} : rI1 f [.int i] h Q = Q (.int (f i)) h := propext ⟨fun ⟨_, e, q⟩ => by cases e; exact q, fun q => ⟨i, rfl, q⟩⟩
theorem seq_en {α : Type} [En α] {xs : List α} : seqD h (en xs) = some (xs.map en) := rfl
theorem seq_lv {α : Type} [En α] {xs : Lv α} : seqD h (en xs) = some (xs.l.map en) := rfl
theorem seq_tup {xs : List D} : seqD h (.tup xs) = some xs := rfl
theorem seq_lvD {xs : List D} : seqD h (.lv xs) = some xs := rfl
theorem lst_lv {α : Type} [En α] {xs : Lv α} : lstR h (en xs) = some (xs.l.map en) := rfl
theorem lst_lvD {xs : List D} : lstR h (.lv xs) = some xs := rfl
theorem lstD_lvD {xs : List D} : lstD h (.lv xs) = some xs := rfl
theorem enum_en {α : Type} [En α] {xs : List α} : enumD (en xs) h = some (enumL (xs.map en)) := rfl
theorem enum_lv {xs : List D} : enumD (.lv xs) h = some (enumL xs) := rfl
theorem ev_tuple {d : D} : rTuple [d] h Q = ∃ xs, seqD h d = some xs ∧ Q (.tup xs) h := propext ⟨fun ⟨_, xs, e, z, q⟩ => by cases e; exact ⟨xs, z, q⟩, fun ⟨xs, z, q⟩ => ⟨d, xs, rfl, z, q⟩⟩
theorem ev_list {b : Bool} {d : D} : rList b [d] h Q = ∃ xs, seqD h d = some xs ∧ qLst b xs h Q := propext ⟨fun ⟨_, xs, e, z, q⟩ => by cases e; exact ⟨xs, z, q⟩, fun ⟨xs, z, q⟩ => ⟨d, xs, rfl, z, q⟩⟩
theorem ev_lenT {xs : List D} : rLen [.tup xs] h Q = Q (.int xs.length) h := propext ⟨fun ⟨_, e, q⟩ => by cases e; exact q, fun q => ⟨xs, rfl, q⟩⟩
theorem ev_lenL {xs : List D} : rLen [.lv xs] h Q = Q (.int xs.length) h := propext ⟨fun ⟨_, e, q⟩ => by cases e; exact q, fun q => ⟨xs, rfl, q⟩⟩
theorem ev_len {α : Type} [En α] {xs : List α} : rLen [en xs] h Q = Q (.int xs.length) h := by
  have z : rLen [en xs] h Q = Q (.int (xs.map en).length) h := ev_lenT
  rw [z, List.length_map]
theorem ev_lenV {α : Type} [En α] {xs : Lv α} : rLen [en xs] h Q = Q (.int xs.l.length) h := by
  have z : rLen [en xs] h Q = Q (.int (xs.l.map en).length) h := ev_lenL
  rw [z, List.length_map]
theorem ev_ixT {xs : List D} {i : Int} : rIx (.tup xs) (.int i) h Q = ∃ d, atI xs i = some d ∧ Q d h := propext ⟨fun ⟨_, _, d, e1, e2, e3, q⟩ => by cases e1; cases e2; exact ⟨d, e3, q⟩, fun ⟨d, e, q⟩ => ⟨xs, i, d, rfl, rfl, e, q⟩⟩
theorem ev_ixL {xs : List D} {i : Int} : rIx (.lv xs) (.int i) h Q = ∃ d, atI xs i = some d ∧ Q d h := propext ⟨fun ⟨_, _, d, e1, e2, e3, q⟩ => by cases e1; cases e2; exact ⟨d, e3, q⟩, fun ⟨d, e, q⟩ => ⟨xs, i, d, rfl, rfl, e, q⟩⟩
theorem ev_fst {α β : Type} [En α] [En β] {p : α × β} : rIx (en p) (.int 0) h Q = Q (en p.1) h := by
  have z : rIx (en p) (.int 0) h Q = ∃ d, atI [en p.1, en p.2] 0 = some d ∧ Q d h := ev_ixT
  rw [z]; exact ev_exO
theorem ev_snd {α β : Type} [En α] [En β] {p : α × β} : rIx (en p) (.int 1) h Q = Q (en p.2) h := by
  have z : rIx (en p) (.int 1) h Q = ∃ d, atI [en p.1, en p.2] 1 = some d ∧ Q d h := ev_ixT
  rw [z]; exact ev_exO
theorem at_nat {α : Type} {xs : List α} {k : Nat} : atI xs (k : Int) = xs[k]? := by
  unfold atI ixN
  rw [if_pos (by omega)]
  by_cases hk : k < xs.length
  · rw [if_pos (by omega)]; rfl
  · rw [if_neg (by omega), List.getElem?_eq_none (by omega)]; rfl
theorem at_0 {α : Type} {x : α} {xs : List α} : atI (x :: xs) 0 = some x := (at_nat (k := 0)).trans rfl
theorem at_1 {α : Type} {x y : α} {xs : List α} : atI (x :: y :: xs) 1 = some y := (at_nat (k := 1)).trans rfl
theorem at_2 {α : Type} {x y z : α} {xs : List α} : atI (x :: y :: z :: xs) 2 = some z := (at_nat (k := 2)).trans rfl
theorem at_3 {α : Type} {x y z u : α} {xs : List α} : atI (x :: y :: z :: u :: xs) 3 = some u := (at_nat (k := 3)).trans rfl
theorem ev_ix {α : Type} [En α] {xs : List α} {i : Int} : rIx (en xs) (.int i) h Q = ∃ d, atI (xs.map en) i = some d ∧ Q d h := ev_ixT
theorem ev_ixV {α : Type} [En α] {xs : Lv α} {i : Int} : rIx (en xs) (.int i) h Q = ∃ d, atI (xs.l.map en) i = some d ∧ Q d h := ev_ixL
theorem ev_gTp {n : Nat} {gs : DGs} {ds : List D} {K : Env → MH → Prop} : gTp n gs (.tup ds) env h K = (ds.length = n ∧ gs ds env h K) := propext ⟨fun ⟨_, e, q⟩ => by cases e; exact q, fun q => ⟨ds, rfl, q⟩⟩
theorem ev_gTp2 {α β : Type} [En α] [En β] {gs : DGs} {p : α × β} {K : Env → MH → Prop} : gTp 2 gs (en p) env h K = gs [en p.1, en p.2] env h K := by
  have z : gTp 2 gs (en p) env h K = (2 = 2 ∧ gs [en p.1, en p.2] env h K) := ev_gTp
  rw [z, eq_self, true_and]
theorem ev_gsC {g : DG} {gs : DGs} {d : D} {r : List D} {K : Env → MH → Prop} : gsCons g gs (d :: r) env h K = g d env h fun env' h' => gs r env' h' K := propext ⟨fun ⟨_, _, e, q⟩ => by cases e; exact q, fun q => ⟨d, r, rfl, q⟩⟩
theorem ev_gsN {K : Env → MH → Prop} : gsNil [] env h K = K env h := propext ⟨fun q => q.2, fun q => ⟨rfl, q⟩⟩
theorem rs_en {α : Type} [En α] {a : α} {x : D} : Rs h (en a) x ↔ x = en a := ⟨fun z => by rcases z with z | ⟨n, _, e, _⟩; exact z; exact absurd e (not_ob a n), fun z => .inl z⟩
theorem rs_lv {xs : List D} {x : D} : Rs h (.lv xs) x ↔ x = .lv xs := ⟨fun z => z.elim id (fun ⟨_, _, e, _⟩ => by cases e), fun z => .inl z⟩
theorem rs_tup {xs : List D} {x : D} : Rs h (.tup xs) x ↔ x = .tup xs := ⟨fun z => z.elim id (fun ⟨_, _, e, _⟩ => by cases e), fun z => .inl z⟩
theorem i_eq {α : Type} [En α] [DecidableEq α] {neg : Bool} {a b : α} (hd : dep α ≤ 60) (q : Q (.bl (if neg then !decide (a = b) else decide (a = b))) h) : rEq neg (en a) (en b) h Q :=
  .inr ⟨en a, en b, .inl rfl, .inl rfl, (En.gd a).le hd, (En.gd b).le hd, by rw [eqD_en]; exact q⟩
/-- of any data without objects -/
theorem i_eqD {neg : Bool} {x y : D} (g1 : Gd 60 x) (g2 : Gd 60 y) (q : Q (.bl (if neg then !eqD x y else eqD x y)) h) : rEq neg x y h Q := .inr ⟨x, y, .inl rfl, .inl rfl, g1, g2, q⟩
theorem i_eqS {neg : Bool} {a b : Str} (q : Q (.bl (if neg then !decide (a = b) else decide (a = b))) h) : rEq neg (.str a) (.str b) h Q := .inl ⟨a, b, rfl, rfl, q⟩
theorem any_en {α : Type} [En α] [DecidableEq α] {xs : List α} {a : α} : ((xs.map en).any fun z => eqD z (en a)) = decide (a ∈ xs) := by
  induction xs with
  | nil => simp
  | cons x xs ih => rw [List.map_cons, List.any_cons, ih, eqD_en]; simp [eq_comm]
/-- name in tuple -/
theorem i_in {α : Type} [EnF α] [DecidableEq α] {neg : Bool} {a : α} {xs : List α} (q : Q (.bl (if neg then !decide (a ∈ xs) else decide (a ∈ xs))) h) : rIn neg (en a) (en xs) h Q := by
  show ∃ ys, seqD h (en xs) = some ys ∧ _ ∧ Q (.bl (if neg then !(ys.any fun z => eqD z (en a)) else ys.any fun z => eqD z (en a))) h
  refine ⟨_, rfl, .inl ⟨EnF.fl a, ?_⟩, ?_⟩
  · rw [List.all_eq_true]
    intro x hx
    obtain ⟨b, _, rfl⟩ := List.mem_map.mp hx
    exact EnF.fl b
  · rw [any_en]; exact q
theorem i_inV {α : Type} [EnF α] [DecidableEq α] {neg : Bool} {a : α} {xs : List α} (q : Q (.bl (if neg then !decide (a ∈ xs) else decide (a ∈ xs))) h) : rIn neg (en a) (.lv (xs.map en)) h Q := by
  show ∃ ys, seqD h (.lv (xs.map en)) = some ys ∧ _ ∧ Q (.bl (if neg then !(ys.any fun z => eqD z (en a)) else ys.any fun z => eqD z (en a))) h
  refine ⟨_, rfl, .inl ⟨EnF.fl a, ?_⟩, ?_⟩
  · rw [List.all_eq_true]
    intro x hx
    obtain ⟨b, _, rfl⟩ := List.mem_map.mp hx
    exact EnF.fl b
  · rw [any_en]; exact q
/-- any value in a list that is an object -/
theorem i_inOb {α : Type} [En α] [DecidableEq α] {neg : Bool} {a : α} {n : Nat} {xs : List α} (hd : dep α ≤ 50) (e : h[n]? = some (.lst (xs.map en))) (q : Q (.bl (if neg then !decide (a ∈ xs) else decide (a ∈ xs))) h) : rIn neg (en a) (.ob n) h Q := by
  have el : lstR h (.ob n) = some (xs.map en) := by show lstAt h n = _; unfold lstAt; rw [e]
  show ∃ ys, seqD h (.ob n) = some ys ∧ _ ∧ Q (.bl (if neg then !(ys.any fun z => eqD z (en a)) else ys.any fun z => eqD z (en a))) h
  refine ⟨_, el, .inr ⟨(En.gd a).le hd, fun z hz => ?_, el⟩, ?_⟩
  · obtain ⟨b, _, rfl⟩ := List.mem_map.mp hz
    exact (En.gd b).le hd
  · rw [any_en]; exact q
theorem i_inVd {α : Type} [En α] [DecidableEq α] {neg : Bool} {a : α} {xs : List α} (hd : dep α ≤ 50) (q : Q (.bl (if neg then !decide (a ∈ xs) else decide (a ∈ xs))) h) : rIn neg (en a) (.lv (xs.map en)) h Q := by
  show ∃ ys, seqD h (.lv (xs.map en)) = some ys ∧ _ ∧ Q (.bl (if neg then !(ys.any fun z => eqD z (en a)) else ys.any fun z => eqD z (en a))) h
  refine ⟨_, rfl, .inr ⟨(En.gd a).le hd, fun z hz => ?_, rfl⟩, ?_⟩
  · obtain ⟨b, _, rfl⟩ := List.mem_map.mp hz
    exact (En.gd b).le hd
  · rw [any_en]; exact q
/-- None or a value, in a written tuple -/
theorem i_inT {neg : Bool} {d : D} {xs : List D} (f1 : flat d = true) (f2 : xs.all flat = true) (q : Q (.bl (if neg then !(xs.any fun z => eqD z d) else xs.any fun z => eqD z d)) h) : rIn neg d (.tup xs) h Q := ⟨xs, rfl, .inl ⟨f1, f2⟩, q⟩
theorem i_repr {α : Type} [En α] {a : α} (W : Nat) (Ls : List Nat) (hs : Sz W Ls (en a)) (hw : szW W Ls ≤ 2 ^ 20) (hl : Ls.length ≤ 60) (q : Q (.str (shw (en a))) h) : rRepr [en a] h Q := ⟨en a, en a, W, Ls, rfl, .inl rfl, hs, hw, hl, q⟩
theorem i_reprD {a : D} (W : Nat) (Ls : List Nat) (hs : Sz W Ls a) (hw : szW W Ls ≤ 2 ^ 20) (hl : Ls.length ≤ 60) (q : Q (.str (shw a)) h) : rRepr [a] h Q := ⟨a, a, W, Ls, rfl, .inl rfl, hs, hw, hl, q⟩
theorem sz_list {α : Type} [En α] {W L : Nat} {Ls : List Nat} {xs : List α} (hl : xs.length ≤ L) (hx : ∀ x ∈ xs, Sz W Ls (en x)) : Sz W (L :: Ls) (en xs) :=
  ⟨by rw [List.length_map]; exact hl, fun d hd => by obtain ⟨x, hm, rfl⟩ := List.mem_map.mp hd; exact hx x hm⟩
theorem sz_lvL {α : Type} [En α] {W L : Nat} {Ls : List Nat} {xs : List α} (hl : xs.length ≤ L) (hx : ∀ x ∈ xs, Sz W Ls (en x)) : Sz W (L :: Ls) (.lv (xs.map en)) :=
  ⟨by rw [List.length_map]; exact hl, fun d hd => by obtain ⟨x, hm, rfl⟩ := List.mem_map.mp hd; exact hx x hm⟩
theorem sz_bl {W : Nat} {Ls : List Nat} {b : Bool} : Sz W Ls (.bl b) := by cases Ls <;> trivial
theorem sz_non {W : Nat} {Ls : List Nat} : Sz W Ls .non := by cases Ls <;> trivial
theorem sz_int {W : Nat} {Ls : List Nat} {i : Int} (h : i.natAbs < 10 ^ 12) : Sz W Ls (.int i) := by cases Ls <;> exact h
theorem sz_opt {W : Nat} {Ls : List Nat} {o : Option Nat} (h : ∀ k, o = some k → k < 10 ^ 12) : Sz W Ls (en o) := by
  cases o with
  | none => exact sz_non
  | some k => exact sz_int (by have := h k rfl; simpa using this)
theorem i_isN {α : Type} [En α] [EnN α] {neg : Bool} {a : Option α} (q : Q (.bl (if neg then a.isSome else a.isNone)) h) : isD neg (en a) .non h Q := by
  cases a with
  | none => cases neg <;> exact q
  | some a =>
    show Q (.bl (match (en a : D) with | .non => !neg | _ => neg)) h
    have e : (match (en a : D) with | .non => !neg | _ => neg) = neg := by
      have z := EnN.nn a
      cases e : (en a : D) with
      | non => rw [e] at z; exact absurd rfl z
      | _ => rfl
    rw [e]
    cases neg <;> exact q
end
def rPut (x y v : D) (h : MH) (K : MH → Prop) : Prop := ∃ n kvs k, x = .ob n ∧ h[n]? = some (.dic kvs) ∧ y = kD k ∧ kvs.length < sizeLine ∧ K (h.set n (.dic (putD kvs k v)))
theorem ev_dput {wo wi wv : DW} {E : EndsD} {env : Env} {h : MH} : sDPut wo wi wv E env h = wv env h fun v h1 => wo env h1 fun x h2 => wi env h2 fun y h3 => rPut x y v h3 fun h4 => E.nx env h4 := rfl
theorem ev_disp {ps : List (DW × DW)} {env : Env} {h : MH} {Q : DK} : wDisp ps env h Q = wPairs ps env h fun kvs h1 => ∃ kk : List (L2.Key × D), kvs = kk.map (fun kv => (kD kv.1, kv.2)) ∧ kk.length ≤ 15 ∧ Q (.ob h1.length) (h1 ++ [.dic (mergeD [] kk)]) := rfl
theorem ev_pr0 {env : Env} {h : MH} {K : List (D × D) → MH → Prop} : wPairs [] env h K = K [] h := rfl
theorem ev_pr1 {a b : DW} {r : List (DW × DW)} {env : Env} {h : MH} {K : List (D × D) → MH → Prop} : wPairs ((a, b) :: r) env h K = a env h fun x h1 => b env h1 fun y h2 => wPairs r env h2 fun ps h3 => K ((x, y) :: ps) h3 := rfl
/-! # the same as steps -/
theorem ev_par {a b : D} {P : D → D → Prop} : (∃ x y, [a, b] = [x, y] ∧ P x y) = P a b := propext ⟨fun ⟨_, _, z, p⟩ => by cases z; exact p, fun p => ⟨a, b, rfl, p⟩⟩
theorem ev_par3 {a b c : D} {P : D → D → D → Prop} : (∃ x y z, [a, b, c] = [x, y, z] ∧ P x y z) = P a b c := propext ⟨fun ⟨_, _, _, z, p⟩ => by cases z; exact p, fun p => ⟨a, b, c, rfl, p⟩⟩
theorem ev_neg {i : Int} {h : MH} {Q : DK} : rNeg (.int i) h Q = Q (.int (-i)) h := propext ⟨fun ⟨_, e, q⟩ => by cases e; exact q, fun q => ⟨i, rfl, q⟩⟩
theorem ev_slV {α : Type} [En α] {b : Bool} {xs : Lv α} {lo hi : Option Int} {h : MH} {Q : DK} : rSl b (en xs) lo hi h Q = qLst b (cutD (xs.l.map en) lo hi) h Q := propext ⟨fun ⟨_, e, q⟩ => by cases e; exact q, fun q => ⟨_, rfl, q⟩⟩
theorem ev_sl {α : Type} [En α] {b : Bool} {xs : List α} {lo hi : Option Int} {h : MH} {Q : DK} : rSl b (en xs) lo hi h Q = Q (.tup (cutD (xs.map en) lo hi)) h := rfl
theorem ev_slL {b : Bool} {xs : List D} {lo hi : Option Int} {h : MH} {Q : DK} : rSl b (.lv xs) lo hi h Q = qLst b (cutD xs lo hi) h Q := propext ⟨fun ⟨_, e, q⟩ => by cases e; exact q, fun q => ⟨_, rfl, q⟩⟩
theorem ev_slT {b : Bool} {xs : List D} {lo hi : Option Int} {h : MH} {Q : DK} : rSl b (.tup xs) lo hi h Q = Q (.tup (cutD xs lo hi)) h := rfl
theorem cut_tail (xs : List D) : cutD xs (some 1) none = xs.tail := by
  unfold cutD
  rw [HT.sIx_none]
  have e : HT.sIx xs.length 0 (some 1) = min 1 xs.length := HT.sIx_nat xs.length 0 1
  rw [e]
  cases xs with
  | nil => rfl
  | cons x xs =>
    rw [show min 1 (x :: xs).length = 1 from Nat.min_eq_left (by simp)]
    simp
theorem cut_nat (xs : List D) (i j : Nat) : cutD xs (some (i : Int)) (some (j : Int)) = (xs.drop i).take (j - i) := by
  unfold cutD
  rw [HT.sIx_nat, HT.sIx_nat]
  by_cases h1 : i ≤ xs.length
  · rw [Nat.min_eq_left h1]
    by_cases h2 : j ≤ xs.length
    · rw [Nat.min_eq_left h2]
    · rw [Nat.min_eq_right (by omega), List.take_of_length_le (by simp), List.take_of_length_le (by simp; omega)]
  · rw [Nat.min_eq_right (show xs.length ≤ i by omega), List.drop_of_length_le (Nat.le_refl _), List.drop_of_length_le (show xs.length ≤ i by omega)]
    simp
theorem cut_take (xs : List D) (j : Nat) : cutD xs none (some (j : Int)) = xs.take j := by
  unfold cutD
  rw [HT.sIx_none, HT.sIx_nat, List.drop_zero, Nat.sub_zero]
  by_cases h : j ≤ xs.length
  · rw [Nat.min_eq_left h]
  · rw [Nat.min_eq_right (by omega), List.take_of_length_le (Nat.le_refl _), List.take_of_length_le (by omega)]
theorem cut_drop (xs : List D) (j : Nat) : cutD xs (some (j : Int)) none = xs.drop j := by
  unfold cutD
  rw [HT.sIx_none, HT.sIx_nat]
  by_cases h : j ≤ xs.length
  · rw [Nat.min_eq_left h, List.take_of_length_le (by simp)]
  · rw [Nat.min_eq_right (by omega), List.drop_of_length_le (Nat.le_refl _), List.drop_of_length_le (by omega)]; simp
theorem zipSD_en {α β : Type} [En α] [En β] {h : MH} {d e : D} (a : List α) (b : List β) (hd : seqD h d = some (a.map en)) (he : seqD h e = some (b.map en)) (hl : a.length = b.length) : zipSD d e h = some ((a.zip b).map fun p => D.tup [en p.1, en p.2]) := by
  unfold zipSD
  rw [hd, he]
  simp only [List.length_map, hl, if_true]
  unfold zipL
  rw [List.zipWith_map, List.zip, List.map_zipWith]
instance {α : Type} [DecidableEq α] : DecidableEq (Lv α) := fun a b => decidable_of_iff (a.l = b.l) ⟨fun h => by cases a; cases b; cases h; rfl, fun h => by rw [h]⟩
theorem i_isi {h : MH} {d : D} {T t : String} {b : Bool} {Q : DK} (e : tyD h d = some t) (k : L2.kitB t T = some b) (q : Q (.bl b) h) : ∃ t b, tyD h d = some t ∧ L2.kitB t T = some b ∧ Q (.bl b) h := ⟨t, b, e, k, q⟩
theorem i_truB {h : MH} {a : Bool} {P : Bool → Prop} (q : P a) : ∃ b, truD h (.bl a) b ∧ P b := ⟨a, rfl, q⟩
theorem i_all {h : MH} {d : D} {bs : List Bool} {Q : DK} (e : lstR h d = some (bs.map D.bl)) (q : Q (.bl (bs.all id)) h) : rAllB [d] h Q := ⟨d, bs, rfl, e, q⟩
theorem kTT : L2.kitB "tuple" "tuple" = some true := by decide +kernel
theorem kLT : L2.kitB "list" "tuple" = some false := by decide +kernel
theorem kNT : L2.kitB "NoneType" "tuple" = some false := by decide +kernel
theorem kST : L2.kitB "str" "tuple" = some false := by decide +kernel
theorem kIT : L2.kitB "int" "tuple" = some false := by decide +kernel
theorem kSS : L2.kitB "str" "str" = some true := by decide +kernel
theorem kIS : L2.kitB "int" "str" = some false := by decide +kernel
theorem ev_addL {b : Bool} {xs ys : List D} {h : MH} {Q : DK} : rAdd b (.lv xs) (.lv ys) h Q = (xs.length + ys.length ≤ sizeLine ∧ qLst b (xs ++ ys) h Q) := propext ⟨fun ⟨_, _, e1, e2, q⟩ => by cases e1; cases e2; exact q, fun q => ⟨xs, ys, rfl, rfl, q⟩⟩
theorem ev_addT {b : Bool} {xs ys : List D} {h : MH} {Q : DK} : rAdd b (.tup xs) (.tup ys) h Q = (xs.length + ys.length ≤ sizeLine ∧ Q (.tup (xs ++ ys)) h) := rfl
theorem ev_addTe {α : Type} [En α] {b : Bool} {xs : List D} {ys : List α} {h : MH} {Q : DK} : rAdd b (.tup xs) (en ys) h Q = (xs.length + (ys.map en).length ≤ sizeLine ∧ Q (.tup (xs ++ ys.map en)) h) := rfl
theorem ev_addeT {α : Type} [En α] {b : Bool} {xs : List α} {ys : List D} {h : MH} {Q : DK} : rAdd b (en xs) (.tup ys) h Q = ((xs.map en).length + ys.length ≤ sizeLine ∧ Q (.tup (xs.map en ++ ys)) h) := rfl
theorem ev_addee {α β : Type} [En α] [En β] {b : Bool} {xs : List α} {ys : List β} {h : MH} {Q : DK} : rAdd b (en xs) (en ys) h Q = ((xs.map en).length + (ys.map en).length ≤ sizeLine ∧ Q (.tup (xs.map en ++ ys.map en)) h) := rfl
theorem ev_mulL {b : Bool} {xs : List D} {k : Int} {h : MH} {Q : DK} : rMul b (.lv xs) (.int k) h Q = (-(2 ^ 63) ≤ k ∧ k < 2 ^ 63 ∧ xs.length * k.toNat ≤ sizeLine ∧ qLst b (List.replicate k.toNat xs).flatten h Q) := propext ⟨fun ⟨_, _, e1, e2, q⟩ => by cases e1; cases e2; exact q, fun q => ⟨xs, k, rfl, rfl, q⟩⟩
theorem ev_mulT {b : Bool} {xs : List D} {k : Int} {h : MH} {Q : DK} : rMul b (.tup xs) (.int k) h Q = (xs ≠ [] ∧ 2 ≤ k ∧ k ≤ 1000 ∧ xs.length ≤ 1000 ∧ Q (.tup (List.replicate k.toNat xs).flatten) h) := rfl
theorem rep_one {α : Type} (n : Nat) (d : α) : (List.replicate n [d]).flatten = List.replicate n d := by
  induction n with
  | zero => rfl
  | succ n ih => rw [List.replicate_succ, List.flatten_cons, ih, List.replicate_succ]; rfl
theorem eqD_refl (d : D) : eqD d d = true := eqD_iff.mpr rfl
theorem ev_qF {xs : List D} {h : MH} {Q : DK} : qLst false xs h Q = Q (.lv xs) h := rfl
theorem ev_qT {xs : List D} {h : MH} {Q : DK} : qLst true xs h Q = Q (.ob h.length) (h ++ [.lst xs]) := rfl
theorem enumL_go {α : Type} [En α] (xs : List α) : ∀ n : Nat, (xs.map en).mapIdx (fun i x => D.tup [.int ((i + n : Nat) : Int), x]) = (xs.zipIdx n).map fun p => D.tup [.int (p.2 : Int), en p.1] := by
  induction xs with
  | nil => intro n; rfl
  | cons x xs ih =>
    intro n
    rw [List.map_cons, List.mapIdx_cons, List.zipIdx_cons, List.map_cons, ← ih (n + 1)]
    congr 1
    · simp
    · congr 1; funext i x; congr 3; omega
theorem enumL_map {α : Type} [En α] (xs : List α) : enumL (xs.map en) = xs.zipIdx.map fun p => D.tup [.int (p.2 : Int), en p.1] := enumL_go xs 0
theorem enumD_map {α : Type} [En α] {h : MH} (xs : List α) : enumD (en xs) h = some (xs.zipIdx.map fun p => D.tup [.int (p.2 : Int), en p.1]) := congrArg some (enumL_map xs)
theorem ap_get {α : Type} {a b : List α} {j : Nat} : (a ++ b)[a.length + j]? = b[j]? := by rw [List.getElem?_append_right (Nat.le_add_right _ _), Nat.add_sub_cancel_left]
theorem ap_get0 {α : Type} {a b : List α} : (a ++ b)[a.length]? = b[0]? := ap_get (j := 0)
theorem ap_set {α : Type} {a b : List α} {j : Nat} {v : α} : (a ++ b).set (a.length + j) v = a ++ b.set j v := by rw [List.set_append_right _ _ (Nat.le_add_right _ _), Nat.add_sub_cancel_left]
theorem ap_set0 {α : Type} {a b : List α} {v : α} : (a ++ b).set a.length v = a ++ b.set 0 v := ap_set (j := 0)
theorem rng0 (n : Nat) : rngL 0 ((n : Int).toNat) = (List.range n).map (fun i : Nat => (D.int (i : Int))) := by
  unfold rngL
  rw [Int.toNat_natCast]
  congr 1; funext i; congr 1; omega
theorem rng0' (n : Nat) : rngL 0 n = (List.range n).map (fun i : Nat => (D.int (i : Int))) := rng0 n
theorem eqD_str (a b : OkS) : eqD (en a) (en b) = decide (a = b) := eqD_en a b
/-- a list against another -/
theorem i_neL {α : Type} [En α] [DecidableEq α] {neg : Bool} {a b : List α} {h : MH} {Q : DK} (hd : dep α < 60) (q : Q (.bl (if neg then !decide (a = b) else decide (a = b))) h) : rEq neg (.lv (a.map en)) (.lv (b.map en)) h Q := by
  have z := i_eqD (neg := neg) (h := h) (Q := Q) (x := en (Lv.mk a)) (y := en (Lv.mk b)) ((En.gd _).le hd) ((En.gd _).le hd)
  refine z ?_
  have e : eqD (en (Lv.mk a)) (en (Lv.mk b)) = decide (a = b) := by
    by_cases h : a = b
    · subst h; rw [decide_eq_true rfl]; exact eqD_iff.mpr rfl
    · rw [decide_eq_false h]
      cases e : eqD (en (Lv.mk a)) (en (Lv.mk b)) with
      | false => rfl
      | true => exact absurd (Lv.mk.inj (En.inj _ _ (eqD_iff.mp e))) h
  rw [e]; exact q
theorem ok_list {h : MH} {n : Nat} {xs : List D} (e : h[n]? = some (.lst xs)) : Kd.ok h (.ob n) .list := ⟨xs, by show lstAt h n = some xs; unfold lstAt; rw [e]⟩
theorem i_app {h : MH} {n : Nat} {xs : List D} {y : D} {K : DK} (e : h[n]? = some (.lst xs)) (l : xs.length < sizeLine) (q : K .non (h.set n (.lst (xs ++ [y])))) : mAppend (.ob n) [y] h K := ⟨n, xs, y, rfl, rfl, e, l, q⟩
theorem i_ext {h : MH} {n : Nat} {xs ys : List D} {y : D} {K : DK} (e : h[n]? = some (.lst xs)) (ey : seqD h y = some ys) (ns : ∀ zs, y ≠ .scr zs) (l : xs.length + ys.length ≤ sizeLine) (q : K .non (h.set n (.lst (xs ++ ys)))) : mExtend (.ob n) [y] h K := ⟨n, xs, y, ys, rfl, rfl, e, ey, ns, l, q⟩
theorem seq_ob {h : MH} {n : Nat} {xs : List D} (e : h[n]? = some (.lst xs)) : seqD h (.ob n) = some xs := by show lstAt h n = some xs; unfold lstAt; rw [e]
theorem ixOb {h : MH} {n : Nat} {xs : List D} {i : Int} {d : D} {K : DK} (e : h[n]? = some (.lst xs)) (ed : L2.atI xs i = some d) (q : K d h) : rIx (.ob n) (.int i) h K := ⟨xs, i, d, seq_ob e, rfl, ed, q⟩
theorem i_lenOb {h : MH} {n : Nat} {xs : List D} {K : DK} (e : h[n]? = some (.lst xs)) (q : K (.int xs.length) h) : rLen [.ob n] h K := ⟨xs, seq_ob e, q⟩
theorem ixN_nat {n k : Nat} (h : k < n) : L2.ixN n (k : Int) = some k := by
  unfold L2.ixN
  rw [if_pos (by omega), if_pos (by omega)]; rfl
theorem i_setOb {h : MH} {n k : Nat} {xs : List D} {v : D} {K : MH → Prop} (e : h[n]? = some (.lst xs)) (hk : k < xs.length) (q : K (h.set n (.lst (xs.set k v)))) : rSetL (.ob n) (.int (k : Int)) v h K := ⟨n, xs, k, k, rfl, rfl, e, ixN_nat hk, q⟩
theorem at_last {α : Type} {xs : List α} {x : α} : L2.atI (xs ++ [x]) (-1) = some x := by
  unfold L2.atI L2.ixN
  rw [if_neg (by decide), if_pos (by rw [List.length_append]; simp; omega)]
  have e : ((-1 : Int) + ((xs ++ [x]).length : Nat)).toNat = xs.length := by rw [List.length_append]; simp; omega
  show (xs ++ [x])[((-1 : Int) + ((xs ++ [x]).length : Nat)).toNat]? = some x
  rw [e]; simp
theorem fz_ob {k n : Nat} {h : MH} {m : Nat} {xs ys : List D} (hm : n ≤ m) (e : h[m]? = some (.lst xs)) (ey : mapO (fz k n h) xs = some ys) : fz (k + 1) n h (.ob m) = some (.lv ys) := by
  have e2 : lstAt h m = some xs := by unfold lstAt; rw [e]
  rw [fz, if_neg (by omega), e2]
  show (mapO (fz k n h) xs).map D.lv = _
  rw [ey]; rfl
theorem mapO_some {α β : Type} {f : α → Option β} {g : α → β} : ∀ {xs : List α}, (∀ x ∈ xs, f x = some (g x)) → mapO f xs = some (xs.map g)
  | [], _ => rfl
  | x :: xs, h => by
    have e1 := h x List.mem_cons_self
    have e2 := mapO_some (xs := xs) fun y hy => h y (List.mem_cons_of_mem _ hy)
    unfold mapO
    rw [e1, e2]; rfl
theorem mapO_map {α β γ : Type} {f : β → Option γ} {e : α → β} {g : α → γ} {xs : List α} (h : ∀ x ∈ xs, f (e x) = some (g x)) : mapO f (xs.map e) = some (xs.map g) := by
  induction xs with
  | nil => rfl
  | cons x xs ih =>
    have e1 := h x List.mem_cons_self
    have e2 := ih fun y hy => h y (List.mem_cons_of_mem _ hy)
    show mapO f (e x :: xs.map e) = some (g x :: xs.map g)
    unfold mapO
    rw [e1, e2]
theorem fz_en {α : Type} [En α] {k n : Nat} {h : MH} (hd : dep α ≤ k) (a : α) : fz k n h (en a) = some (en a) := fz_pure ((En.gd a).le hd)
theorem seqD_en {α : Type} [En α] {h : MH} (xs : List α) : seqD h (en xs) = some (xs.map en) := rfl

theorem qv {b : Bool} {xs : List D} {h : MH} {Q : DK} (hb : b = false) (q : Q (.lv xs) h) : qLst b xs h Q := by subst hb; exact q
end DL
namespace DL
open PySem PySem.Spec PyProof.Rows L2
/-! # zip that ends with the shorter one -/
section
variable {prog : Program} {w : World} {A : Around} {E : Value → Shared → Prop} {s : Shared} {z TI TO i1 i2 : Addr} {fp1 fp2 : List Addr} {n1 n2 i : Nat} {P1 P2 : Nat → Value → Prop} {St1 St2 : Nat → Heap → Prop} {a1 a2 : Value}
theorem znNext_end {Q : Fin → Shared → Prop} (S : ZipSep2 z TI TO i1 i2 fp1 fp2) (D1 : Draws prog w A i1 fp1 n1 P1 St1) (D2 : Draws prog w A i2 fp2 n2 P2 St2)
    (en : Ended prog w A i1 (St1 i) ∨ (i < n1 ∧ Ended prog w A i2 (St2 i)))
    (hz : IsZip s.heap z TI TO .none) (hTI : IsTupOf2 s.heap TI (.ref i1) (.ref i2)) (hTO : IsTupOf2 s.heap TO a1 a2) (st1 : St1 i s.heap) (st2 : St2 i s.heap)
    (hE : ∀ h' tk e, (∀ c o, c ≠ z → c ≠ TO → c ≠ i1 → c ≠ i2 → s.heap.get? c = some o → h'.get? c = some o) → (∃ o, h'.get? e = some o ∧ o.cls = .type "StopIteration") → E (.ref e) { s with heap := h', toks := tk }) :
    wpAny (model prog w) A (Builtin.«zip.__next__» ⟨[.ref z], []⟩) Q E s := by
  obtain ⟨hp, g, d, tk0, os⟩ := s
  show wpAny _ _ (field (.ref z) 2 >>= _) _ _ _
  refine wpAny_bind (wpAny_field hz rfl (x := .bool false) rfl ?_); show wpAny _ _ (field (.ref z) 3 >>= _) _ _ _
  refine wpAny_bind (wpAny_field hz rfl (x := .ref TI) rfl (wpAny_bind (wpAny_seqItems hTI rfl ?_)))
  show wpAny _ _ (Builtin.SmallTypes.ownedTupleIsFree (.ref z) >>= _) _ _ _
  refine wpAny_bind ?_; unfold Builtin.SmallTypes.ownedTupleIsFree
  refine wpAny_bind (wpAny_field hz rfl (x := .none) rfl (wpAny_pure ?_)); simp only [if_true]
  refine wpAny_bind (wpAny_rule (wpAny_bind (wpAny_field hz rfl (x := .ref TO) rfl (wpAny_bind (wpAny_setField_rec hz (by simp) fun g0 hz0 hs0 => ?_)))))
  replace hz0 : IsZip g0 z TI TO .ellipsis := hz0; replace hs0 : Heap.SameBut z hp g0 := hs0
  refine wpAny_bind ?_; simp only [List.zipIdx_cons, List.zipIdx_nil, List.forIn_cons, List.forIn_nil]
  refine wpAny_bind (wpAny_bind (wpAny_onRaise ?_))
  show wpAny _ _ (Builtin.SmallTypes.nextOf (.ref i1) >>= _) _ _ ⟨g0, g, d, tk0, os⟩
  rcases en with e1 | ⟨lt1, e2⟩
  · refine wpAny_bind (e1 ⟨g0, g, d, tk0, os⟩ _ _ (D1.over st1 hs0 S.zf1) fun q e hq he => ?_)
    replace hq : Heap.ExtBut i1 g0 q := hq
    obtain ⟨oe, hoe, hce⟩ := he
    replace hoe : q.get? e = some oe := hoe
    have hzq : IsZip q z TI TO .ellipsis := hq _ _ S.zi1 hz0
    have hez : e ≠ z := fun x => by subst x; rw [hzq] at hoe; cases hoe; simp at hce
    refine wpAny_setField_rec (s := ⟨q, g, d, tk0, os⟩) hzq (by simp) fun q1 _ hq1 => ?_
    replace hq1 : Heap.SameBut z q q1 := hq1
    exact hE q1 tk0 e (fun c o cz cT c1 c2 x => hq1.extBut _ _ cz (hq _ _ c1 (hs0.extBut _ _ cz x))) ⟨oe, hq1.extBut _ _ hez hoe, hce⟩
  · refine wpAny_bind (D1.item i _ _ _ lt1 (D1.over st1 hs0 S.zf1) fun x1 p1 tk1 hx1 sn1 hp1 => wpAny_pure ?_)
    replace hp1 : Heap.SameBut i1 g0 p1 := hp1
    have hU1 : IsTupOf2 p1 TO a1 a2 := hp1.extBut _ _ S.Ti1 (hs0.extBut _ _ S.TOz hTO)
    refine wpAny_bind (wpAny_seqItems (s := ⟨p1, g, d, tk1, os⟩) hU1 rfl (wpAny_bind (updateSeq_IsTupOf2 (s := ⟨p1, g, d, tk1, os⟩) hU1 fun g1 hT1 hs1 => ?_)))
    replace hs1 : Heap.SameBut TO p1 g1 := hs1
    refine wpAny_bind (wpAny_letGo (wpAny_pure (wpAny_bind (wpAny_bind (wpAny_onRaise ?_)))))
    show wpAny _ _ (Builtin.SmallTypes.nextOf (.ref i2) >>= _) _ _ ⟨g1, g, d, tk1, os⟩
    refine wpAny_bind (e2 ⟨g1, g, d, tk1, os⟩ _ _ (D2.over (D2.over (D2.over st2 hs0 S.zf2) hp1 S.sep1_2) hs1 S.Tf2) fun q e hq he => ?_)
    replace hq : Heap.ExtBut i2 g1 q := hq
    obtain ⟨oe, hoe, hce⟩ := he
    replace hoe : q.get? e = some oe := hoe
    have hzq : IsZip q z TI TO .ellipsis := hq _ _ S.zi2 (hs1.extBut _ _ S.TOz.symm (hp1.extBut _ _ S.zi1 hz0))
    have hez : e ≠ z := fun x => by subst x; rw [hzq] at hoe; cases hoe; simp at hce
    refine wpAny_setField_rec (s := ⟨q, g, d, tk1, os⟩) hzq (by simp) fun q1 _ hq1 => ?_
    replace hq1 : Heap.SameBut z q q1 := hq1
    exact hE q1 tk1 e (fun c o cz cT c1 c2 x => hq1.extBut _ _ cz (hq _ _ c2 (hs1.extBut _ _ cT (hp1.extBut _ _ c1 (hs0.extBut _ _ cz x))))) ⟨oe, hq1.extBut _ _ hez hoe, hce⟩
theorem zn_end {Q : Option Value → Shared → Prop} (S : ZipSep2 z TI TO i1 i2 fp1 fp2) (D1 : Draws prog w A.in1 i1 fp1 n1 P1 St1) (D2 : Draws prog w A.in1 i2 fp2 n2 P2 St2)
    (en : Ended prog w A.in1 i1 (St1 i) ∨ (i < n1 ∧ Ended prog w A.in1 i2 (St2 i)))
    (hz : IsZip s.heap z TI TO .none) (hTI : IsTupOf2 s.heap TI (.ref i1) (.ref i2)) (hTO : IsTupOf2 s.heap TO a1 a2) (st1 : St1 i s.heap) (st2 : St2 i s.heap)
    (hQ : ∀ h' tk, (∀ c o, c ≠ z → c ≠ TO → c ≠ i1 → c ≠ i2 → s.heap.get? c = some o → h'.get? c = some o) → Q none { s with heap := h', toks := tk }) : wpAny (model prog w) A (pyNext (.ref z)) Q E s := by
  have hT : s.TypeIs (.ref z) "zip" := ⟨_, hz, rfl⟩
  unfold pyNext
  refine wpAny_bind (wpAny_attempt (wpAny_callSpecial?_slot (name := Str.ofString "__next__") hT F.slot_zip_next (wpAny_call_entry F.slot_zip_next hT F.entry_zip_next (znNext_end S D1 D2 en hz hTI hTO st1 st2 fun h' tk e hk he => ?_) (F.args_zip_next_1 _))))
  obtain ⟨o, ho, hc⟩ := he
  exact wpAny_bind (wpAny_isInstance (T := "StopIteration") (b := true) ⟨o, ho, hc⟩ isSubtype_stop (wpAny_pure (hQ _ _ hk)))
end
/-- both as they stand at each turn; the end with the shorter one -/
def ItzN (K : PySem.W.Frag) (b1 b2 : Bool) (a c : Addr) : It where
  go := fun i H => ∃ (xs ys : List V) (x y : V), SqB K b1 H a xs ∧ SqB K b2 H c ys ∧ xs[i]? = some x ∧ ys[i]? = some y
  yld := fun i H v H' => ∃ T x y, v = .ref T ∧ H T = none ∧ H' = upd H T (.tup [x, y]) ∧ (∀ xs, SqB K b1 H a xs → xs[i]? = some x) ∧ ∀ ys, SqB K b2 H c ys → ys[i]? = some y
  stop := fun i H => ∃ xs ys : List V, SqB K b1 H a xs ∧ SqB K b2 H c ys ∧ (xs.length ≤ i ∨ ys.length ≤ i)
theorem turn_zipN {P : Program} {w : World} {K : PySem.W.Frag} {elts : List Expr} {kk : Nat} {tpos : Pos} {b1 b2 : Bool} {a c z TI TO i1 i2 : Addr} (D : ZipSep2 z TI TO i1 i2 [i1, a] [i2, c]) (n1 : a ≠ i1) (n2 : c ≠ i2) :
    Turn P w K (.Tuple elts kk tpos) (ItzN K b1 b2 a c) [z, TI, TO, i1, i2] z (fun i h => IsZip h z TI TO .none ∧ IsTupOf2 h TI (.ref i1) (.ref i2) ∧ (∃ x y, IsTupOf2 h TO x y) ∧ ItB b1 h i1 a i ∧ ItB b2 h i2 c i) where
  mem := by simp
  obj := fun i h st b hb => by
    obtain ⟨hz, hTI, ⟨x, y, hTO⟩, h1, h2⟩ := st
    rcases (by simpa using hb : b = z ∨ b = TI ∨ b = TO ∨ b = i1 ∨ b = i2) with q | q | q | q | q <;> subst q
    · exact ⟨_, hz, fun v q => nomatch q⟩
    · exact ⟨_, hTI, fun v q => nomatch q⟩
    · exact ⟨_, hTO, fun v q => nomatch q⟩
    · exact h1.lt
    · exact h2.lt
  keep := fun i h h' st k => by
    obtain ⟨hz, hTI, ⟨x, y, hTO⟩, h1, h2⟩ := st
    exact ⟨k z (by simp) _ hz, k TI (by simp) _ hTI, ⟨x, y, k TO (by simp) _ hTO⟩, h1.keep fun o q => k i1 (by simp) o q, h2.keep fun o q => k i2 (by simp) o q⟩
  item := by
    intro X hP hw hK hc i pins s σ H E I hf st hg
    subst hP hw hK
    obtain ⟨hz, hTI, ⟨x0, y0, hTO⟩, h1, h2⟩ := st
    obtain ⟨xs, ys, x, y, q1, q2, hx, hy⟩ := hg
    obtain ⟨its, rv, p, _⟩ := SqB.get b1 I q1
    obtain ⟨its2, rv2, p2, _⟩ := SqB.get b2 I q2
    obtain ⟨u, hu, ru⟩ := rv.get hx
    obtain ⟨u2, hu2, ru2⟩ := rv2.get hy
    have zl : z < s.heap.objs.size := Heap.lt_size hz
    have l1 : i < its.toArray.size := by simpa using (List.getElem?_eq_some_iff.mp hu).1
    have l2 : i < its2.toArray.size := by simpa using (List.getElem?_eq_some_iff.mp hu2).1
    refine wpAny_pyNext_zipD2_item D (drawsB (A := X.A.in1) (I.ok.hd hc) b1 i1 a n1 its.toArray) (drawsB (A := X.A.in1) (I.ok.hd hc) b2 i2 c n2 its2.toArray) hz hTI hTO ⟨h1, p⟩ ⟨h2, p2⟩ l1 l2 fun v1 v2 h' tk e1 e2 z' TO' t1 t2 hT hsz hk => ?_
    have ev1 : v1 = u := by
      have e : its.toArray[i]? = some u := by simpa using hu
      rw [e] at e1; cases e1; rfl
    have ev2 : v2 = u2 := by
      have e : its2.toArray[i]? = some u2 := by simpa using hu2
      rw [e] at e2; cases e2; rfl
    subst ev1 ev2
    refine ⟨_, rfl, wpAny_letOwnedTupleGo_zip (s := { s with heap := h', toks := tk }) z' fun h'' z'' sb => ?_⟩
    have hT2 : h''.get? s.heap.objs.size = some { cls := .type "tuple", data := .seq #[v1, v2] } := (sb.2 _ (Nat.ne_of_gt zl)).trans hT
    have new : ObjOk X.prog X.w (upd H s.heap.objs.size (.tup [x, y])) h'' s.heap.objs.size (.tup [x, y]) := ⟨(by decide : 2 ≤ sizeLine), [v1, v2], .cons ru (.cons ru2 .nil), ⟨_, hT2, rfl, _, rfl⟩⟩
    have I1 : Inv X pins σ (upd H s.heap.objs.size (.tup [x, y])) { s with heap := h'', toks := tk } := by
      refine I.turnedNew (ch := [z, TI, TO, i1, i2]) (fun b o hb q => ?_) hf (Nat.le_refl _) new
      have m : b ≠ z ∧ b ≠ TI ∧ b ≠ TO ∧ b ≠ i1 ∧ b ≠ i2 := by simpa using hb
      exact (sb.2 b m.1).trans (hk b o m.1 m.2.2.1 m.2.2.2.1 m.2.2.2.2 q)
    refine ⟨.ref s.heap.objs.size, _, I1, rfl, ⟨_, x, y, rfl, I.hok.fresh (Nat.le_refl _), rfl, fun l hl => by rw [SqB.inj b1 I hl q1]; exact hx, fun l hl => by rw [SqB.inj b2 I hl q2]; exact hy⟩, ⟨z'', (sb.2 _ D.TIz).trans (hk _ _ D.TIz D.TITO D.TIi1 D.TIi2 hTI), ⟨v1, v2, (sb.2 _ D.TOz).trans TO'⟩, t1.1.keep fun o q => (sb.2 _ D.zi1.symm).trans q, t2.1.keep fun o q => (sb.2 _ D.zi2.symm).trans q⟩, fun b hb => ?_⟩
    have hlt : b < s.heap.objs.size := by
      rcases (by simpa using hb : b = z ∨ b = TI ∨ b = TO ∨ b = i1 ∨ b = i2) with q | q | q | q | q <;> subst q
      · exact zl
      · exact Heap.lt_size hTI
      · exact Heap.lt_size hTO
      · obtain ⟨_, e, _⟩ := h1.lt; exact Heap.lt_size e
      · obtain ⟨_, e, _⟩ := h2.lt; exact Heap.lt_size e
    rw [upd_ne (Nat.ne_of_lt hlt)]
    exact (hf b hb).1
  done := by
    intro X hP hw hK hc i pins s σ H E I hf st hg
    subst hP hw hK
    obtain ⟨hz, hTI, ⟨x0, y0, hTO⟩, h1, h2⟩ := st
    obtain ⟨xs, ys, q1, q2, g12⟩ := hg
    obtain ⟨its, rv, p, _⟩ := SqB.get b1 I q1
    obtain ⟨its2, rv2, p2, _⟩ := SqB.get b2 I q2
    have l1 := rv.length
    have l2 := rv2.length
    have en : Ended X.prog X.w X.A.in1 i1 (fun h => ItB b1 h i1 a i ∧ CtB b1 h a its.toArray) ∨ (i < its.toArray.size ∧ Ended X.prog X.w X.A.in1 i2 (fun h => ItB b2 h i2 c i ∧ CtB b2 h c its2.toArray)) := by
      by_cases hl : its.toArray.size ≤ i
      · exact .inl (endedB (A := X.A.in1) (I.ok.hd hc) b1 i1 a its.toArray i hl)
      · have hl2 : ¬ xs.length ≤ i := by rw [l1]; simpa using hl
        have hl3 : its2.toArray.size ≤ i := by
          rcases g12 with z | z
          · exact absurd z hl2
          · rw [l2] at z; simpa using z
        exact .inr ⟨by omega, endedB (A := X.A.in1) (I.ok.hd hc) b2 i2 c its2.toArray i hl3⟩
    refine zn_end D (drawsB (A := X.A.in1) (I.ok.hd hc) b1 i1 a n1 its.toArray) (drawsB (A := X.A.in1) (I.ok.hd hc) b2 i2 c n2 its2.toArray) en hz hTI hTO ⟨h1, p⟩ ⟨h2, p2⟩ fun h' tk hk => ⟨rfl, I.turnedL (t' := tk) (ch := [z, TI, TO, i1, i2]) (fun b o hb q => ?_) hf⟩
    have m : b ≠ z ∧ b ≠ TI ∧ b ≠ TO ∧ b ≠ i1 ∧ b ≠ i2 := by simpa using hb
    exact hk b o m.1 m.2.2.1 m.2.2.2.1 m.2.2.2.2 q
  self := fun A i s Q E st h => wpAny_pyIter_zip st.1 h

def zipND (d e : D) : DIt := fun h => match seqD h d, seqD h e with
  | some xs, some ys => some (zipL xs ys)
  | _, _ => none
def wZipN (ws : DA) : DI := fun env h Q => ws env h fun ds h1 => ∃ d e, ds = [d, e] ∧ (∃ xs, zipND d e h1 = some xs) ∧ Q (zipND d e) h1
theorem zipND_some {d e : D} {h : MH} {zs : List D} (q : zipND d e h = some zs) : ∃ xs ys, seqD h d = some xs ∧ seqD h e = some ys ∧ zs = zipL xs ys := by
  unfold zipND at q
  split at q
  · cases q; exact ⟨_, _, by assumption, by assumption, rfl⟩
  · cases q
section
variable {K : PySem.W.Frag} {μ : Wd} {H : Hp}
theorem j_zipN {d e : D} {b1 b2 : Bool} {a c : Addr}
    (r1 : ∀ (h1 : MH) (μ1 : Wd) (H1 : Hp) (ys : List D), Ext μ H μ1 H1 → SimH K h1 μ1 H1 → seqD h1 d = some ys → ∃ vs, SqB K b1 H1 a vs ∧ RDs K μ1 H1 ys vs)
    (r2 : ∀ (h1 : MH) (μ1 : Wd) (H1 : Hp) (ys : List D), Ext μ H μ1 H1 → SimH K h1 μ1 H1 → seqD h1 e = some ys → ∃ vs, SqB K b2 H1 c vs ∧ RDs K μ1 H1 ys vs) : JRel K μ H (ItzN K b1 b2 a c) (zipND d e) where
  stop := fun i h1 μ1 H1 zs x s q hl => by
    obtain ⟨xs, ys, e1, e2, rfl⟩ := zipND_some q
    obtain ⟨vs, p1, p2⟩ := r1 h1 μ1 H1 xs x s e1
    obtain ⟨ws, q1, q2⟩ := r2 h1 μ1 H1 ys x s e2
    have l1 := p2.length
    have l2 := q2.length
    unfold zipL at hl
    rw [List.length_zipWith] at hl
    exact ⟨vs, ws, p1, q1, by omega⟩
  item := fun i h1 μ1 H1 zs d1 x s q hi => by
    obtain ⟨xs, ys, e1, e2, rfl⟩ := zipND_some q
    obtain ⟨vs, p1, p2⟩ := r1 h1 μ1 H1 xs x s e1
    obtain ⟨ws, q1, q2⟩ := r2 h1 μ1 H1 ys x s e2
    unfold zipL at hi
    obtain ⟨x0, y0, hx0, hy0, rfl⟩ := List.getElem?_zipWith_eq_some.mp hi
    obtain ⟨v, hv, rv⟩ := p2.get hx0
    obtain ⟨u, hu, ru⟩ := q2.get hy0
    refine ⟨⟨vs, ws, v, u, p1, q1, hv, hu⟩, fun zz H' ⟨T, v', u', ez, hT, eH, f1, f2⟩ => ?_⟩
    subst ez; subst eH
    have k1 := f1 vs p1
    have k2 := f2 ws q1
    rw [hv] at k1; cases k1
    rw [hu] at k2; cases k2
    exact pair_new s hT rv ru
end
abbrev kwF : List (Str × Value) := [(Str.ofString "strict", .bool false)]
theorem tc_zipF (a b : Value) : checkTypeCall "zip" ⟨[a, b], kwF⟩ = pure () := by kernel_rfl
theorem nc_zipF (a b : Value) : checkBuiltinCall "zip.__new__" ⟨[.type "zip", a, b], kwF⟩ = pure () := by kernel_rfl
theorem oi_zipF (obj a b : Value) : argsOk "object.__init__" ⟨[obj, a, b], kwF⟩ := by unfold argsOk; kernel_rfl
abbrev sfT (h : Heap) (o1 o2 : Obj) : Heap := ((h.push o1).push o2).push { cls := .type "tuple", data := .seq #[.ref h.objs.size, .ref (h.push o1).objs.size] }
abbrev sfO (h : Heap) (o1 o2 : Obj) : Heap := (sfT h o1 o2).push { cls := .type "tuple", data := .seq #[.none, .none] }
abbrev sfZ (h : Heap) (o1 o2 : Obj) : Heap := (sfO h o1 o2).push { cls := .type "zip", data := .fields #[.none, .bool false, .bool false, .ref ((h.push o1).push o2).objs.size, .ref (sfT h o1 o2).objs.size] }
theorem meets_zipF {v1 v2 : Value} {o1 o2 : Obj} {H1 H2 : Heap → Prop} (B1 : Begins v1 o1 H1) (B2 : Begins v2 o2 H2) :
    Meets (Builtin.«zip.__new__» ⟨[.type "zip", v1, v2], kwF⟩) (fun _ R s => (H1 s.heap ∧ H2 s.heap) ∧ R (.ok (.ret (.ref (sfO s.heap o1 o2).objs.size))) { s with heap := sfZ s.heap o1 o2 }) :=
  .of_wp fun prog w A R s h => by
    obtain ⟨hp, g, d, tk, os⟩ := s
    obtain ⟨⟨h1, h2⟩, h⟩ := h
    have hsub := sub_zip
    have it1 : ∀ {A' : Around} {E Q : Value → Shared → Prop}, Q (.ref hp.objs.size) ⟨hp.push o1, g, d, tk, os⟩ → wpAny (model prog w) A' (pyIter v1) Q E ⟨hp, g, d, tk, os⟩ := fun q => B1.iter prog w _ _ ⟨hp, g, d, tk, os⟩ _ h1 q
    have it2 : ∀ {A' : Around} {E Q : Value → Shared → Prop}, Q (.ref (hp.push o1).objs.size) ⟨(hp.push o1).push o2, g, d, tk, os⟩ → wpAny (model prog w) A' (pyIter v2) Q E ⟨hp.push o1, g, d, tk, os⟩ := fun q => B2.iter prog w _ _ ⟨hp.push o1, g, d, tk, os⟩ _ (B2.keeps _ _ h2 fun b o' e => Heap.get?_push_of_some _ e) q
    wp_walk using it1, it2
    exact ⟨_, rfl, h⟩
section
variable {prog : Program} {w : World} {A : Around} {E : Value → Shared → Prop} {s : Shared}
theorem init_zipF {self a b : Value} : Meets (Builtin.«object.__init__» ⟨[self, a, b], kwF⟩) (fun _ R s => s.TypeIs self "zip" ∧ R (.ok (.ret .none)) s) := by
  refine Meets.of_wp fun prog w A R s hs => ?_
  obtain ⟨hT, hq⟩ := hs
  have e1 := F.called_zip.init.lookup
  have e2 := F.called_zip.made
  repeat (any_goals (first | assumption | wp_step))
  exact ⟨_, rfl, hq⟩
theorem call_zipF {v1 v2 : Value} {o1 o2 : Obj} {H1 H2 : Heap → Prop} {Q : Value → Shared → Prop} (B1 : Begins v1 o1 H1) (B2 : Begins v2 o2 H2) (h1 : H1 s.heap) (h2 : H2 s.heap)
    (hq : ∀ h', IsZip h' (s.heap.objs.size + 4) (s.heap.objs.size + 2) (s.heap.objs.size + 3) .none → IsTupOf2 h' (s.heap.objs.size + 2) (.ref s.heap.objs.size) (.ref (s.heap.objs.size + 1)) →
      IsTupOf2 h' (s.heap.objs.size + 3) .none .none → h'.get? s.heap.objs.size = some o1 → h'.get? (s.heap.objs.size + 1) = some o2 →
      (∀ c o, s.heap.get? c = some o → h'.get? c = some o) → Q (.ref (s.heap.objs.size + 4)) { s with heap := h' }) : wpAny (model prog w) A (call (.type "zip") [v1, v2] kwF) Q E s := by
  have ft := F.called_zip
  obtain ⟨c, tl, hmro⟩ := ft.mro
  have hmade := ft.made
  have hsub := ft.sub
  have hct := tc_zipF v1 v2
  refine wpAny_call (codeAny_of_tree ?_)
  show wpAny _ _ (callAny (.type "zip") _) _ _ _
  refine wpAny_pure ⟨Code.quiet_builtin _ (by decide +kernel), codeAny_builtin F.entry_type_call ?_⟩
  rw [Around.under_plain (weight_type_call_type "zip" [v1, v2] kwF) (units_type_call_type "zip" [v1, v2] kwF)]
  have n1 := ft.notType
  have n2 := ft.canCreate
  repeat (any_goals (first | assumption | wp_step))
  refine codeAny_mono (codeAny_call_builtin ft.plain F.entry_zip_new (wpAny_of_eq (nc_zipF v1 v2) (meets_zipF B1 B2 prog w A.in1 (wants (fun obj s1 => s1.TypeIs obj "zip" ∧ Q obj s1) E) s ⟨⟨h1, h2⟩, ?_⟩))) fun r s1 hr => ?_
  · have z1 : (s.heap.push o1).objs.size = s.heap.objs.size + 1 := Heap.size_push ..
    have z2 : ((s.heap.push o1).push o2).objs.size = s.heap.objs.size + 2 := by rw [Heap.size_push, z1]
    have z3 : (sfT s.heap o1 o2).objs.size = s.heap.objs.size + 3 := by rw [Heap.size_push, z2]
    have z4 : (sfO s.heap o1 o2).objs.size = s.heap.objs.size + 4 := by rw [Heap.size_push, z3]
    have gZ : (sfZ s.heap o1 o2).get? (sfO s.heap o1 o2).objs.size = some { cls := .type "zip", data := .fields #[.none, .bool false, .bool false, .ref ((s.heap.push o1).push o2).objs.size, .ref (sfT s.heap o1 o2).objs.size] } := Heap.get?_push_size _ rfl
    have up1 : ∀ {c : Addr} {o : Obj}, (sfO s.heap o1 o2).get? c = some o → (sfZ s.heap o1 o2).get? c = some o := fun e => Heap.get?_push_of_some _ e
    have up2 : ∀ {c : Addr} {o : Obj}, (sfT s.heap o1 o2).get? c = some o → (sfZ s.heap o1 o2).get? c = some o := fun e => up1 (Heap.get?_push_of_some _ e)
    have up3 : ∀ {c : Addr} {o : Obj}, ((s.heap.push o1).push o2).get? c = some o → (sfZ s.heap o1 o2).get? c = some o := fun e => up2 (Heap.get?_push_of_some _ e)
    have gO : (sfZ s.heap o1 o2).get? (sfT s.heap o1 o2).objs.size = some { cls := .type "tuple", data := .seq #[.none, .none] } := up1 (Heap.get?_push_size _ rfl)
    have gT : (sfZ s.heap o1 o2).get? ((s.heap.push o1).push o2).objs.size = some { cls := .type "tuple", data := .seq #[.ref s.heap.objs.size, .ref (s.heap.push o1).objs.size] } := up2 (Heap.get?_push_size _ rfl)
    have g2 : (sfZ s.heap o1 o2).get? (s.heap.push o1).objs.size = some o2 := up3 (Heap.get?_push_size _ B2.free)
    have g1 : (sfZ s.heap o1 o2).get? s.heap.objs.size = some o1 := up3 (Heap.get?_push_of_some _ (Heap.get?_push_size _ B1.free))
    rw [z4, z3, z2] at gZ
    rw [z3] at gO
    rw [z2, z1] at gT
    rw [z1] at g2
    show _ ∧ _
    rw [z4]
    exact ⟨⟨_, gZ, rfl⟩, hq _ gZ gT gO g1 g2 fun c o e => up3 (Heap.get?_push_of_some _ (Heap.get?_push_of_some _ e))⟩
  · cases r with
    | error e => exact hr
    | ok fl =>
      cases fl with
      | ret obj =>
        obtain ⟨hT, hq2⟩ := hr
        have l1 := ft.init.lookup
        have l2 := ft.init.bind obj
        repeat (any_goals (first | assumption | wp_step))
        refine codeAny_mono (codeAny_call_builtin ft.init.plain F.entry_object_init (ft.init.check _ _ _ _ _ _ _ _ hT (oi_zipF obj v1 v2) (init_zipF prog w A.in1 (wants (fun r s2 => r = .none ∧ Q obj s2) E) s1 ⟨hT, rfl, hq2⟩))) fun r2 s2 hr2 => ?_
        cases r2 with
        | error e => exact hr2
        | ok fl2 =>
          cases fl2 with
          | ret r =>
            obtain ⟨rfl, q3⟩ := hr2
            repeat (any_goals (first | assumption | wp_step))
          | _ => exact hr2.elim
      | _ => exact hr.elim
end
section
variable {X : Cx}
theorem di_zipF {e1 e2 ek : Expr} {ws : DA} {p pos tpos kpos : Pos} {elts : List Expr} {kk : Nat} (hg : Gl X "zip") (hm : X.mg "zip" = none) (ha : PDA X [e1, e2] ws) (hk : PD X ek (wC (.bl false)))
    (hs : backTo pos (starEach [e1, e2] X.env) = (false, eval e1 X.env) :: backTo pos (starEach [e2] X.env) := by rfl) (hp : (backTo pos (starEach [e1, e2] X.env)).any (·.1) = false := by rfl) :
    PDI X (.Tuple elts kk tpos) (.Call (.Name "zip" p) [e1, e2] [⟨some "strict", ek, kpos⟩] pos) (wZipN ws) := by
  refine ⟨fun pins s σ H R I q => ?_⟩
  obtain ⟨env, h, μ, P, S, pw, l⟩ := q
  have rdy : rdA X.K ws σ H (fun vs H' => ∃ d e h' μ' v u, vs = [v, u] ∧ ((∃ xs, zipND d e h' = some xs) ∧ P (zipND d e) h') ∧ Ext μ H μ' H' ∧ Sm X.K env h' μ' σ H' ∧ RD X.K μ' H' d v ∧ RD X.K μ' H' e u) := by
    refine ⟨env, h, μ, fun ds h' => ∃ d e, ds = [d, e] ∧ ((∃ xs, zipND d e h' = some xs) ∧ P (zipND d e) h'), S, pw, ?_⟩
    rintro ds h' vs μ' H' ⟨d, e, ed, pp⟩ x s r
    subst ed
    cases r with
    | cons r1 r2 =>
      cases r2 with
      | cons r2 r3 =>
        cases r3
        exact ⟨d, e, h', μ', _, _, rfl, pp, x, ⟨S.re.mono x, s⟩, r1, r2⟩
  refine wpAny_Call_Name_kw (ld_blt I hg hm boot_zip (callWith_kwT (he := hs) (hp := hp) (thn (ha.run pos pins s σ H _ I rdy) fun us s1 ⟨vs, H1, I1, r1, d, e, h1, μ1, v, u, ev, ⟨⟨zs, ez⟩, pp⟩, x1, S1, rd1, rd2⟩ => ?_)))
  subst ev
  obtain ⟨xs, ys, q1, q2, rfl⟩ := zipND_some ez
  obtain ⟨b1, a, rfl, z1⟩ := rdSeqB S1.sh rd1 q1
  obtain ⟨b2, c, rfl, z2⟩ := rdSeqB S1.sh rd2 q2
  refine kws_cons (thn (hk.run pins s1 σ H1 _ I1 ⟨env, h1, μ1, fun d h => d = .bl false ∧ h = h1, S1, ⟨rfl, rfl⟩, LkE.refl⟩) fun kv s2 ⟨kx, H2, I2, rk, kd, h2, μ2, ⟨ekd, eh2⟩, x2, s2', rk2⟩ => kws_nil ?_)
  subst ekd eh2
  cases rk2
  cases rk
  have zz1 := z1 _ μ2 H2 xs x2 s2' q1
  have zz2 := z2 _ μ2 H2 ys x2 s2' q2
  obtain ⟨vs, y1, y2⟩ := zz1
  obtain ⟨us, y3, y4⟩ := zz2
  obtain ⟨its, rv, p1, _, la⟩ := SqB.get b1 I2 y1
  obtain ⟨its2, rv2, p2, _, lc⟩ := SqB.get b2 I2 y3
  cases r1 with
  | cons ra r1 =>
  cases r1 with
  | cons rb r1 =>
  cases r1
  cases ra
  cases rb
  have D := zip_sep2 (N := s2.heap.objs.size) (fp1 := [a]) (fp2 := [c]) (fun b hb => by rw [List.mem_singleton.mp hb]; exact la) (fun b hb => by rw [List.mem_singleton.mp hb]; exact lc)
  refine call_zipF (beginsB b1 a its.toArray) (beginsB b2 c its2.toArray) p1 p2 fun h' hz hTI hTO hi1 hi2 hk => wpAny_pyIter_zip hz ?_
  have I3 : L2.Inv X pins σ H2 { s2 with heap := h' } := I2.kept (t' := s2.toks) hk
  refine ⟨s2.heap.objs.size + 4, [s2.heap.objs.size + 4, s2.heap.objs.size + 2, s2.heap.objs.size + 3, s2.heap.objs.size, s2.heap.objs.size + 1], _, _, H2, rfl, I3, turn_zipN (b1 := b1) (b2 := b2) D (Nat.ne_of_lt la) (Nat.ne_of_lt (Nat.lt_succ_of_lt lc)), ⟨hz, hTI, ⟨_, _, hTO⟩, .new hi1, .new hi2⟩, fun b hb => ?_, ?_⟩
  · have hle : s2.heap.objs.size ≤ b := by
      rcases (by simpa using hb : b = s2.heap.objs.size + 4 ∨ b = s2.heap.objs.size + 2 ∨ b = s2.heap.objs.size + 3 ∨ b = s2.heap.objs.size ∨ b = s2.heap.objs.size + 1) with z | z | z | z | z <;> rw [z] <;> first | exact Nat.le_add_right _ _ | exact Nat.le_refl _
    exact I2.fpOk hle (I2.hok.fresh hle)
  · exact l _ _ μ2 H2 _ pp (x1.trans x2) s2' (j_zipN (fun h1 μ3 H3 zs x s e => z1 h1 μ3 H3 zs (x2.trans x) s e) (fun h1 μ3 H3 zs x s e => z2 h1 μ3 H3 zs (x2.trans x) s e))

theorem di_zipN {e1 e2 : Expr} {ws : DA} {p pos tpos : Pos} {elts : List Expr} {kk : Nat} (hg : Gl X "zip") (hm : X.mg "zip" = none) (ha : PDA X [e1, e2] ws)
    (hs : starEach [e1, e2] X.env = (false, eval e1 X.env) :: starEach [e2] X.env := by rfl) (hp : (backTo pos (starEach [e2] X.env)).any (·.1) = false := by rfl) :
    PDI X (.Tuple elts kk tpos) (.Call (.Name "zip" p) [e1, e2] [] pos) (wZipN ws) := by
  refine ⟨fun pins s σ H R I q => ?_⟩
  obtain ⟨env, h, μ, P, S, pw, l⟩ := q
  have rdy : rdA X.K ws σ H (fun vs H' => ∃ d e h' μ' v u, vs = [v, u] ∧ ((∃ xs, zipND d e h' = some xs) ∧ P (zipND d e) h') ∧ Ext μ H μ' H' ∧ Sm X.K env h' μ' σ H' ∧ RD X.K μ' H' d v ∧ RD X.K μ' H' e u) := by
    refine ⟨env, h, μ, fun ds h' => ∃ d e, ds = [d, e] ∧ ((∃ xs, zipND d e h' = some xs) ∧ P (zipND d e) h'), S, pw, ?_⟩
    rintro ds h' vs μ' H' ⟨d, e, ed, pp⟩ x s r
    subst ed
    cases r with
    | cons r1 r2 =>
      cases r2 with
      | cons r2 r3 =>
        cases r3
        exact ⟨d, e, h', μ', _, _, rfl, pp, x, ⟨S.re.mono x, s⟩, r1, r2⟩
  refine Call_ (ld_blt I hg hm boot_zip (PyProof.Rows.callWith_type1 (thn (ha.run pos pins s σ H _ I rdy) fun us s2 ⟨vs, H2, I2, r1, d, e, h2, μ2, v, u, ev, ⟨⟨zs, ez⟩, pp⟩, x1, S1, rd1, rd2⟩ => ?_) hs hp))
  subst ev
  obtain ⟨xs, ys, q1, q2, rfl⟩ := zipND_some ez
  obtain ⟨b1, a, rfl, z1⟩ := rdSeqB S1.sh rd1 q1
  obtain ⟨b2, c, rfl, z2⟩ := rdSeqB S1.sh rd2 q2
  have x2 := Ext.refl μ2 H2
  have s2' := S1.sh
  have zz1 := z1 _ μ2 H2 xs x2 s2' q1
  have zz2 := z2 _ μ2 H2 ys x2 s2' q2
  obtain ⟨vs, y1, y2⟩ := zz1
  obtain ⟨us, y3, y4⟩ := zz2
  obtain ⟨its, rv, p1, _, la⟩ := SqB.get b1 I2 y1
  obtain ⟨its2, rv2, p2, _, lc⟩ := SqB.get b2 I2 y3
  cases r1 with
  | cons ra r1 =>
  cases r1 with
  | cons rb r1 =>
  cases r1
  cases ra
  cases rb
  have D := zip_sep2 (N := s2.heap.objs.size) (fp1 := [a]) (fp2 := [c]) (fun b hb => by rw [List.mem_singleton.mp hb]; exact la) (fun b hb => by rw [List.mem_singleton.mp hb]; exact lc)
  refine zip_begins2 (beginsB b1 a its.toArray) (beginsB b2 c its2.toArray) p1 p2 fun h' hz hTI hTO hi1 hi2 _ hk => wpAny_pyIter_zip hz ?_
  have I3 : L2.Inv X pins σ H2 { s2 with heap := h' } := I2.kept (t' := s2.toks) hk
  refine ⟨s2.heap.objs.size + 4, [s2.heap.objs.size + 4, s2.heap.objs.size + 2, s2.heap.objs.size + 3, s2.heap.objs.size, s2.heap.objs.size + 1], _, _, H2, rfl, I3, turn_zipN (b1 := b1) (b2 := b2) D (Nat.ne_of_lt la) (Nat.ne_of_lt (Nat.lt_succ_of_lt lc)), ⟨hz, hTI, ⟨_, _, hTO⟩, .new hi1, .new hi2⟩, fun b hb => ?_, ?_⟩
  · have hle : s2.heap.objs.size ≤ b := by
      rcases (by simpa using hb : b = s2.heap.objs.size + 4 ∨ b = s2.heap.objs.size + 2 ∨ b = s2.heap.objs.size + 3 ∨ b = s2.heap.objs.size ∨ b = s2.heap.objs.size + 1) with z | z | z | z | z <;> rw [z] <;> first | exact Nat.le_add_right _ _ | exact Nat.le_refl _
    exact I2.fpOk hle (I2.hok.fresh hle)
  · exact l _ _ μ2 H2 _ pp (x1.trans x2) s2' (j_zipN (fun h1 μ3 H3 zs x s e => z1 h1 μ3 H3 zs (x2.trans x) s e) (fun h1 μ3 H3 zs x s e => z2 h1 μ3 H3 zs (x2.trans x) s e))

end
end DL
namespace DL
open PySem PySem.Spec PyProof.Rows L2
open En (en dep)
theorem zipND_en {α β : Type} [En α] [En β] {h : MH} {d e : D} (a : List α) (b : List β) (hd : seqD h d = some (a.map en)) (he : seqD h e = some (b.map en)) : zipND d e h = some ((a.zip b).map fun p => D.tup [en p.1, en p.2]) := by
  unfold zipND
  rw [hd, he]
  simp only [zipL]
  rw [List.zipWith_map, List.zip, List.map_zipWith]
end DL
namespace Lw
open PySem PySem.Spec PyProof.Rows L2 DL
def top (i : Nat) : Stmt := PySem.Challenge.pw_leastteams_k08_told_rows_by_own_exchange.main.body.getD i (.Pass ⟨0, 0, 0, 0⟩)
abbrev s__law_source : Stmt := top 15
theorem sc__law_source : FnScope ["script", "mixed", "cell"] ["script"] (defScope s__law_source) := ⟨rfl, rfl, rfl, by decide +kernel, rfl, by decide +kernel, by decide +kernel⟩
noncomputable def T__law_source_1 : DS := (sAsg (wC (.int 11)) (gNm 1))
noncomputable def T__law_source_2 : DS := (sFor (wIt (fun d h => seqD h d) (wVar 0)) (gNm 2) (sAsg (wOp rMod (wCall rToInt (wCons (wOp (rAdd false) (wOp (rAdd false) (wOp (rMul false) (wVar 1) (wC (.int 69069))) (wOp (rMul false) (wVar 2) (wC (.int 31)))) (wC (.int 5))) wNil)) (wC (.int 2147483629))) (gNm 1)))
noncomputable def T__law_source_3 : DS := (sRet (wDisp [((wC (.str "cells")), (wRev true (wLc false (wIt (fun d h => seqD h d) (wVar 0)) (gNm 2) wYes (wCall rAbs (wCons (wVar 2) wNil)) [2]))), ((wC (.str "left")), (wC (.int 1))), ((wC (.str "mixed")), (wVar 1)), ((wC (.str "turn")), (wC (.int 0)))]))
noncomputable def R__law_source_2 : DS := (sSeq T__law_source_2 T__law_source_3)
noncomputable def B__law_source : DS := (sSeq T__law_source_1 R__law_source_2)
noncomputable def S__law_source : List D → MH → DK → Prop := fnK 1 3 B__law_source
theorem ok__law_source {P : Program} {w : World} {K : PySem.W.Frag} {mg : Str → Option Value} {base : Heap} {f : Addr} {fd : FuncData} (DD : DefAt K mg "_law_source" s__law_source ["script"] f fd) (b_int : mg "int" = none) (b_abs : mg "abs" = none) : FnG P w K mg base 1 f fd ["script"] S__law_source := by
  have nd := (sc__law_source).nd
  exact fnG_ofK (k := 0) DD.fn sc__law_source rfl rfl fun cdv A outer s H E c =>
    (ds_cons (ds_set 1 nd rfl (Or.inl rfl) pd_int)
    (ds_cons (ds_for PassesOwn.never rfl (di_seq (pd_var 0 (pv 0))) (dg_name 2 (pg_name (i := 2) nd rfl (Or.inl rfl))) (ds_one (ds_set 1 nd rfl (Or.inl rfl) (pd_op od_mod (pd_callTy cd_int (by rfl) b_int bt_int (pda_cons (pd_op (od_add false) (pd_op (od_add false) (pd_op (od_mul false) (pd_var 1 (pv 1)) pd_int) (pd_op (od_mul false) (pd_var 2 (pv 2)) pd_int)) pd_int) pda_nil)) pd_int))))
    (ds_one (ds_ret (pd_disp (ps := [((wC (.str "cells")), (wRev true (wLc false (wIt (fun d h => seqD h d) (wVar 0)) (gNm 2) wYes (wCall rAbs (wCons (wVar 2) wNil)) [2]))), ((wC (.str "left")), (wC (.int 1))), ((wC (.str "mixed")), (wVar 1)), ((wC (.str "turn")), (wC (.int 0)))]) (pe_disp (pps_cons pd_str (pd_rev true (pd_lc false (own := [("cell", 2)]) rfl nd (di_seq (pd_var 0 (pv 0))) (blkOk_by (own := [("cell", 2)]) (N := ["script", "mixed", "cell"]) (sc := (defScope s__law_source)) (by decide +kernel)) (by decide) (fun _ _ _ _ _ => (dg_name 2 (pg_name (i := 2) nd rfl (Or.inl rfl)))) (fun _ _ _ _ _ => dts_nil) (fun _ _ _ _ _ => (pd_callB cd_abs (by rfl) b_abs bt_abs (pda_cons (pd_var 2 (pv 2)) pda_nil))))) (pps_cons pd_str pd_int (pps_cons pd_str (pd_var 1 (pv 1)) (pps_cons pd_str pd_int pps_nil)))) (by rfl) (by rfl) (fun z => by cases z) (by decide)))))))
abbrev s__law_pick : Stmt := top 16
theorem sc__law_pick : FnScope ["source", "many", "left", "mixed"] ["source", "many"] (defScope s__law_pick) := ⟨rfl, rfl, rfl, by decide +kernel, rfl, by decide +kernel, by decide +kernel⟩
noncomputable def T__law_pick_1 : DS := (sDPut (wVar 0) (wC (.str "left")) (wOp rFdiv (wVar 2) (wCall rMax2 (wCons (wC (.int 1)) (wCons (wVar 1) wNil)))))
noncomputable def T__law_pick_2 : DS := (sRet (wOp rMod (wCall rToInt (wCons (wVar 2) wNil)) (wCall rMax2 (wCons (wC (.int 1)) (wCons (wVar 1) wNil)))))
noncomputable def T__law_pick_3 : DS := (sWhl (wAndT (wT (wOp rGt (wVar 1) (wC (.int 1)))) (wAndT (wT (wOp rLt (wOp rDG (wVar 0) (wC (.str "left"))) (wC (.int 2)))) (wT (wOp rGt (wCall rLen (wCons (wOp rDG (wVar 0) (wC (.str "cells"))) wNil)) (wC (.int 0)))))) (sDPut (wVar 0) (wC (.str "left")) (wMt0 .list mPop (wOp rDG (wVar 0) (wC (.str "cells"))))))
noncomputable def T__law_pick_4 : DS := (sAsg (wOp rDG (wVar 0) (wC (.str "left"))) (gNm 2))
noncomputable def T__law_pick_5 : DS := (sIf (wOrT (wT (wOp rLt (wVar 1) (wC (.int 2)))) (wT (wOp rGt (wVar 2) (wC (.int 1))))) (sSeq T__law_pick_1 T__law_pick_2) sNil)
noncomputable def T__law_pick_6 : DS := (sDPut (wVar 0) (wC (.str "turn")) (wOp (rAdd false) (wOp rDG (wVar 0) (wC (.str "turn"))) (wC (.int 1))))
noncomputable def T__law_pick_7 : DS := (sAsg (wOp rMod (wCall rToInt (wCons (wOp (rAdd false) (wOp rDG (wVar 0) (wC (.str "mixed"))) (wOp (rMul false) (wOp rDG (wVar 0) (wC (.str "turn"))) (wC (.int 104729)))) wNil)) (wC (.int 998244353))) (gNm 3))
noncomputable def T__law_pick_8 : DS := (sAsg (wOp rMod (wCall rToInt (wCons (wOp (rAdd false) (wOp (rMul false) (wVar 3) (wVar 3)) (wOp (rMul false) (wOp rDG (wVar 0) (wC (.str "turn"))) (wC (.int 17)))) wNil)) (wC (.int 2147483647))) (gNm 3))
noncomputable def T__law_pick_9 : DS := (sDPut (wVar 0) (wC (.str "mixed")) (wVar 3))
noncomputable def T__law_pick_10 : DS := (sRet (wOp rMod (wCall rToInt (wCons (wOp rFdiv (wVar 3) (wC (.int 16))) wNil)) (wVar 1)))
noncomputable def R__law_pick_9 : DS := (sSeq T__law_pick_9 T__law_pick_10)
noncomputable def R__law_pick_8 : DS := (sSeq T__law_pick_8 R__law_pick_9)
noncomputable def R__law_pick_7 : DS := (sSeq T__law_pick_7 R__law_pick_8)
noncomputable def R__law_pick_6 : DS := (sSeq T__law_pick_6 R__law_pick_7)
noncomputable def R__law_pick_5 : DS := (sSeq T__law_pick_5 R__law_pick_6)
noncomputable def R__law_pick_4 : DS := (sSeq T__law_pick_4 R__law_pick_5)
noncomputable def B__law_pick : DS := (sSeq T__law_pick_3 R__law_pick_4)
noncomputable def S__law_pick : List D → MH → DK → Prop := fnS 2 4 B__law_pick
theorem ok__law_pick {P : Program} {w : World} {K : PySem.W.Frag} {mg : Str → Option Value} {base : Heap} {f : Addr} {fd : FuncData} (DD : DefAt K mg "_law_pick" s__law_pick ["source", "many"] f fd) (b_len : mg "len" = none) (b_max : mg "max" = none) (b_int : mg "int" = none) : FnG P w K mg base 1 f fd ["source", "many"] S__law_pick := by
  have nd := (sc__law_pick).nd
  exact fnG_of (k := 0) DD.fn sc__law_pick rfl rfl fun cdv A outer s H E c =>
    (ds_cons (ds_while PassesOwn.never (dt_bo (dw_and (dt_cmp od_gt (pd_var 1 (pv 1)) pd_int (nomark _)) (dw_and (dt_cmp od_lt (pd_dget c.hu1 (pd_var 0 (pv 0)) pd_str (fun _ _ => rfl)) pd_int (nomark _)) (dw_and1 (dt_cmp od_gt (pd_callB cd_len (by rfl) b_len bt_len (pda_cons (pd_dget c.hu1 (pd_var 0 (pv 0)) pd_str (fun _ _ => rfl)) pda_nil)) pd_int (nomark _)))))) (ds_one (ds_dput (ps_dput c.hu1 (pd_var 0 (pv 0)) pd_str (pd_mt0 .list PySem.F.plainAttrs_list PySem.F.slot_list_pop PySem.F.type_list_pop md_pop (pd_dget c.hu1 (pd_var 0 (pv 0)) pd_str (fun _ _ => rfl)) (pe_bm0 PySem.F.plainAttrs_list PySem.F.slot_list_pop PySem.F.type_list_pop md_pop (pd_dget c.hu1 (pd_var 0 (pv 0)) pd_str (fun _ _ => rfl)))) rfl))))
    (ds_cons (ds_set 2 nd rfl (Or.inl rfl) (pd_dget c.hu1 (pd_var 0 (pv 0)) pd_str (fun _ _ => rfl)))
    (ds_cons (ds_if (dt_bo (dw_or (dt_cmp od_lt (pd_var 1 (pv 1)) pd_int (nomark _)) (dw_or1 (dt_cmp od_gt (pd_var 2 (pv 2)) pd_int (nomark _))))) (ds_cons (ds_dput (ps_dput c.hu1 (pd_var 0 (pv 0)) pd_str (pd_op od_fdiv (pd_var 2 (pv 2)) (pd_callB (cd_max2 rfl) (by rfl) b_max bt_max (pda_cons pd_int (pda_cons (pd_var 1 (pv 1)) pda_nil)))) rfl))
    (ds_one (ds_ret (pd_op od_mod (pd_callTy cd_int (by rfl) b_int bt_int (pda_cons (pd_var 2 (pv 2)) pda_nil)) (pd_callB (cd_max2 rfl) (by rfl) b_max bt_max (pda_cons pd_int (pda_cons (pd_var 1 (pv 1)) pda_nil))))))) ds_nil)
    (ds_cons (ds_dput (ps_dput c.hu1 (pd_var 0 (pv 0)) pd_str (pd_op (od_add false) (pd_dget c.hu1 (pd_var 0 (pv 0)) pd_str (fun _ _ => rfl)) pd_int) rfl))
    (ds_cons (ds_set 3 nd rfl (Or.inl rfl) (pd_op od_mod (pd_callTy cd_int (by rfl) b_int bt_int (pda_cons (pd_op (od_add false) (pd_dget c.hu1 (pd_var 0 (pv 0)) pd_str (fun _ _ => rfl)) (pd_op (od_mul false) (pd_dget c.hu1 (pd_var 0 (pv 0)) pd_str (fun _ _ => rfl)) pd_int)) pda_nil)) pd_int))
    (ds_cons (ds_set 3 nd rfl (Or.inl rfl) (pd_op od_mod (pd_callTy cd_int (by rfl) b_int bt_int (pda_cons (pd_op (od_add false) (pd_op (od_mul false) (pd_var 3 (pv 3)) (pd_var 3 (pv 3))) (pd_op (od_mul false) (pd_dget c.hu1 (pd_var 0 (pv 0)) pd_str (fun _ _ => rfl)) pd_int)) pda_nil)) pd_int))
    (ds_cons (ds_dput (ps_dput c.hu1 (pd_var 0 (pv 0)) pd_str (pd_var 3 (pv 3)) rfl))
    (ds_one (ds_ret (pd_op od_mod (pd_callTy cd_int (by rfl) b_int bt_int (pda_cons (pd_op od_fdiv (pd_var 3 (pv 3)) pd_int) pda_nil)) (pd_var 1 (pv 1))))))))))))
abbrev s__law_of : Stmt := top 17
theorem sc__law_of : FnScope ["source", "some"] ["source", "some"] (defScope s__law_of) := ⟨rfl, rfl, rfl, by decide +kernel, rfl, by decide +kernel, by decide +kernel⟩
noncomputable def B__law_of : DS := (sRet (wOp rIx (wVar 1) (wCall S__law_pick (wCons (wVar 0) (wCons (wCall rLen (wCons (wVar 1) wNil)) wNil)))))
noncomputable def S__law_of : List D → MH → DK → Prop := fnS 2 2 B__law_of
theorem ok__law_of {P : Program} {w : World} {K : PySem.W.Frag} {mg : Str → Option Value} {base : Heap} {f : Addr} {fd : FuncData} (DD : DefAt K mg "_law_of" s__law_of ["source", "some"] f fd) (b_len : mg "len" = none) {f__law_pick : Addr} {fd__law_pick : FuncData} (D__law_pick : DefAt K mg "_law_pick" s__law_pick ["source", "many"] f__law_pick fd__law_pick) (F__law_pick : FnG P w K mg base 1 f__law_pick fd__law_pick ["source", "many"] S__law_pick) : FnG P w K mg base 2 f fd ["source", "some"] S__law_of := by
  have nd := (sc__law_of).nd
  exact fnG_of (k := 1) DD.fn sc__law_of rfl rfl fun cdv A outer s H E c =>
    (ds_one (ds_ret (pd_ix xd_seq (pd_var 1 (pv 1)) (pd_call F__law_pick c.guards (c.room.mono (by decide)) (by rfl) D__law_pick.at_ D__law_pick.fn.kp D__law_pick.bd (pda_cons (pd_var 0 (pv 0)) (pda_cons (pd_callB cd_len (by rfl) b_len bt_len (pda_cons (pd_var 1 (pv 1)) pda_nil)) pda_nil))) (fun _ _ => rfl))))
abbrev s__law_hands : Stmt := top 18
theorem sc__law_hands : FnScope ["source", "rest", "owns", "hand", "many", "public"] ["source"] (defScope s__law_hands) := ⟨rfl, rfl, rfl, by decide +kernel, rfl, by decide +kernel, by decide +kernel⟩
noncomputable def T__law_hands_1 : DS := (sAsg (wCall rMin2 (wCons (wCall rLen (wCons (wVar 1) wNil)) (wCons (wCall S__law_of (wCons (wVar 0) (wCons (wLst false (wCons (wC (.int 0)) (wCons (wC (.int 1)) (wCons (wC (.int 1)) (wCons (wC (.int 2)) wNil))))) wNil))) wNil))) (gNm 4))
noncomputable def T__law_hands_2 : DS := (sExp (wMt .list mAppend (wVar 2) (wCons (wCall rTuple (wCons (wSl false (wVar 1) wNo (wPart (wVar 4))) wNil)) wNil)))
noncomputable def T__law_hands_3 : DS := (sAsg (wSl false (wVar 1) (wPart (wVar 4)) wNo) (gNm 1))
noncomputable def R__law_hands_2 : DS := (sSeq T__law_hands_2 T__law_hands_3)
noncomputable def T__law_hands_4 : DS := (sPar 1 2 (wCons (wLst false (wCons (wC (.str "a")) (wCons (wC (.str "b")) (wCons (wC (.str "c")) (wCons (wC (.str "d")) wNil))))) (wCons (wLst true wNil) wNil)))
noncomputable def T__law_hands_5 : DS := (sFor (wRng1 (wCons (wOp (rAdd false) (wC (.int 2)) (wCall S__law_pick (wCons (wVar 0) (wCons (wC (.int 2)) wNil)))) wNil)) (gNm 3) (sSeq T__law_hands_1 R__law_hands_2))
noncomputable def T__law_hands_6 : DS := (sAsg (wCall S__law_of (wCons (wVar 0) (wCons (wLst false (wCons (wTup wNil) (wCons (wTup (wCons (wC (.str "p")) wNil)) (wCons (wTup (wCons (wC (.str "p")) wNil)) (wCons (wTup (wCons (wC (.str "p")) (wCons (wC (.str "q")) wNil))) wNil))))) wNil))) (gNm 5))
noncomputable def T__law_hands_7 : DS := (sIf (wAndT (wT (wOp (rEq false) (wVar 5) (wTup wNil))) (wT (wOp (rIn false) (wC (.str "a")) (wVar 1)))) (sAsg (wTup (wCons (wC (.str "a")) wNil)) (gSb (wVar 2) (wC (.int 0)) rSetL)) sNil)
noncomputable def T__law_hands_8 : DS := (sRet (wTup (wCons (wCall rTuple (wCons (wVar 2) wNil)) (wCons (wVar 5) wNil))))
noncomputable def R__law_hands_7 : DS := (sSeq T__law_hands_7 T__law_hands_8)
noncomputable def R__law_hands_6 : DS := (sSeq T__law_hands_6 R__law_hands_7)
noncomputable def R__law_hands_5 : DS := (sSeq T__law_hands_5 R__law_hands_6)
noncomputable def B__law_hands : DS := (sSeq T__law_hands_4 R__law_hands_5)
noncomputable def S__law_hands : List D → MH → DK → Prop := fnS 1 6 B__law_hands
theorem ok__law_hands {P : Program} {w : World} {K : PySem.W.Frag} {mg : Str → Option Value} {base : Heap} {f : Addr} {fd : FuncData} (DD : DefAt K mg "_law_hands" s__law_hands ["source"] f fd) (b_range : mg "range" = none) (b_len : mg "len" = none) (b_min : mg "min" = none) (b_tuple : mg "tuple" = none) {f__law_pick : Addr} {fd__law_pick : FuncData} (D__law_pick : DefAt K mg "_law_pick" s__law_pick ["source", "many"] f__law_pick fd__law_pick) (F__law_pick : FnG P w K mg base 1 f__law_pick fd__law_pick ["source", "many"] S__law_pick) {f__law_of : Addr} {fd__law_of : FuncData} (D__law_of : DefAt K mg "_law_of" s__law_of ["source", "some"] f__law_of fd__law_of) (F__law_of : FnG P w K mg base 2 f__law_of fd__law_of ["source", "some"] S__law_of) : FnG P w K mg base 3 f fd ["source"] S__law_hands := by
  have nd := (sc__law_hands).nd
  exact fnG_of (k := 2) DD.fn sc__law_hands rfl rfl fun cdv A outer s H E c =>
    (ds_cons (ds_par 1 2 rfl nd rfl rfl (by decide) rfl rfl (pda_cons (pd_lst false (pda_cons pd_str (pda_cons pd_str (pda_cons pd_str (pda_cons pd_str pda_nil))))) (pda_cons (pd_lst true pda_nil) pda_nil)) rfl)
    (ds_cons (ds_for PassesOwn.never rfl (di_rng1 (by rfl) b_range (pda_cons (pd_op (od_add false) pd_int (pd_call F__law_pick c.guards (c.room.mono (by decide)) (by rfl) D__law_pick.at_ D__law_pick.fn.kp D__law_pick.bd (pda_cons (pd_var 0 (pv 0)) (pda_cons pd_int pda_nil)))) pda_nil)) (dg_name 3 (pg_name (i := 3) nd rfl (Or.inl rfl))) (ds_cons (ds_set 4 nd rfl (Or.inl rfl) (pd_callB (cd_min2 rfl) (by rfl) b_min bt_min (pda_cons (pd_callB cd_len (by rfl) b_len bt_len (pda_cons (pd_var 1 (pv 1)) pda_nil)) (pda_cons (pd_call F__law_of c.guards (c.room.mono (by decide)) (by rfl) D__law_of.at_ D__law_of.fn.kp D__law_of.bd (pda_cons (pd_var 0 (pv 0)) (pda_cons (pd_lst false (pda_cons pd_int (pda_cons pd_int (pda_cons pd_int (pda_cons pd_int pda_nil))))) pda_nil))) pda_nil))))
    (ds_cons (ds_expr (pd_mt .list PySem.F.plainAttrs_list PySem.F.slot_list_append PySem.F.type_list_append md_append (pd_var 2 (pv 2)) (pda_cons (pd_callTy cd_tuple (by rfl) b_tuple bt_tuple (pda_cons (pd_slice false (pd_var 1 (pv 1)) pdo_none (pdo_some (pd_var 4 (pv 4))) (pe_slice (sd_seq false) (pd_var 1 (pv 1)) pdo_none (pdo_some (pd_var 4 (pv 4))))) pda_nil)) pda_nil) (pe_bm PySem.F.plainAttrs_list PySem.F.slot_list_append PySem.F.type_list_append md_append (pd_var 2 (pv 2)) (pda_cons (pd_callTy cd_tuple (by rfl) b_tuple bt_tuple (pda_cons (pd_slice false (pd_var 1 (pv 1)) pdo_none (pdo_some (pd_var 4 (pv 4))) (pe_slice (sd_seq false) (pd_var 1 (pv 1)) pdo_none (pdo_some (pd_var 4 (pv 4))))) pda_nil)) pda_nil))))
    (ds_one (ds_set 1 nd rfl (Or.inl rfl) (pd_slice false (pd_var 1 (pv 1)) (pdo_some (pd_var 4 (pv 4))) pdo_none (pe_slice (sd_seq false) (pd_var 1 (pv 1)) (pdo_some (pd_var 4 (pv 4))) pdo_none)))))))
    (ds_cons (ds_set 5 nd rfl (Or.inl rfl) (pd_call F__law_of c.guards (c.room.mono (by decide)) (by rfl) D__law_of.at_ D__law_of.fn.kp D__law_of.bd (pda_cons (pd_var 0 (pv 0)) (pda_cons (pd_lst false (pda_cons (pd_tup pda_nil) (pda_cons (pd_tup (pda_cons pd_str pda_nil)) (pda_cons (pd_tup (pda_cons pd_str pda_nil)) (pda_cons (pd_tup (pda_cons pd_str (pda_cons pd_str pda_nil))) pda_nil))))) pda_nil))))
    (ds_cons (ds_if (dt_bo (dw_and (dt_cmp (od_eq c.hu64) (pd_var 5 (pv 5)) (pd_tup pda_nil) (nomark _)) (dw_and1 (dt_cmp (od_in c.hu65) pd_str (pd_var 1 (pv 1)) rfl)))) (ds_one (ds_asg (pd_tup (pda_cons pd_str pda_nil)) (dg_sub (pg_sub (pd_var 2 (pv 2)) pd_int sd_list)))) ds_nil)
    (ds_one (ds_ret (pd_tup (pda_cons (pd_callTy cd_tuple (by rfl) b_tuple bt_tuple (pda_cons (pd_var 2 (pv 2)) pda_nil)) (pda_cons (pd_var 5 (pv 5)) pda_nil)))))))))
abbrev s__law_names : Stmt := top 19
theorem sc__law_names : FnScope ["hands", "found", "own"] ["hands"] (defScope s__law_names) := ⟨rfl, rfl, rfl, by decide +kernel, rfl, by decide +kernel, by decide +kernel⟩
noncomputable def T__law_names_1 : DS := (sAsg (wTup wNil) (gNm 1))
noncomputable def T__law_names_2 : DS := (sFor (wIt (fun d h => seqD h d) (wOp rIx (wVar 0) (wC (.int 0)))) (gNm 2) (sAsg (wOp (rAdd false) (wVar 1) (wVar 2)) (gNm 1)))
noncomputable def T__law_names_3 : DS := (sRet (wOp (rAdd false) (wVar 1) (wOp rIx (wVar 0) (wC (.int 1)))))
noncomputable def R__law_names_2 : DS := (sSeq T__law_names_2 T__law_names_3)
noncomputable def B__law_names : DS := (sSeq T__law_names_1 R__law_names_2)
noncomputable def S__law_names : List D → MH → DK → Prop := fnS 1 3 B__law_names
theorem ok__law_names {P : Program} {w : World} {K : PySem.W.Frag} {mg : Str → Option Value} {base : Heap} {f : Addr} {fd : FuncData} (DD : DefAt K mg "_law_names" s__law_names ["hands"] f fd) : FnG P w K mg base 1 f fd ["hands"] S__law_names := by
  have nd := (sc__law_names).nd
  exact fnG_of (k := 0) DD.fn sc__law_names rfl rfl fun cdv A outer s H E c =>
    (ds_cons (ds_set 1 nd rfl (Or.inl rfl) (pd_tup pda_nil))
    (ds_cons (ds_for PassesOwn.never rfl (di_seq (pd_ix xd_seq (pd_var 0 (pv 0)) pd_int (fun _ _ => rfl))) (dg_name 2 (pg_name (i := 2) nd rfl (Or.inl rfl))) (ds_one (ds_set 1 nd rfl (Or.inl rfl) (pd_op (od_add false) (pd_var 1 (pv 1)) (pd_var 2 (pv 2))))))
    (ds_one (ds_ret (pd_op (od_add false) (pd_var 1 (pv 1)) (pd_ix xd_seq (pd_var 0 (pv 0)) pd_int (fun _ _ => rfl)))))))
abbrev s__law_owner : Stmt := top 20
theorem sc__law_owner : FnScope ["hands", "name", "some", "k", "own"] ["hands", "name"] (defScope s__law_owner) := ⟨rfl, rfl, rfl, by decide +kernel, rfl, by decide +kernel, by decide +kernel⟩
noncomputable def T__law_owner_1 : DS := (sAsg (wLc false (wEnum (wCons (wOp rIx (wVar 0) (wC (.int 0))) wNil)) (gTp 2 (gsCons (gNm 3) (gsCons (gNm 4) gsNil))) (wT (wOp (rIn false) (wVar 1) (wVar 4))) (wVar 3) [3, 4]) (gNm 2))
noncomputable def T__law_owner_2 : DS := (sRet (wIf (wT (wOp (rEq true) (wVar 2) (wLst false wNil))) (wOp rIx (wVar 2) (wC (.int 0))) (wC .non)))
noncomputable def B__law_owner : DS := (sSeq T__law_owner_1 T__law_owner_2)
noncomputable def S__law_owner : List D → MH → DK → Prop := fnS 2 5 B__law_owner
theorem ok__law_owner {P : Program} {w : World} {K : PySem.W.Frag} {mg : Str → Option Value} {base : Heap} {f : Addr} {fd : FuncData} (DD : DefAt K mg "_law_owner" s__law_owner ["hands", "name"] f fd) (b_enumerate : mg "enumerate" = none) : FnG P w K mg base 1 f fd ["hands", "name"] S__law_owner := by
  have nd := (sc__law_owner).nd
  exact fnG_of (k := 0) DD.fn sc__law_owner rfl rfl fun cdv A outer s H E c =>
    (ds_cons (ds_setLc false 2 (own := [("k", 3), ("own", 4)]) rfl nd rfl rfl (sw_true rfl rfl rfl (by decide +kernel)) (di_enum (by rfl) b_enumerate (pda_cons (pd_ix xd_seq (pd_var 0 (pv 0)) pd_int (fun _ _ => rfl)) pda_nil)) (blkOk_by (own := [("k", 3), ("own", 4)]) (N := ["hands", "name", "some", "k", "own"]) (sc := (defScope s__law_owner)) (by decide +kernel)) (by decide) (fun _ _ _ _ _ => (dg_tup 2 rfl (dgs_cons (dg_name 3 (pg_name (i := 3) nd rfl (Or.inl rfl))) (dgs_cons (dg_name 4 (pg_name (i := 4) nd rfl (Or.inl rfl))) dgs_nil)))) (fun _ _ _ _ _ => (dts_one (dt_cmp (od_in c.hu65) (pd_var 1 (pv 1)) (pd_var 4 (pv 4)) rfl))) (fun _ _ _ _ _ => (pd_var 3 (pv 3))))
    (ds_one (ds_ret (pd_if (dt_cmp (od_ne c.hu64) (pd_var 2 (pv 2)) (pd_lst false pda_nil) (nomark _)) (pd_ix xd_seq (pd_var 2 (pv 2)) pd_int (fun _ _ => rfl)) pd_non))))
abbrev s__law_led : Stmt := top 21
theorem sc__law_led : FnScope ["hands", "row", "line", "k", "here", "place", "one", "other", "name", "late"] ["hands", "row"] (defScope s__law_led) := ⟨rfl, rfl, rfl, by decide +kernel, rfl, by decide +kernel, by decide +kernel⟩
noncomputable def T__law_led_1 : DS := (sAsg (wLc false (wIt (fun d h => seqD h d) (wSl false (wVar 4) (wPart (wVar 5)) (wPart (wOp (rAdd false) (wVar 5) (wC (.int 2)))))) (gNm 8) wYes (wCall S__law_owner (wCons (wVar 0) (wCons (wVar 8) wNil))) [8]) (gLs 2 (gsCons (gNm 6) (gsCons (gNm 7) gsNil))))
noncomputable def T__law_led_2 : DS := (sAsg (wOp (rAdd false) (wOp (rAdd false) (wSl false (wVar 4) wNo (wPart (wVar 5))) (wTup (wCons (wOp rIx (wVar 4) (wOp (rAdd false) (wVar 5) (wC (.int 1)))) (wCons (wOp rIx (wVar 4) (wVar 5)) wNil)))) (wSl false (wVar 4) (wPart (wOp (rAdd false) (wVar 5) (wC (.int 2)))) wNo)) (gNm 9))
noncomputable def T__law_led_3 : DS := (sIf (wAndT (wT (wOp (isD true) (wVar 6) (wC .non))) (wAndT (wT (wOp (isD true) (wVar 7) (wC .non))) (wAndT (wT (wOp (rEq true) (wVar 6) (wVar 7))) (wT (wOp (rIn true) (wVar 9) (wVar 2)))))) (sExp (wMt .list mAppend (wVar 2) (wCons (wVar 9) wNil))) sNil)
noncomputable def R__law_led_2 : DS := (sSeq T__law_led_2 T__law_led_3)
noncomputable def T__law_led_4 : DS := (sPar 4 3 (wCons (wOp rIx (wVar 2) (wVar 3)) (wCons (wOp (rAdd false) (wVar 3) (wC (.int 1))) wNil)))
noncomputable def T__law_led_5 : DS := (sFor (wRng1 (wCons (wOp rSub (wCall rLen (wCons (wVar 4) wNil)) (wC (.int 1))) wNil)) (gNm 5) (sSeq T__law_led_1 R__law_led_2))
noncomputable def T__law_led_6 : DS := (sPar 2 3 (wCons (wLst true (wCons (wVar 1) wNil)) (wCons (wC (.int 0)) wNil)))
noncomputable def T__law_led_7 : DS := (sWhl (wT (wOp rLt (wVar 3) (wCall rLen (wCons (wVar 2) wNil)))) (sSeq T__law_led_4 T__law_led_5))
noncomputable def T__law_led_8 : DS := (sRet (wVar 2))
noncomputable def R__law_led_7 : DS := (sSeq T__law_led_7 T__law_led_8)
noncomputable def B__law_led : DS := (sSeq T__law_led_6 R__law_led_7)
noncomputable def S__law_led : List D → MH → DK → Prop := fnS 2 10 B__law_led
theorem ok__law_led {P : Program} {w : World} {K : PySem.W.Frag} {mg : Str → Option Value} {base : Heap} {f : Addr} {fd : FuncData} (DD : DefAt K mg "_law_led" s__law_led ["hands", "row"] f fd) (b_len : mg "len" = none) (b_range : mg "range" = none) {f__law_owner : Addr} {fd__law_owner : FuncData} (D__law_owner : DefAt K mg "_law_owner" s__law_owner ["hands", "name"] f__law_owner fd__law_owner) (F__law_owner : FnG P w K mg base 1 f__law_owner fd__law_owner ["hands", "name"] S__law_owner) : FnG P w K mg base 2 f fd ["hands", "row"] S__law_led := by
  have nd := (sc__law_led).nd
  exact fnG_of (k := 1) DD.fn sc__law_led rfl rfl fun cdv A outer s H E c =>
    (ds_cons (ds_par 2 3 rfl nd rfl rfl (by decide) rfl rfl (pda_cons (pd_lst true (pda_cons (pd_var 1 (pv 1)) pda_nil)) (pda_cons pd_int pda_nil)) rfl)
    (ds_cons (ds_while PassesOwn.never (dt_cmp od_lt (pd_var 3 (pv 3)) (pd_callB cd_len (by rfl) b_len bt_len (pda_cons (pd_var 2 (pv 2)) pda_nil)) (nomark _)) (ds_cons (ds_par 4 3 rfl nd rfl rfl (by decide) rfl rfl (pda_cons (pd_ix xd_seq (pd_var 2 (pv 2)) (pd_var 3 (pv 3)) (fun _ _ => rfl)) (pda_cons (pd_op (od_add false) (pd_var 3 (pv 3)) pd_int) pda_nil)) rfl)
    (ds_one (ds_for PassesOwn.never rfl (di_rng1 (by rfl) b_range (pda_cons (pd_op od_sub (pd_callB cd_len (by rfl) b_len bt_len (pda_cons (pd_var 4 (pv 4)) pda_nil)) pd_int) pda_nil)) (dg_name 5 (pg_name (i := 5) nd rfl (Or.inl rfl))) (ds_cons (ds_asg (pd_lc false (own := [("name", 8)]) rfl nd (di_seq (pd_slice false (pd_var 4 (pv 4)) (pdo_some (pd_var 5 (pv 5))) (pdo_some (pd_op (od_add false) (pd_var 5 (pv 5)) pd_int)) (pe_slice (sd_seq false) (pd_var 4 (pv 4)) (pdo_some (pd_var 5 (pv 5))) (pdo_some (pd_op (od_add false) (pd_var 5 (pv 5)) pd_int))))) (blkOk_by (own := [("name", 8)]) (N := ["hands", "row", "line", "k", "here", "place", "one", "other", "name", "late"]) (sc := (defScope s__law_led)) (by decide +kernel)) (by decide) (fun _ _ _ _ _ => (dg_name 8 (pg_name (i := 8) nd rfl (Or.inl rfl)))) (fun _ _ _ _ _ => dts_nil) (fun _ _ _ _ _ => (pd_call F__law_owner c.guards (c.room.mono (by decide)) (by rfl) D__law_owner.at_ D__law_owner.fn.kp D__law_owner.bd (pda_cons (pd_var 0 (pv 0)) (pda_cons (pd_var 8 (pv 8)) pda_nil))))) (dg_lst 2 (pg_unl rfl (dgs_cons (dg_name 6 (pg_name (i := 6) nd rfl (Or.inl rfl))) (dgs_cons (dg_name 7 (pg_name (i := 7) nd rfl (Or.inl rfl))) dgs_nil)))))
    (ds_cons (ds_set 9 nd rfl (Or.inl rfl) (pd_op (od_add false) (pd_op (od_add false) (pd_slice false (pd_var 4 (pv 4)) pdo_none (pdo_some (pd_var 5 (pv 5))) (pe_slice (sd_seq false) (pd_var 4 (pv 4)) pdo_none (pdo_some (pd_var 5 (pv 5))))) (pd_tup (pda_cons (pd_ix xd_seq (pd_var 4 (pv 4)) (pd_op (od_add false) (pd_var 5 (pv 5)) pd_int) (fun _ _ => rfl)) (pda_cons (pd_ix xd_seq (pd_var 4 (pv 4)) (pd_var 5 (pv 5)) (fun _ _ => rfl)) pda_nil)))) (pd_slice false (pd_var 4 (pv 4)) (pdo_some (pd_op (od_add false) (pd_var 5 (pv 5)) pd_int)) pdo_none (pe_slice (sd_seq false) (pd_var 4 (pv 4)) (pdo_some (pd_op (od_add false) (pd_var 5 (pv 5)) pd_int)) pdo_none))))
    (ds_one (ds_if (dt_bo (dw_and (dt_cmp od_isnot (pd_var 6 (pv 6)) pd_non (nomark _)) (dw_and (dt_cmp od_isnot (pd_var 7 (pv 7)) pd_non (nomark _)) (dw_and (dt_cmp (od_ne c.hu64) (pd_var 6 (pv 6)) (pd_var 7 (pv 7)) (nomark _)) (dw_and1 (dt_cmp (od_notin c.hu65) (pd_var 9 (pv 9)) (pd_var 2 (pv 2)) rfl)))))) (ds_one (ds_expr (pd_mt .list PySem.F.plainAttrs_list PySem.F.slot_list_append PySem.F.type_list_append md_append (pd_var 2 (pv 2)) (pda_cons (pd_var 9 (pv 9)) pda_nil) (pe_bm PySem.F.plainAttrs_list PySem.F.slot_list_append PySem.F.type_list_append md_append (pd_var 2 (pv 2)) (pda_cons (pd_var 9 (pv 9)) pda_nil))))) ds_nil))))))))
    (ds_one (ds_ret (pd_var 2 (pv 2))))))
abbrev s__law_look : Stmt := top 23
theorem sc__law_look : FnScope ["hands", "row", "found", "own", "name"] ["hands", "row"] (defScope s__law_look) := ⟨rfl, rfl, rfl, by decide +kernel, rfl, by decide +kernel, by decide +kernel⟩
noncomputable def T__law_look_1 : DS := (sAsg (wLst true wNil) (gNm 2))
noncomputable def T__law_look_2 : DS := (sFor (wIt (fun d h => seqD h d) (wOp rIx (wVar 0) (wC (.int 0)))) (gNm 3) (sExp (wMt .list mAppend (wVar 2) (wCons (wCall rTuple (wCons (wLc false (wIt (fun d h => seqD h d) (wVar 1)) (gNm 4) (wT (wOp (rIn false) (wVar 4) (wOp (rAdd false) (wVar 3) (wOp rIx (wVar 0) (wC (.int 1)))))) (wVar 4) [4]) wNil)) wNil))))
noncomputable def T__law_look_3 : DS := (sRet (wCall rTuple (wCons (wVar 2) wNil)))
noncomputable def R__law_look_2 : DS := (sSeq T__law_look_2 T__law_look_3)
noncomputable def B__law_look : DS := (sSeq T__law_look_1 R__law_look_2)
noncomputable def S__law_look : List D → MH → DK → Prop := fnS 2 5 B__law_look
theorem ok__law_look {P : Program} {w : World} {K : PySem.W.Frag} {mg : Str → Option Value} {base : Heap} {f : Addr} {fd : FuncData} (DD : DefAt K mg "_law_look" s__law_look ["hands", "row"] f fd) (b_tuple : mg "tuple" = none) : FnG P w K mg base 1 f fd ["hands", "row"] S__law_look := by
  have nd := (sc__law_look).nd
  exact fnG_of (k := 0) DD.fn sc__law_look rfl rfl fun cdv A outer s H E c =>
    (ds_cons (ds_set 2 nd rfl (Or.inl rfl) (pd_lst true pda_nil))
    (ds_cons (ds_for PassesOwn.never rfl (di_seq (pd_ix xd_seq (pd_var 0 (pv 0)) pd_int (fun _ _ => rfl))) (dg_name 3 (pg_name (i := 3) nd rfl (Or.inr rfl))) (ds_one (ds_expr (pd_mt .list PySem.F.plainAttrs_list PySem.F.slot_list_append PySem.F.type_list_append md_append (pd_var 2 (pv 2)) (pda_cons (pd_callTy cd_tuple (by rfl) b_tuple bt_tuple (pda_cons (pd_lc false (own := [("name", 4)]) rfl nd (di_seq (pd_var 1 (pv 1))) (blkOk_by (own := [("name", 4)]) (N := ["hands", "row", "found", "own", "name"]) (sc := (defScope s__law_look)) (by decide +kernel)) (by decide) (fun _ _ _ _ _ => (dg_name 4 (pg_name (i := 4) nd rfl (Or.inl rfl)))) (fun _ _ _ _ _ => (dts_one (dt_cmp (od_in c.hu65) (pd_var 4 (pv 4)) (pd_op (od_add false) (pd_var 3 (pv 3)) (pd_ix xd_seq (pd_var 0 (pv 0)) pd_int (fun _ _ => rfl))) rfl))) (fun _ _ _ _ _ => (pd_var 4 (pv 4)))) pda_nil)) pda_nil) (pe_bm PySem.F.plainAttrs_list PySem.F.slot_list_append PySem.F.type_list_append md_append (pd_var 2 (pv 2)) (pda_cons (pd_callTy cd_tuple (by rfl) b_tuple bt_tuple (pda_cons (pd_lc false (own := [("name", 4)]) rfl nd (di_seq (pd_var 1 (pv 1))) (blkOk_by (own := [("name", 4)]) (N := ["hands", "row", "found", "own", "name"]) (sc := (defScope s__law_look)) (by decide +kernel)) (by decide) (fun _ _ _ _ _ => (dg_name 4 (pg_name (i := 4) nd rfl (Or.inl rfl)))) (fun _ _ _ _ _ => (dts_one (dt_cmp (od_in c.hu65) (pd_var 4 (pv 4)) (pd_op (od_add false) (pd_var 3 (pv 3)) (pd_ix xd_seq (pd_var 0 (pv 0)) pd_int (fun _ _ => rfl))) rfl))) (fun _ _ _ _ _ => (pd_var 4 (pv 4)))) pda_nil)) pda_nil))))))
    (ds_one (ds_ret (pd_callTy cd_tuple (by rfl) b_tuple bt_tuple (pda_cons (pd_var 2 (pv 2)) pda_nil))))))
abbrev s_hand_of : Stmt := top 2
theorem sc_hand_of : FnScope ["hands", "name", "some", "number", "names"] ["hands", "name"] (defScope s_hand_of) := ⟨rfl, rfl, rfl, by decide +kernel, rfl, by decide +kernel, by decide +kernel⟩
noncomputable def T_hand_of_1 : DS := (sAsg (wLc false (wEnum (wCons (wOp rIx (wVar 0) (wC (.int 0))) wNil)) (gTp 2 (gsCons (gNm 3) (gsCons (gNm 4) gsNil))) (wT (wOp (rIn false) (wVar 1) (wVar 4))) (wVar 3) [3, 4]) (gNm 2))
noncomputable def T_hand_of_2 : DS := (sRet (wIf (wT (wOp (rEq true) (wVar 2) (wLst false wNil))) (wOp rIx (wVar 2) (wC (.int 0))) (wC .non)))
noncomputable def B_hand_of : DS := (sSeq T_hand_of_1 T_hand_of_2)
noncomputable def S_hand_of : List D → MH → DK → Prop := fnS 2 5 B_hand_of
theorem ok_hand_of {P : Program} {w : World} {K : PySem.W.Frag} {mg : Str → Option Value} {base : Heap} {f : Addr} {fd : FuncData} (DD : DefAt K mg "hand_of" s_hand_of ["hands", "name"] f fd) (b_enumerate : mg "enumerate" = none) : FnG P w K mg base 1 f fd ["hands", "name"] S_hand_of := by
  have nd := (sc_hand_of).nd
  exact fnG_of (k := 0) DD.fn sc_hand_of rfl rfl fun cdv A outer s H E c =>
    (ds_cons (ds_setLc false 2 (own := [("number", 3), ("names", 4)]) rfl nd rfl rfl (sw_true rfl rfl rfl (by decide +kernel)) (di_enum (by rfl) b_enumerate (pda_cons (pd_ix xd_seq (pd_var 0 (pv 0)) pd_int (fun _ _ => rfl)) pda_nil)) (blkOk_by (own := [("number", 3), ("names", 4)]) (N := ["hands", "name", "some", "number", "names"]) (sc := (defScope s_hand_of)) (by decide +kernel)) (by decide) (fun _ _ _ _ _ => (dg_tup 2 rfl (dgs_cons (dg_name 3 (pg_name (i := 3) nd rfl (Or.inl rfl))) (dgs_cons (dg_name 4 (pg_name (i := 4) nd rfl (Or.inl rfl))) dgs_nil)))) (fun _ _ _ _ _ => (dts_one (dt_cmp (od_in c.hu65) (pd_var 1 (pv 1)) (pd_var 4 (pv 4)) rfl))) (fun _ _ _ _ _ => (pd_var 3 (pv 3))))
    (ds_one (ds_ret (pd_if (dt_cmp (od_ne c.hu64) (pd_var 2 (pv 2)) (pd_lst false pda_nil) (nomark _)) (pd_ix xd_seq (pd_var 2 (pv 2)) pd_int (fun _ _ => rfl)) pd_non))))
abbrev s_is_seen : Stmt := top 3
theorem sc_is_seen : FnScope ["hands", "name", "hand"] ["hands", "name", "hand"] (defScope s_is_seen) := ⟨rfl, rfl, rfl, by decide +kernel, rfl, by decide +kernel, by decide +kernel⟩
noncomputable def B_is_seen : DS := (sRet (wOp (rIn false) (wCall S_hand_of (wCons (wVar 0) (wCons (wVar 1) wNil))) (wTup (wCons (wC .non) (wCons (wVar 2) wNil)))))
noncomputable def S_is_seen : List D → MH → DK → Prop := fnS 3 3 B_is_seen
theorem ok_is_seen {P : Program} {w : World} {K : PySem.W.Frag} {mg : Str → Option Value} {base : Heap} {f : Addr} {fd : FuncData} (DD : DefAt K mg "is_seen" s_is_seen ["hands", "name", "hand"] f fd) {f_hand_of : Addr} {fd_hand_of : FuncData} (D_hand_of : DefAt K mg "hand_of" s_hand_of ["hands", "name"] f_hand_of fd_hand_of) (F_hand_of : FnG P w K mg base 1 f_hand_of fd_hand_of ["hands", "name"] S_hand_of) : FnG P w K mg base 2 f fd ["hands", "name", "hand"] S_is_seen := by
  have nd := (sc_is_seen).nd
  exact fnG_of (k := 1) DD.fn sc_is_seen rfl rfl fun cdv A outer s H E c =>
    (ds_one (ds_ret (pd_cmp (od_in c.hu65) (pd_call F_hand_of c.guards (c.room.mono (by decide)) (by rfl) D_hand_of.at_ D_hand_of.fn.kp D_hand_of.bd (pda_cons (pd_var 0 (pv 0)) (pda_cons (pd_var 1 (pv 1)) pda_nil))) (pd_tup (pda_cons pd_non (pda_cons (pd_var 2 (pv 2)) pda_nil))) rfl)))
abbrev s_look_of : Stmt := top 5
theorem sc_look_of : FnScope ["hands", "row", "hand", "name"] ["hands", "row", "hand"] (defScope s_look_of) := ⟨rfl, rfl, rfl, by decide +kernel, rfl, by decide +kernel, by decide +kernel⟩
noncomputable def B_look_of : DS := (sRet (wCall rTuple (wCons (wLc false (wIt (fun d h => seqD h d) (wVar 1)) (gNm 3) (wTru (wCall S_is_seen (wCons (wVar 0) (wCons (wVar 3) (wCons (wVar 2) wNil))))) (wVar 3) [3]) wNil)))
noncomputable def S_look_of : List D → MH → DK → Prop := fnS 3 4 B_look_of
theorem ok_look_of {P : Program} {w : World} {K : PySem.W.Frag} {mg : Str → Option Value} {base : Heap} {f : Addr} {fd : FuncData} (DD : DefAt K mg "look_of" s_look_of ["hands", "row", "hand"] f fd) (b_tuple : mg "tuple" = none) {f_is_seen : Addr} {fd_is_seen : FuncData} (D_is_seen : DefAt K mg "is_seen" s_is_seen ["hands", "name", "hand"] f_is_seen fd_is_seen) (F_is_seen : FnG P w K mg base 2 f_is_seen fd_is_seen ["hands", "name", "hand"] S_is_seen) : FnG P w K mg base 3 f fd ["hands", "row", "hand"] S_look_of := by
  have nd := (sc_look_of).nd
  exact fnG_of (k := 2) DD.fn sc_look_of rfl rfl fun cdv A outer s H E c =>
    (ds_one (ds_ret (pd_callTy cd_tuple (by rfl) b_tuple bt_tuple (pda_cons (pd_lc false (own := [("name", 3)]) rfl nd (di_seq (pd_var 1 (pv 1))) (blkOk_by (own := [("name", 3)]) (N := ["hands", "row", "hand", "name"]) (sc := (defScope s_look_of)) (by decide +kernel)) (by decide) (fun _ _ _ _ _ => (dg_name 3 (pg_name (i := 3) nd rfl (Or.inl rfl)))) (fun _ _ _ _ _ => (dts_one (dt_tru (pd_call F_is_seen c.guards (c.room.mono (by decide)) (by rfl) D_is_seen.at_ D_is_seen.fn.kp D_is_seen.bd (pda_cons (pd_var 0 (pv 0)) (pda_cons (pd_var 3 (pv 3)) (pda_cons (pd_var 2 (pv 2)) pda_nil))))))) (fun _ _ _ _ _ => (pd_var 3 (pv 3)))) pda_nil))))
abbrev s_look_told : Stmt := top 6
theorem sc_look_told : FnScope ["hands", "row", "hand"] ["hands", "row"] (defScope s_look_told) := ⟨rfl, rfl, rfl, by decide +kernel, rfl, by decide +kernel, by decide +kernel⟩
noncomputable def B_look_told : DS := (sRet (wCall rTuple (wCons (wLc false (wRng1 (wCons (wCall rLen (wCons (wOp rIx (wVar 0) (wC (.int 0))) wNil)) wNil)) (gNm 2) wYes (wCall S_look_of (wCons (wVar 0) (wCons (wVar 1) (wCons (wVar 2) wNil)))) [2]) wNil)))
noncomputable def S_look_told : List D → MH → DK → Prop := fnS 2 3 B_look_told
theorem ok_look_told {P : Program} {w : World} {K : PySem.W.Frag} {mg : Str → Option Value} {base : Heap} {f : Addr} {fd : FuncData} (DD : DefAt K mg "look_told" s_look_told ["hands", "row"] f fd) (b_len : mg "len" = none) (b_range : mg "range" = none) (b_tuple : mg "tuple" = none) {f_look_of : Addr} {fd_look_of : FuncData} (D_look_of : DefAt K mg "look_of" s_look_of ["hands", "row", "hand"] f_look_of fd_look_of) (F_look_of : FnG P w K mg base 3 f_look_of fd_look_of ["hands", "row", "hand"] S_look_of) : FnG P w K mg base 4 f fd ["hands", "row"] S_look_told := by
  have nd := (sc_look_told).nd
  exact fnG_of (k := 3) DD.fn sc_look_told rfl rfl fun cdv A outer s H E c =>
    (ds_one (ds_ret (pd_callTy cd_tuple (by rfl) b_tuple bt_tuple (pda_cons (pd_lc false (own := [("hand", 2)]) rfl nd (di_rng1 (by rfl) b_range (pda_cons (pd_callB cd_len (by rfl) b_len bt_len (pda_cons (pd_ix xd_seq (pd_var 0 (pv 0)) pd_int (fun _ _ => rfl)) pda_nil)) pda_nil)) (blkOk_by (own := [("hand", 2)]) (N := ["hands", "row", "hand"]) (sc := (defScope s_look_told)) (by decide +kernel)) (by decide) (fun _ _ _ _ _ => (dg_name 2 (pg_name (i := 2) nd rfl (Or.inl rfl)))) (fun _ _ _ _ _ => dts_nil) (fun _ _ _ _ _ => (pd_call F_look_of c.guards (c.room.mono (by decide)) (by rfl) D_look_of.at_ D_look_of.fn.kp D_look_of.bd (pda_cons (pd_var 0 (pv 0)) (pda_cons (pd_var 1 (pv 1)) (pda_cons (pd_var 2 (pv 2)) pda_nil)))))) pda_nil))))
abbrev s_stretches : Stmt := top 8
theorem sc_stretches : FnScope ["hands", "row", "parts", "public", "name"] ["hands", "row"] (defScope s_stretches) := ⟨rfl, rfl, rfl, by decide +kernel, rfl, by decide +kernel, by decide +kernel⟩
noncomputable def T_stretches_1 : DS := (sExp (wMt .list mAppend (wVar 3) (wCons (wVar 4) wNil)))
noncomputable def T_stretches_2 : DS := (sExp (wMt .list mAppend (wVar 2) (wCons (wLst true wNil) wNil)))
noncomputable def T_stretches_3 : DS := (sPar 2 3 (wCons (wLst true (wCons (wLst true wNil) wNil)) (wCons (wLst true wNil) wNil)))
noncomputable def T_stretches_4 : DS := (sFor (wIt (fun d h => seqD h d) (wVar 1)) (gNm 4) (sIf (wT (wOp (isD false) (wCall S_hand_of (wCons (wVar 0) (wCons (wVar 4) wNil))) (wC .non))) (sSeq T_stretches_1 T_stretches_2) (sExp (wMt .list mAppend (wOp rIx (wVar 2) (wUn rNeg (wC (.int 1)))) (wCons (wVar 4) wNil)))))
noncomputable def T_stretches_5 : DS := (sRet (wTup (wCons (wVar 2) (wCons (wVar 3) wNil))))
noncomputable def R_stretches_4 : DS := (sSeq T_stretches_4 T_stretches_5)
noncomputable def B_stretches : DS := (sSeq T_stretches_3 R_stretches_4)
noncomputable def S_stretches : List D → MH → DK → Prop := fnS 2 5 B_stretches
theorem ok_stretches {P : Program} {w : World} {K : PySem.W.Frag} {mg : Str → Option Value} {base : Heap} {f : Addr} {fd : FuncData} (DD : DefAt K mg "stretches" s_stretches ["hands", "row"] f fd) {f_hand_of : Addr} {fd_hand_of : FuncData} (D_hand_of : DefAt K mg "hand_of" s_hand_of ["hands", "name"] f_hand_of fd_hand_of) (F_hand_of : FnG P w K mg base 1 f_hand_of fd_hand_of ["hands", "name"] S_hand_of) : FnG P w K mg base 2 f fd ["hands", "row"] S_stretches := by
  have nd := (sc_stretches).nd
  exact fnG_of (k := 1) DD.fn sc_stretches rfl rfl fun cdv A outer s H E c =>
    (ds_cons (ds_par 2 3 rfl nd rfl rfl (by decide) rfl rfl (pda_cons (pd_lst true (pda_cons (pd_lst true pda_nil) pda_nil)) (pda_cons (pd_lst true pda_nil) pda_nil)) rfl)
    (ds_cons (ds_for PassesOwn.never rfl (di_seq (pd_var 1 (pv 1))) (dg_name 4 (pg_name (i := 4) nd rfl (Or.inl rfl))) (ds_one (ds_if (dt_cmp od_is (pd_call F_hand_of c.guards (c.room.mono (by decide)) (by rfl) D_hand_of.at_ D_hand_of.fn.kp D_hand_of.bd (pda_cons (pd_var 0 (pv 0)) (pda_cons (pd_var 4 (pv 4)) pda_nil))) pd_non (nomark _)) (ds_cons (ds_expr (pd_mt .list PySem.F.plainAttrs_list PySem.F.slot_list_append PySem.F.type_list_append md_append (pd_var 3 (pv 3)) (pda_cons (pd_var 4 (pv 4)) pda_nil) (pe_bm PySem.F.plainAttrs_list PySem.F.slot_list_append PySem.F.type_list_append md_append (pd_var 3 (pv 3)) (pda_cons (pd_var 4 (pv 4)) pda_nil))))
    (ds_one (ds_expr (pd_mt .list PySem.F.plainAttrs_list PySem.F.slot_list_append PySem.F.type_list_append md_append (pd_var 2 (pv 2)) (pda_cons (pd_lst true pda_nil) pda_nil) (pe_bm PySem.F.plainAttrs_list PySem.F.slot_list_append PySem.F.type_list_append md_append (pd_var 2 (pv 2)) (pda_cons (pd_lst true pda_nil) pda_nil)))))) (ds_one (ds_expr (pd_mt .list PySem.F.plainAttrs_list PySem.F.slot_list_append PySem.F.type_list_append md_append (pd_ix xd_seq (pd_var 2 (pv 2)) (pd_un ud_neg pd_int) (fun _ _ => rfl)) (pda_cons (pd_var 4 (pv 4)) pda_nil) (pe_bm PySem.F.plainAttrs_list PySem.F.slot_list_append PySem.F.type_list_append md_append (pd_ix xd_seq (pd_var 2 (pv 2)) (pd_un ud_neg pd_int) (fun _ _ => rfl)) (pda_cons (pd_var 4 (pv 4)) pda_nil))))))))
    (ds_one (ds_ret (pd_tup (pda_cons (pd_var 2 (pv 2)) (pda_cons (pd_var 3 (pv 3)) pda_nil)))))))
abbrev s_stretch_told : Stmt := top 9
theorem sc_stretch_told : FnScope ["hands", "part", "found", "hand", "name"] ["hands", "part"] (defScope s_stretch_told) := ⟨rfl, rfl, rfl, by decide +kernel, rfl, by decide +kernel, by decide +kernel⟩
noncomputable def T_stretch_told_1 : DS := (sAsg (wLst true wNil) (gNm 2))
noncomputable def T_stretch_told_2 : DS := (sFor (wRng1 (wCons (wCall rLen (wCons (wOp rIx (wVar 0) (wC (.int 0))) wNil)) wNil)) (gNm 3) (sExp (wMt .list mExtend (wVar 2) (wCons (wLc false (wIt (fun d h => seqD h d) (wVar 1)) (gNm 4) (wT (wOp (rEq false) (wCall S_hand_of (wCons (wVar 0) (wCons (wVar 4) wNil))) (wVar 3))) (wVar 4) [4]) wNil))))
noncomputable def T_stretch_told_3 : DS := (sRet (wVar 2))
noncomputable def R_stretch_told_2 : DS := (sSeq T_stretch_told_2 T_stretch_told_3)
noncomputable def B_stretch_told : DS := (sSeq T_stretch_told_1 R_stretch_told_2)
noncomputable def S_stretch_told : List D → MH → DK → Prop := fnK 2 5 B_stretch_told
theorem ok_stretch_told {P : Program} {w : World} {K : PySem.W.Frag} {mg : Str → Option Value} {base : Heap} {f : Addr} {fd : FuncData} (DD : DefAt K mg "stretch_told" s_stretch_told ["hands", "part"] f fd) (b_len : mg "len" = none) (b_range : mg "range" = none) {f_hand_of : Addr} {fd_hand_of : FuncData} (D_hand_of : DefAt K mg "hand_of" s_hand_of ["hands", "name"] f_hand_of fd_hand_of) (F_hand_of : FnG P w K mg base 1 f_hand_of fd_hand_of ["hands", "name"] S_hand_of) : FnG P w K mg base 2 f fd ["hands", "part"] S_stretch_told := by
  have nd := (sc_stretch_told).nd
  exact fnG_ofK (k := 1) DD.fn sc_stretch_told rfl rfl fun cdv A outer s H E c =>
    (ds_cons (ds_set 2 nd rfl (Or.inl rfl) (pd_lst true pda_nil))
    (ds_cons (ds_for PassesOwn.never rfl (di_rng1 (by rfl) b_range (pda_cons (pd_callB cd_len (by rfl) b_len bt_len (pda_cons (pd_ix xd_seq (pd_var 0 (pv 0)) pd_int (fun _ _ => rfl)) pda_nil)) pda_nil)) (dg_name 3 (pg_name (i := 3) nd rfl (Or.inr rfl))) (ds_one (ds_expr (pd_mt .list PySem.F.plainAttrs_list PySem.F.slot_list_extend PySem.F.type_list_extend md_extend (pd_var 2 (pv 2)) (pda_cons (pd_lc false (own := [("name", 4)]) rfl nd (di_seq (pd_var 1 (pv 1))) (blkOk_by (own := [("name", 4)]) (N := ["hands", "part", "found", "hand", "name"]) (sc := (defScope s_stretch_told)) (by decide +kernel)) (by decide) (fun _ _ _ _ _ => (dg_name 4 (pg_name (i := 4) nd rfl (Or.inl rfl)))) (fun _ _ _ _ _ => (dts_one (dt_cmp (od_eq c.hu64) (pd_call F_hand_of c.guards (c.room.mono (by decide)) (by rfl) D_hand_of.at_ D_hand_of.fn.kp D_hand_of.bd (pda_cons (pd_var 0 (pv 0)) (pda_cons (pd_var 4 (pv 4)) pda_nil))) (pd_var 3 (pv 3)) (nomark _)))) (fun _ _ _ _ _ => (pd_var 4 (pv 4)))) pda_nil) (pe_bm PySem.F.plainAttrs_list PySem.F.slot_list_extend PySem.F.type_list_extend md_extend (pd_var 2 (pv 2)) (pda_cons (pd_lc false (own := [("name", 4)]) rfl nd (di_seq (pd_var 1 (pv 1))) (blkOk_by (own := [("name", 4)]) (N := ["hands", "part", "found", "hand", "name"]) (sc := (defScope s_stretch_told)) (by decide +kernel)) (by decide) (fun _ _ _ _ _ => (dg_name 4 (pg_name (i := 4) nd rfl (Or.inl rfl)))) (fun _ _ _ _ _ => (dts_one (dt_cmp (od_eq c.hu64) (pd_call F_hand_of c.guards (c.room.mono (by decide)) (by rfl) D_hand_of.at_ D_hand_of.fn.kp D_hand_of.bd (pda_cons (pd_var 0 (pv 0)) (pda_cons (pd_var 4 (pv 4)) pda_nil))) (pd_var 3 (pv 3)) (nomark _)))) (fun _ _ _ _ _ => (pd_var 4 (pv 4)))) pda_nil))))))
    (ds_one (ds_ret (pd_var 2 (pv 2))))))
abbrev s_told_row : Stmt := top 10
theorem sc_told_row : FnScope ["hands", "row", "parts", "public", "found", "name", "part"] ["hands", "row"] (defScope s_told_row) := ⟨rfl, rfl, rfl, by decide +kernel, rfl, by decide +kernel, by decide +kernel⟩
noncomputable def T_told_row_1 : DS := (sExp (wMt .list mAppend (wVar 4) (wCons (wVar 5) wNil)))
noncomputable def T_told_row_2 : DS := (sExp (wMt .list mExtend (wVar 4) (wCons (wCall S_stretch_told (wCons (wVar 0) (wCons (wVar 6) wNil))) wNil)))
noncomputable def T_told_row_3 : DS := (sAsg (wCall S_stretches (wCons (wVar 0) (wCons (wVar 1) wNil))) (gTp 2 (gsCons (gNm 2) (gsCons (gNm 3) gsNil))))
noncomputable def T_told_row_4 : DS := (sAsg (wCall S_stretch_told (wCons (wVar 0) (wCons (wOp rIx (wVar 2) (wC (.int 0))) wNil))) (gNm 4))
noncomputable def T_told_row_5 : DS := (sFor (wZipS (wCons (wVar 3) (wCons (wSl false (wVar 2) (wPart (wC (.int 1))) wNo) wNil))) (gTp 2 (gsCons (gNm 5) (gsCons (gNm 6) gsNil))) (sSeq T_told_row_1 T_told_row_2))
noncomputable def T_told_row_6 : DS := (sRet (wCall rTuple (wCons (wVar 4) wNil)))
noncomputable def R_told_row_5 : DS := (sSeq T_told_row_5 T_told_row_6)
noncomputable def R_told_row_4 : DS := (sSeq T_told_row_4 R_told_row_5)
noncomputable def B_told_row : DS := (sSeq T_told_row_3 R_told_row_4)
noncomputable def S_told_row : List D → MH → DK → Prop := fnS 2 7 B_told_row
theorem ok_told_row {P : Program} {w : World} {K : PySem.W.Frag} {mg : Str → Option Value} {base : Heap} {f : Addr} {fd : FuncData} (DD : DefAt K mg "told_row" s_told_row ["hands", "row"] f fd) (b_zip : mg "zip" = none) (b_tuple : mg "tuple" = none) {f_stretches : Addr} {fd_stretches : FuncData} (D_stretches : DefAt K mg "stretches" s_stretches ["hands", "row"] f_stretches fd_stretches) (F_stretches : FnG P w K mg base 2 f_stretches fd_stretches ["hands", "row"] S_stretches) {f_stretch_told : Addr} {fd_stretch_told : FuncData} (D_stretch_told : DefAt K mg "stretch_told" s_stretch_told ["hands", "part"] f_stretch_told fd_stretch_told) (F_stretch_told : FnG P w K mg base 2 f_stretch_told fd_stretch_told ["hands", "part"] S_stretch_told) : FnG P w K mg base 3 f fd ["hands", "row"] S_told_row := by
  have nd := (sc_told_row).nd
  exact fnG_of (k := 2) DD.fn sc_told_row rfl rfl fun cdv A outer s H E c =>
    (ds_cons (ds_asg (pd_call F_stretches c.guards (c.room.mono (by decide)) (by rfl) D_stretches.at_ D_stretches.fn.kp D_stretches.bd (pda_cons (pd_var 0 (pv 0)) (pda_cons (pd_var 1 (pv 1)) pda_nil))) (dg_tup 2 rfl (dgs_cons (dg_name 2 (pg_name (i := 2) nd rfl (Or.inl rfl))) (dgs_cons (dg_name 3 (pg_name (i := 3) nd rfl (Or.inl rfl))) dgs_nil))))
    (ds_cons (ds_set 4 nd rfl (Or.inl rfl) (pd_call F_stretch_told c.guards (c.room.mono (by decide)) (by rfl) D_stretch_told.at_ D_stretch_told.fn.kp D_stretch_told.bd (pda_cons (pd_var 0 (pv 0)) (pda_cons (pd_ix xd_seq (pd_var 2 (pv 2)) pd_int (fun _ _ => rfl)) pda_nil))))
    (ds_cons (ds_for PassesOwn.never rfl (di_zipS (by rfl) b_zip (pda_cons (pd_var 3 (pv 3)) (pda_cons (pd_slice false (pd_var 2 (pv 2)) (pdo_some pd_int) pdo_none (pe_slice (sd_seq false) (pd_var 2 (pv 2)) (pdo_some pd_int) pdo_none)) pda_nil)) pd_bl) (dg_tup 2 rfl (dgs_cons (dg_name 5 (pg_name (i := 5) nd rfl (Or.inl rfl))) (dgs_cons (dg_name 6 (pg_name (i := 6) nd rfl (Or.inl rfl))) dgs_nil))) (ds_cons (ds_expr (pd_mt .list PySem.F.plainAttrs_list PySem.F.slot_list_append PySem.F.type_list_append md_append (pd_var 4 (pv 4)) (pda_cons (pd_var 5 (pv 5)) pda_nil) (pe_bm PySem.F.plainAttrs_list PySem.F.slot_list_append PySem.F.type_list_append md_append (pd_var 4 (pv 4)) (pda_cons (pd_var 5 (pv 5)) pda_nil))))
    (ds_one (ds_expr (pd_mt .list PySem.F.plainAttrs_list PySem.F.slot_list_extend PySem.F.type_list_extend md_extend (pd_var 4 (pv 4)) (pda_cons (pd_call F_stretch_told c.guards (c.room.mono (by decide)) (by rfl) D_stretch_told.at_ D_stretch_told.fn.kp D_stretch_told.bd (pda_cons (pd_var 0 (pv 0)) (pda_cons (pd_var 6 (pv 6)) pda_nil))) pda_nil) (pe_bm PySem.F.plainAttrs_list PySem.F.slot_list_extend PySem.F.type_list_extend md_extend (pd_var 4 (pv 4)) (pda_cons (pd_call F_stretch_told c.guards (c.room.mono (by decide)) (by rfl) D_stretch_told.at_ D_stretch_told.fn.kp D_stretch_told.bd (pda_cons (pd_var 0 (pv 0)) (pda_cons (pd_var 6 (pv 6)) pda_nil))) pda_nil)))))))
    (ds_one (ds_ret (pd_callTy cd_tuple (by rfl) b_tuple bt_tuple (pda_cons (pd_var 4 (pv 4)) pda_nil)))))))
abbrev s_is_row : Stmt := top 11
theorem sc_is_row : FnScope ["hands", "value", "one", "own", "public"] ["hands", "value"] (defScope s_is_row) := ⟨rfl, rfl, rfl, by decide +kernel, rfl, by decide +kernel, by decide +kernel⟩
noncomputable def T_is_row_1 : DS := (sIf (wOrT (wNotT (wTru (wIsi "tuple" (wVar 1)))) (wNotT (wTru (wCall rAllB (wCons (wLc false (wIt (fun d h => seqD h d) (wVar 1)) (gNm 2) wYes (wIsi "str" (wVar 2)) [2]) wNil))))) (sRet (wC (.bl false))) sNil)
noncomputable def T_is_row_2 : DS := (sAsg (wVar 0) (gTp 2 (gsCons (gNm 3) (gsCons (gNm 4) gsNil))))
noncomputable def T_is_row_3 : DS := (sRet (wCall rAllB (wCons (wLc false (wIt (fun d h => seqD h d) (wVar 1)) (gNm 2) wYes (wOrV (wOp (rIn false) (wVar 2) (wVar 4)) (wOp (isD true) (wCall S_hand_of (wCons (wVar 0) (wCons (wVar 2) wNil))) (wC .non))) [2]) wNil)))
noncomputable def R_is_row_2 : DS := (sSeq T_is_row_2 T_is_row_3)
noncomputable def B_is_row : DS := (sSeq T_is_row_1 R_is_row_2)
noncomputable def S_is_row : List D → MH → DK → Prop := fnS 2 5 B_is_row
theorem ok_is_row {P : Program} {w : World} {K : PySem.W.Frag} {mg : Str → Option Value} {base : Heap} {f : Addr} {fd : FuncData} (DD : DefAt K mg "is_row" s_is_row ["hands", "value"] f fd) (b_isinstance : mg "isinstance" = none) (b_tuple : mg "tuple" = none) (b_str : mg "str" = none) (b_all : mg "all" = none) {f_hand_of : Addr} {fd_hand_of : FuncData} (D_hand_of : DefAt K mg "hand_of" s_hand_of ["hands", "name"] f_hand_of fd_hand_of) (F_hand_of : FnG P w K mg base 1 f_hand_of fd_hand_of ["hands", "name"] S_hand_of) : FnG P w K mg base 2 f fd ["hands", "value"] S_is_row := by
  have nd := (sc_is_row).nd
  exact fnG_of (k := 1) DD.fn sc_is_row rfl rfl fun cdv A outer s H E c =>
    (ds_cons (ds_if (dt_bo (dw_or (dt_not (dt_tru (pd_isi "tuple" (by rfl) b_isinstance (by rfl) b_tuple bt_tuple (pd_var 1 (pv 1))))) (dw_or1 (dt_not (dt_tru (pd_callB (cd_all rfl) (by rfl) b_all bt_all (pda_cons (pd_lc false (own := [("one", 2)]) rfl nd (di_seq (pd_var 1 (pv 1))) (blkOk_by (own := [("one", 2)]) (N := ["hands", "value", "one", "own", "public"]) (sc := (defScope s_is_row)) (by decide +kernel)) (by decide) (fun _ _ _ _ _ => (dg_name 2 (pg_name (i := 2) nd rfl (Or.inl rfl)))) (fun _ _ _ _ _ => dts_nil) (fun _ _ _ _ _ => (pd_isi "str" (by rfl) b_isinstance (by rfl) b_str bt_str (pd_var 2 (pv 2))))) pda_nil))))))) (ds_one (ds_ret pd_bl)) ds_nil)
    (ds_cons (ds_asg (pd_var 0 (pv 0)) (dg_tup 2 rfl (dgs_cons (dg_name 3 (pg_name (i := 3) nd rfl (Or.inl rfl))) (dgs_cons (dg_name 4 (pg_name (i := 4) nd rfl (Or.inr rfl))) dgs_nil))))
    (ds_one (ds_ret (pd_callB (cd_all rfl) (by rfl) b_all bt_all (pda_cons (pd_lc false (own := [("one", 2)]) rfl nd (di_seq (pd_var 1 (pv 1))) (blkOk_by (own := [("one", 2)]) (N := ["hands", "value", "one", "own", "public"]) (sc := (defScope s_is_row)) (by decide +kernel)) (by decide) (fun _ _ _ _ _ => (dg_name 2 (pg_name (i := 2) nd rfl (Or.inl rfl)))) (fun _ _ _ _ _ => dts_nil) (fun _ _ _ _ _ => (pd_or (pd_cmp (od_in c.hu65) (pd_var 2 (pv 2)) (pd_var 4 (pv 4)) rfl) (pd_one (pd_cmp od_isnot (pd_call F_hand_of c.guards (c.room.mono (by decide)) (by rfl) D_hand_of.at_ D_hand_of.fn.kp D_hand_of.bd (pda_cons (pd_var 0 (pv 0)) (pda_cons (pd_var 2 (pv 2)) pda_nil))) pd_non (nomark _)))))) pda_nil))))))
abbrev s_are_rows : Stmt := top 12
theorem sc_are_rows : FnScope ["hands", "value", "one", "hand"] ["hands", "value"] (defScope s_are_rows) := ⟨rfl, rfl, rfl, by decide +kernel, rfl, by decide +kernel, by decide +kernel⟩
noncomputable def T_are_rows_1 : DS := (sIf (wOrT (wNotT (wTru (wIsi "tuple" (wVar 1)))) (wOrT (wT (wOp (rEq true) (wCall rLen (wCons (wVar 1) wNil)) (wCall rLen (wCons (wOp rIx (wVar 0) (wC (.int 0))) wNil)))) (wNotT (wTru (wCall rAllB (wCons (wLc false (wIt (fun d h => seqD h d) (wVar 1)) (gNm 2) wYes (wCall S_is_row (wCons (wVar 0) (wCons (wVar 2) wNil))) [2]) wNil)))))) (sRet (wC (.bl false))) sNil)
noncomputable def T_are_rows_2 : DS := (sRet (wCall rAllB (wCons (wLc false (wEnum (wCons (wVar 1) wNil)) (gTp 2 (gsCons (gNm 3) (gsCons (gNm 2) gsNil))) wYes (wOp (rEq false) (wCall S_look_of (wCons (wVar 0) (wCons (wVar 2) (wCons (wVar 3) wNil)))) (wVar 2)) [2, 3]) wNil)))
noncomputable def B_are_rows : DS := (sSeq T_are_rows_1 T_are_rows_2)
noncomputable def S_are_rows : List D → MH → DK → Prop := fnS 2 4 B_are_rows
theorem ok_are_rows {P : Program} {w : World} {K : PySem.W.Frag} {mg : Str → Option Value} {base : Heap} {f : Addr} {fd : FuncData} (DD : DefAt K mg "are_rows" s_are_rows ["hands", "value"] f fd) (b_isinstance : mg "isinstance" = none) (b_tuple : mg "tuple" = none) (b_len : mg "len" = none) (b_all : mg "all" = none) (b_enumerate : mg "enumerate" = none) {f_is_row : Addr} {fd_is_row : FuncData} (D_is_row : DefAt K mg "is_row" s_is_row ["hands", "value"] f_is_row fd_is_row) (F_is_row : FnG P w K mg base 2 f_is_row fd_is_row ["hands", "value"] S_is_row) {f_look_of : Addr} {fd_look_of : FuncData} (D_look_of : DefAt K mg "look_of" s_look_of ["hands", "row", "hand"] f_look_of fd_look_of) (F_look_of : FnG P w K mg base 3 f_look_of fd_look_of ["hands", "row", "hand"] S_look_of) : FnG P w K mg base 4 f fd ["hands", "value"] S_are_rows := by
  have nd := (sc_are_rows).nd
  exact fnG_of (k := 3) DD.fn sc_are_rows rfl rfl fun cdv A outer s H E c =>
    (ds_cons (ds_if (dt_bo (dw_or (dt_not (dt_tru (pd_isi "tuple" (by rfl) b_isinstance (by rfl) b_tuple bt_tuple (pd_var 1 (pv 1))))) (dw_or (dt_cmp (od_ne c.hu64) (pd_callB cd_len (by rfl) b_len bt_len (pda_cons (pd_var 1 (pv 1)) pda_nil)) (pd_callB cd_len (by rfl) b_len bt_len (pda_cons (pd_ix xd_seq (pd_var 0 (pv 0)) pd_int (fun _ _ => rfl)) pda_nil)) (nomark _)) (dw_or1 (dt_not (dt_tru (pd_callB (cd_all rfl) (by rfl) b_all bt_all (pda_cons (pd_lc false (own := [("one", 2)]) rfl nd (di_seq (pd_var 1 (pv 1))) (blkOk_by (own := [("one", 2)]) (N := ["hands", "value", "one", "hand"]) (sc := (defScope s_are_rows)) (by decide +kernel)) (by decide) (fun _ _ _ _ _ => (dg_name 2 (pg_name (i := 2) nd rfl (Or.inl rfl)))) (fun _ _ _ _ _ => dts_nil) (fun _ _ _ _ _ => (pd_call F_is_row c.guards (c.room.mono (by decide)) (by rfl) D_is_row.at_ D_is_row.fn.kp D_is_row.bd (pda_cons (pd_var 0 (pv 0)) (pda_cons (pd_var 2 (pv 2)) pda_nil))))) pda_nil)))))))) (ds_one (ds_ret pd_bl)) ds_nil)
    (ds_one (ds_ret (pd_callB (cd_all rfl) (by rfl) b_all bt_all (pda_cons (pd_lc false (own := [("one", 2), ("hand", 3)]) rfl nd (di_enum (by rfl) b_enumerate (pda_cons (pd_var 1 (pv 1)) pda_nil)) (blkOk_by (own := [("one", 2), ("hand", 3)]) (N := ["hands", "value", "one", "hand"]) (sc := (defScope s_are_rows)) (by decide +kernel)) (by decide) (fun _ _ _ _ _ => (dg_tup 2 rfl (dgs_cons (dg_name 3 (pg_name (i := 3) nd rfl (Or.inl rfl))) (dgs_cons (dg_name 2 (pg_name (i := 2) nd rfl (Or.inl rfl))) dgs_nil)))) (fun _ _ _ _ _ => dts_nil) (fun _ _ _ _ _ => (pd_cmp (od_eq c.hu64) (pd_call F_look_of c.guards (c.room.mono (by decide)) (by rfl) D_look_of.at_ D_look_of.fn.kp D_look_of.bd (pda_cons (pd_var 0 (pv 0)) (pda_cons (pd_var 2 (pv 2)) (pda_cons (pd_var 3 (pv 3)) pda_nil)))) (pd_var 2 (pv 2)) (nomark _)))) pda_nil)))))
abbrev s_row_of_look : Stmt := top 13
theorem sc_row_of_look : FnScope ["hands", "value", "both", "one", "public", "parts", "late", "found", "k"] ["hands", "value"] (defScope s_row_of_look) := ⟨rfl, rfl, rfl, by decide +kernel, rfl, by decide +kernel, by decide +kernel⟩
noncomputable def T_row_of_look_1 : DS := (sFor (wIt (fun d h => seqD h d) (wVar 2)) (gTp 2 (gsCons (gNm 5) (gsCons (gNm 6) gsNil))) (sExp (wMt .list mExtend (wVar 7) (wCons (wOp rIx (wVar 5) (wVar 8)) wNil))))
noncomputable def T_row_of_look_2 : DS := (sExp (wMt .list mExtend (wVar 7) (wCons (wSl false (wVar 4) (wPart (wVar 8)) (wPart (wOp (rAdd false) (wVar 8) (wC (.int 1))))) wNil)))
noncomputable def T_row_of_look_3 : DS := (sIf (wNotT (wTru (wCall S_are_rows (wCons (wVar 0) (wCons (wVar 1) wNil))))) (sRet (wC .non)) sNil)
noncomputable def T_row_of_look_4 : DS := (sAsg (wLc false (wIt (fun d h => seqD h d) (wVar 1)) (gNm 3) wYes (wCall S_stretches (wCons (wVar 0) (wCons (wVar 3) wNil))) [3]) (gNm 2))
noncomputable def T_row_of_look_5 : DS := (sAsg (wOp rIx (wOp rIx (wVar 2) (wC (.int 0))) (wC (.int 1))) (gNm 4))
noncomputable def T_row_of_look_6 : DS := (sIf (wT (wOp (rEq true) (wLc false (wIt (fun d h => seqD h d) (wVar 2)) (gTp 2 (gsCons (gNm 5) (gsCons (gNm 6) gsNil))) (wT (wOp (rEq true) (wVar 6) (wVar 4))) (wVar 6) [5, 6]) (wLst false wNil))) (sRet (wC .non)) sNil)
noncomputable def T_row_of_look_7 : DS := (sAsg (wLst true wNil) (gNm 7))
noncomputable def T_row_of_look_8 : DS := (sFor (wRng1 (wCons (wOp (rAdd false) (wCall rLen (wCons (wVar 4) wNil)) (wC (.int 1))) wNil)) (gNm 8) (sSeq T_row_of_look_1 T_row_of_look_2))
noncomputable def T_row_of_look_9 : DS := (sRet (wCall rTuple (wCons (wVar 7) wNil)))
noncomputable def R_row_of_look_8 : DS := (sSeq T_row_of_look_8 T_row_of_look_9)
noncomputable def R_row_of_look_7 : DS := (sSeq T_row_of_look_7 R_row_of_look_8)
noncomputable def R_row_of_look_6 : DS := (sSeq T_row_of_look_6 R_row_of_look_7)
noncomputable def R_row_of_look_5 : DS := (sSeq T_row_of_look_5 R_row_of_look_6)
noncomputable def R_row_of_look_4 : DS := (sSeq T_row_of_look_4 R_row_of_look_5)
noncomputable def B_row_of_look : DS := (sSeq T_row_of_look_3 R_row_of_look_4)
noncomputable def S_row_of_look : List D → MH → DK → Prop := fnS 2 9 B_row_of_look
theorem ok_row_of_look {P : Program} {w : World} {K : PySem.W.Frag} {mg : Str → Option Value} {base : Heap} {f : Addr} {fd : FuncData} (DD : DefAt K mg "row_of_look" s_row_of_look ["hands", "value"] f fd) (b_len : mg "len" = none) (b_range : mg "range" = none) (b_tuple : mg "tuple" = none) {f_are_rows : Addr} {fd_are_rows : FuncData} (D_are_rows : DefAt K mg "are_rows" s_are_rows ["hands", "value"] f_are_rows fd_are_rows) (F_are_rows : FnG P w K mg base 4 f_are_rows fd_are_rows ["hands", "value"] S_are_rows) {f_stretches : Addr} {fd_stretches : FuncData} (D_stretches : DefAt K mg "stretches" s_stretches ["hands", "row"] f_stretches fd_stretches) (F_stretches : FnG P w K mg base 2 f_stretches fd_stretches ["hands", "row"] S_stretches) : FnG P w K mg base 5 f fd ["hands", "value"] S_row_of_look := by
  have nd := (sc_row_of_look).nd
  exact fnG_of (k := 4) DD.fn sc_row_of_look rfl rfl fun cdv A outer s H E c =>
    (ds_cons (ds_if (dt_not (dt_tru (pd_call F_are_rows c.guards (c.room.mono (by decide)) (by rfl) D_are_rows.at_ D_are_rows.fn.kp D_are_rows.bd (pda_cons (pd_var 0 (pv 0)) (pda_cons (pd_var 1 (pv 1)) pda_nil))))) (ds_one (ds_ret pd_non)) ds_nil)
    (ds_cons (ds_setLc false 2 (own := [("one", 3)]) rfl nd rfl rfl (sw_true rfl rfl rfl (by decide +kernel)) (di_seq (pd_var 1 (pv 1))) (blkOk_by (own := [("one", 3)]) (N := ["hands", "value", "both", "one", "public", "parts", "late", "found", "k"]) (sc := (defScope s_row_of_look)) (by decide +kernel)) (by decide) (fun _ _ _ _ _ => (dg_name 3 (pg_name (i := 3) nd rfl (Or.inl rfl)))) (fun _ _ _ _ _ => dts_nil) (fun _ _ _ _ _ => (pd_call F_stretches c.guards (c.room.mono (by decide)) (by rfl) D_stretches.at_ D_stretches.fn.kp D_stretches.bd (pda_cons (pd_var 0 (pv 0)) (pda_cons (pd_var 3 (pv 3)) pda_nil)))))
    (ds_cons (ds_set 4 nd rfl (Or.inr rfl) (pd_ix xd_seq (pd_ix xd_seq (pd_var 2 (pv 2)) pd_int (fun _ _ => rfl)) pd_int (fun _ _ => rfl)))
    (ds_cons (ds_if (dt_cmp (od_ne c.hu64) (pd_lc false (own := [("parts", 5), ("late", 6)]) rfl nd (di_seq (pd_var 2 (pv 2))) (blkOk_by (own := [("parts", 5), ("late", 6)]) (N := ["hands", "value", "both", "one", "public", "parts", "late", "found", "k"]) (sc := (defScope s_row_of_look)) (by decide +kernel)) (by decide) (fun _ _ _ _ _ => (dg_tup 2 rfl (dgs_cons (dg_name 5 (pg_name (i := 5) nd rfl (Or.inl rfl))) (dgs_cons (dg_name 6 (pg_name (i := 6) nd rfl (Or.inl rfl))) dgs_nil)))) (fun _ _ _ _ _ => (dts_one (dt_cmp (od_ne c.hu64) (pd_var 6 (pv 6)) (pd_var 4 (pv 4)) (nomark _)))) (fun _ _ _ _ _ => (pd_var 6 (pv 6)))) (pd_lst false pda_nil) (nomark _)) (ds_one (ds_ret pd_non)) ds_nil)
    (ds_cons (ds_set 7 nd rfl (Or.inl rfl) (pd_lst true pda_nil))
    (ds_cons (ds_for PassesOwn.never rfl (di_rng1 (by rfl) b_range (pda_cons (pd_op (od_add false) (pd_callB cd_len (by rfl) b_len bt_len (pda_cons (pd_var 4 (pv 4)) pda_nil)) pd_int) pda_nil)) (dg_name 8 (pg_name (i := 8) nd rfl (Or.inl rfl))) (ds_cons (ds_for PassesOwn.never rfl (di_seq (pd_var 2 (pv 2))) (dg_tup 2 rfl (dgs_cons (dg_name 5 (pg_name (i := 5) nd rfl (Or.inl rfl))) (dgs_cons (dg_name 6 (pg_name (i := 6) nd rfl (Or.inl rfl))) dgs_nil))) (ds_one (ds_expr (pd_mt .list PySem.F.plainAttrs_list PySem.F.slot_list_extend PySem.F.type_list_extend md_extend (pd_var 7 (pv 7)) (pda_cons (pd_ix xd_seq (pd_var 5 (pv 5)) (pd_var 8 (pv 8)) (fun _ _ => rfl)) pda_nil) (pe_bm PySem.F.plainAttrs_list PySem.F.slot_list_extend PySem.F.type_list_extend md_extend (pd_var 7 (pv 7)) (pda_cons (pd_ix xd_seq (pd_var 5 (pv 5)) (pd_var 8 (pv 8)) (fun _ _ => rfl)) pda_nil))))))
    (ds_one (ds_expr (pd_mt .list PySem.F.plainAttrs_list PySem.F.slot_list_extend PySem.F.type_list_extend md_extend (pd_var 7 (pv 7)) (pda_cons (pd_slice false (pd_var 4 (pv 4)) (pdo_some (pd_var 8 (pv 8))) (pdo_some (pd_op (od_add false) (pd_var 8 (pv 8)) pd_int)) (pe_slice (sd_seq false) (pd_var 4 (pv 4)) (pdo_some (pd_var 8 (pv 8))) (pdo_some (pd_op (od_add false) (pd_var 8 (pv 8)) pd_int)))) pda_nil) (pe_bm PySem.F.plainAttrs_list PySem.F.slot_list_extend PySem.F.type_list_extend md_extend (pd_var 7 (pv 7)) (pda_cons (pd_slice false (pd_var 4 (pv 4)) (pdo_some (pd_var 8 (pv 8))) (pdo_some (pd_op (od_add false) (pd_var 8 (pv 8)) pd_int)) (pe_slice (sd_seq false) (pd_var 4 (pv 4)) (pdo_some (pd_var 8 (pv 8))) (pdo_some (pd_op (od_add false) (pd_var 8 (pv 8)) pd_int)))) pda_nil)))))))
    (ds_one (ds_ret (pd_callTy cd_tuple (by rfl) b_tuple bt_tuple (pda_cons (pd_var 7 (pv 7)) pda_nil))))))))))
abbrev s__law_is_put : Stmt := top 22
theorem sc__law_is_put : FnScope ["hands", "row", "owners", "name", "one", "other"] ["hands", "row"] (defScope s__law_is_put) := ⟨rfl, rfl, rfl, by decide +kernel, rfl, by decide +kernel, by decide +kernel⟩
noncomputable def T__law_is_put_1 : DS := (sAsg (wLc false (wIt (fun d h => seqD h d) (wVar 1)) (gNm 3) wYes (wCall S__law_owner (wCons (wVar 0) (wCons (wVar 3) wNil))) [3]) (gNm 2))
noncomputable def T__law_is_put_2 : DS := (sFor (wZipN (wCons (wVar 2) (wCons (wSl false (wVar 2) (wPart (wC (.int 1))) wNo) wNil))) (gTp 2 (gsCons (gNm 4) (gsCons (gNm 5) gsNil))) (sIf (wAndT (wT (wOp (isD true) (wVar 4) (wC .non))) (wAndT (wT (wOp (isD true) (wVar 5) (wC .non))) (wT (wOp rGt (wVar 4) (wVar 5))))) (sRet (wC (.bl false))) sNil))
noncomputable def T__law_is_put_3 : DS := (sRet (wC (.bl true)))
noncomputable def R__law_is_put_2 : DS := (sSeq T__law_is_put_2 T__law_is_put_3)
noncomputable def B__law_is_put : DS := (sSeq T__law_is_put_1 R__law_is_put_2)
noncomputable def S__law_is_put : List D → MH → DK → Prop := fnS 2 6 B__law_is_put
theorem ok__law_is_put {P : Program} {w : World} {K : PySem.W.Frag} {mg : Str → Option Value} {base : Heap} {f : Addr} {fd : FuncData} (DD : DefAt K mg "_law_is_put" s__law_is_put ["hands", "row"] f fd) (b_zip : mg "zip" = none) {f__law_owner : Addr} {fd__law_owner : FuncData} (D__law_owner : DefAt K mg "_law_owner" s__law_owner ["hands", "name"] f__law_owner fd__law_owner) (F__law_owner : FnG P w K mg base 1 f__law_owner fd__law_owner ["hands", "name"] S__law_owner) : FnG P w K mg base 2 f fd ["hands", "row"] S__law_is_put := by
  have nd := (sc__law_is_put).nd
  exact fnG_of (k := 1) DD.fn sc__law_is_put rfl rfl fun cdv A outer s H E c =>
    (ds_cons (ds_setLc false 2 (own := [("name", 3)]) rfl nd rfl rfl (sw_true rfl rfl rfl (by decide +kernel)) (di_seq (pd_var 1 (pv 1))) (blkOk_by (own := [("name", 3)]) (N := ["hands", "row", "owners", "name", "one", "other"]) (sc := (defScope s__law_is_put)) (by decide +kernel)) (by decide) (fun _ _ _ _ _ => (dg_name 3 (pg_name (i := 3) nd rfl (Or.inl rfl)))) (fun _ _ _ _ _ => dts_nil) (fun _ _ _ _ _ => (pd_call F__law_owner c.guards (c.room.mono (by decide)) (by rfl) D__law_owner.at_ D__law_owner.fn.kp D__law_owner.bd (pda_cons (pd_var 0 (pv 0)) (pda_cons (pd_var 3 (pv 3)) pda_nil)))))
    (ds_cons (ds_for PassesOwn.never rfl (di_zipN (by rfl) b_zip (pda_cons (pd_var 2 (pv 2)) (pda_cons (pd_slice false (pd_var 2 (pv 2)) (pdo_some pd_int) pdo_none (pe_slice (sd_seq false) (pd_var 2 (pv 2)) (pdo_some pd_int) pdo_none)) pda_nil))) (dg_tup 2 rfl (dgs_cons (dg_name 4 (pg_name (i := 4) nd rfl (Or.inl rfl))) (dgs_cons (dg_name 5 (pg_name (i := 5) nd rfl (Or.inl rfl))) dgs_nil))) (ds_one (ds_if (dt_bo (dw_and (dt_cmp od_isnot (pd_var 4 (pv 4)) pd_non (nomark _)) (dw_and (dt_cmp od_isnot (pd_var 5 (pv 5)) pd_non (nomark _)) (dw_and1 (dt_cmp od_gt (pd_var 4 (pv 4)) (pd_var 5 (pv 5)) (nomark _)))))) (ds_one (ds_ret pd_bl)) ds_nil)))
    (ds_one (ds_ret pd_bl))))
abbrev s_are_alike : Stmt := top 7
theorem sc_are_alike : FnScope ["hands", "one", "other"] ["hands", "one", "other"] (defScope s_are_alike) := ⟨rfl, rfl, rfl, by decide +kernel, rfl, by decide +kernel, by decide +kernel⟩
noncomputable def B_are_alike : DS := (sRet (wOp (rEq false) (wCall S_look_told (wCons (wVar 0) (wCons (wVar 1) wNil))) (wCall S_look_told (wCons (wVar 0) (wCons (wVar 2) wNil)))))
noncomputable def S_are_alike : List D → MH → DK → Prop := fnS 3 3 B_are_alike
theorem ok_are_alike {P : Program} {w : World} {K : PySem.W.Frag} {mg : Str → Option Value} {base : Heap} {f : Addr} {fd : FuncData} (DD : DefAt K mg "are_alike" s_are_alike ["hands", "one", "other"] f fd) {f_look_told : Addr} {fd_look_told : FuncData} (D_look_told : DefAt K mg "look_told" s_look_told ["hands", "row"] f_look_told fd_look_told) (F_look_told : FnG P w K mg base 4 f_look_told fd_look_told ["hands", "row"] S_look_told) : FnG P w K mg base 5 f fd ["hands", "one", "other"] S_are_alike := by
  have nd := (sc_are_alike).nd
  exact fnG_of (k := 4) DD.fn sc_are_alike rfl rfl fun cdv A outer s H E c =>
    (ds_one (ds_ret (pd_cmp (od_eq c.hu64) (pd_call F_look_told c.guards (c.room.mono (by decide)) (by rfl) D_look_told.at_ D_look_told.fn.kp D_look_told.bd (pda_cons (pd_var 0 (pv 0)) (pda_cons (pd_var 1 (pv 1)) pda_nil))) (pd_call F_look_told c.guards (c.room.mono (by decide)) (by rfl) D_look_told.at_ D_look_told.fn.kp D_look_told.bd (pda_cons (pd_var 0 (pv 0)) (pda_cons (pd_var 2 (pv 2)) pda_nil))) (nomark _))))
abbrev s_names_of : Stmt := top 1
theorem sc_names_of : FnScope ["hands", "own", "public", "found", "names"] ["hands"] (defScope s_names_of) := ⟨rfl, rfl, rfl, by decide +kernel, rfl, by decide +kernel, by decide +kernel⟩
noncomputable def T_names_of_1 : DS := (sAsg (wVar 0) (gTp 2 (gsCons (gNm 1) (gsCons (gNm 2) gsNil))))
noncomputable def T_names_of_2 : DS := (sAsg (wLst true wNil) (gNm 3))
noncomputable def T_names_of_3 : DS := (sFor (wIt (fun d h => seqD h d) (wVar 1)) (gNm 4) (sExp (wMt .list mExtend (wVar 3) (wCons (wVar 4) wNil))))
noncomputable def T_names_of_4 : DS := (sRet (wTup (wStar (wVar 3) (wStar (wVar 2) wNil))))
noncomputable def R_names_of_3 : DS := (sSeq T_names_of_3 T_names_of_4)
noncomputable def R_names_of_2 : DS := (sSeq T_names_of_2 R_names_of_3)
noncomputable def B_names_of : DS := (sSeq T_names_of_1 R_names_of_2)
noncomputable def S_names_of : List D → MH → DK → Prop := fnS 1 5 B_names_of
theorem ok_names_of {P : Program} {w : World} {K : PySem.W.Frag} {mg : Str → Option Value} {base : Heap} {f : Addr} {fd : FuncData} (DD : DefAt K mg "names_of" s_names_of ["hands"] f fd) : FnG P w K mg base 1 f fd ["hands"] S_names_of := by
  have nd := (sc_names_of).nd
  exact fnG_of (k := 0) DD.fn sc_names_of rfl rfl fun cdv A outer s H E c =>
    (ds_cons (ds_asg (pd_var 0 (pv 0)) (dg_tup 2 rfl (dgs_cons (dg_name 1 (pg_name (i := 1) nd rfl (Or.inl rfl))) (dgs_cons (dg_name 2 (pg_name (i := 2) nd rfl (Or.inl rfl))) dgs_nil))))
    (ds_cons (ds_set 3 nd rfl (Or.inl rfl) (pd_lst true pda_nil))
    (ds_cons (ds_for PassesOwn.never rfl (di_seq (pd_var 1 (pv 1))) (dg_name 4 (pg_name (i := 4) nd rfl (Or.inl rfl))) (ds_one (ds_expr (pd_mt .list PySem.F.plainAttrs_list PySem.F.slot_list_extend PySem.F.type_list_extend md_extend (pd_var 3 (pv 3)) (pda_cons (pd_var 4 (pv 4)) pda_nil) (pe_bm PySem.F.plainAttrs_list PySem.F.slot_list_extend PySem.F.type_list_extend md_extend (pd_var 3 (pv 3)) (pda_cons (pd_var 4 (pv 4)) pda_nil))))))
    (ds_one (ds_ret (pd_tup (pda_star (pd_var 3 (pv 3)) (pda_star (pd_var 2 (pv 2)) pda_nil (StX.pa_star (pd_var 2 (pv 2)) pda_nil)) (StX.pa_star (pd_var 3 (pv 3)) (pda_star (pd_var 2 (pv 2)) pda_nil (StX.pa_star (pd_var 2 (pv 2)) pda_nil))))))))))
abbrev s_law : Stmt := top 24
theorem sc_law : FnScope ["script", "source", "lap", "hands", "names", "row", "k", "led", "look", "due", "one", "told", "turn", "other", "name", "hand", "late", "is_one", "odd", "value"] ["script"] (defScope s_law) := ⟨rfl, rfl, rfl, by decide +kernel, rfl, by decide +kernel, by decide +kernel⟩
noncomputable def T_law_1 : DS := (sIf (wT (wOp (rEq true) (wCall rRepr (wCons (wLst false (wCons (wCall S_told_row (wCons (wVar 3) (wCons (wVar 10) wNil))) (wCons (wCall S_look_told (wCons (wVar 3) (wCons (wVar 10) wNil))) wNil))) wNil)) (wCall rRepr (wCons (wLst false (wCons (wOp rIx (wVar 9) (wC (.int 0))) (wCons (wVar 8) wNil))) wNil)))) (sRet (wC (.bl false))) sNil)
noncomputable def T_law_2 : DS := (sIf (wOrT (wT (wOp (isD true) (wCall S_are_alike (wCons (wVar 3) (wCons (wVar 5) (wCons (wVar 10) wNil)))) (wC (.bl true)))) (wT (wOp (isD true) (wCall S_is_row (wCons (wVar 3) (wCons (wVar 10) wNil))) (wC (.bl true))))) (sRet (wC (.bl false))) sNil)
noncomputable def T_law_3 : DS := (sAsg (wCall S__law_pick (wCons (wVar 1) (wCons (wCall rMax2 (wCons (wC (.int 1)) (wCons (wCall rLen (wCons (wVar 13) wNil)) wNil))) wNil))) (gNm 6))
noncomputable def T_law_4 : DS := (sAsg (wOp (rAdd false) (wOp (rAdd false) (wSl false (wVar 13) wNo (wPart (wVar 6))) (wSl false (wVar 13) (wPart (wOp (rAdd false) (wVar 6) (wC (.int 1)))) wNo)) (wLst false (wCons (wCall S__law_of (wCons (wVar 1) (wCons (wOp (rAdd false) (wSl false (wVar 13) (wPart (wVar 6)) (wPart (wOp (rAdd false) (wVar 6) (wC (.int 1))))) (wLst false (wCons (wCall S__law_of (wCons (wVar 1) (wCons (wVar 4) wNil))) wNil))) wNil))) wNil))) (gNm 13))
noncomputable def T_law_5 : DS := (sAsg (wCall S__law_hands (wCons (wVar 1) wNil)) (gNm 3))
noncomputable def T_law_6 : DS := (sAsg (wCall S__law_names (wCons (wVar 3) wNil)) (gNm 4))
noncomputable def T_law_7 : DS := (sAsg (wCall rTuple (wCons (wLc false (wRng1 (wCons (wCall S__law_pick (wCons (wVar 1) (wCons (wC (.int 7)) wNil))) wNil)) (gNm 6) wYes (wCall S__law_of (wCons (wVar 1) (wCons (wVar 4) wNil))) [6]) wNil)) (gNm 5))
noncomputable def T_law_8 : DS := (sAsg (wTup (wCons (wCall S__law_led (wCons (wVar 3) (wCons (wVar 5) wNil))) (wCons (wCall S__law_look (wCons (wVar 3) (wCons (wVar 5) wNil))) wNil))) (gTp 2 (gsCons (gNm 7) (gsCons (gNm 8) gsNil))))
noncomputable def T_law_9 : DS := (sAsg (wLc false (wIt (fun d h => seqD h d) (wVar 7)) (gNm 10) (wTru (wCall S__law_is_put (wCons (wVar 3) (wCons (wVar 10) wNil)))) (wVar 10) [10]) (gNm 9))
noncomputable def T_law_10 : DS := (sIf (wOrT (wT (wOp (rEq true) (wCall rLen (wCons (wVar 9) wNil)) (wC (.int 1)))) (wT (wOp (rEq true) (wCall rRepr (wCons (wCall S_names_of (wCons (wVar 3) wNil)) wNil)) (wCall rRepr (wCons (wVar 4) wNil))))) (sRet (wC (.bl false))) sNil)
noncomputable def T_law_11 : DS := (sAsg (wLst false (wCons (wCall S_look_told (wCons (wVar 3) (wCons (wVar 5) wNil))) (wCons (wCall S_told_row (wCons (wVar 3) (wCons (wVar 5) wNil))) (wCons (wCall S_row_of_look (wCons (wVar 3) (wCons (wVar 8) wNil))) wNil)))) (gNm 11))
noncomputable def T_law_12 : DS := (sIf (wT (wOp (rEq true) (wCall rRepr (wCons (wVar 11) wNil)) (wCall rRepr (wCons (wLst false (wCons (wVar 8) (wCons (wOp rIx (wVar 9) (wC (.int 0))) (wCons (wOp rIx (wVar 9) (wC (.int 0))) wNil)))) wNil)))) (sRet (wC (.bl false))) sNil)
noncomputable def T_law_13 : DS := (sFor (wIt (fun d h => seqD h d) (wLc false (wRng1 (wCons (wC (.int 4)) wNil)) (gNm 12) wYes (wCall S__law_of (wCons (wVar 1) (wCons (wVar 7) wNil))) [12])) (gNm 10) (sSeq T_law_1 T_law_2))
noncomputable def T_law_14 : DS := (sAsg (wLc false (wIt (fun d h => seqD h d) (wVar 5)) (gNm 14) wYes (wVar 14) [14]) (gNm 13))
noncomputable def T_law_15 : DS := (sFor (wRng1 (wCons (wOp (rAdd false) (wC (.int 1)) (wCall S__law_pick (wCons (wVar 1) (wCons (wC (.int 2)) wNil)))) wNil)) (gNm 12) (sSeq T_law_3 T_law_4))
noncomputable def T_law_16 : DS := (sIf (wT (wOp (rEq true) (wCall rRepr (wCons (wCall S_are_alike (wCons (wVar 3) (wCons (wVar 5) (wCons (wCall rTuple (wCons (wVar 13) wNil)) wNil)))) wNil)) (wCall rRepr (wCons (wOp (rIn false) (wCall rTuple (wCons (wVar 13) wNil)) (wVar 7)) wNil)))) (sRet (wC (.bl false))) sNil)
noncomputable def T_law_17 : DS := (sPar 15 14 (wCons (wCall S__law_pick (wCons (wVar 1) (wCons (wCall rLen (wCons (wOp rIx (wVar 3) (wC (.int 0))) wNil)) wNil))) (wCons (wCall S__law_of (wCons (wVar 1) (wCons (wVar 4) wNil))) wNil)))
noncomputable def T_law_18 : DS := (sAsg (wLst false (wCons (wCall S_look_of (wCons (wVar 3) (wCons (wVar 5) (wCons (wVar 15) wNil)))) (wCons (wCall S_hand_of (wCons (wVar 3) (wCons (wVar 14) wNil))) (wCons (wCall S_is_seen (wCons (wVar 3) (wCons (wVar 14) (wCons (wVar 15) wNil)))) wNil)))) (gNm 11))
noncomputable def T_law_19 : DS := (sIf (wT (wOp (rEq true) (wCall rRepr (wCons (wVar 11) wNil)) (wCall rRepr (wCons (wLst false (wCons (wOp rIx (wVar 8) (wVar 15)) (wCons (wCall S__law_owner (wCons (wVar 3) (wCons (wVar 14) wNil))) (wCons (wOp (rIn false) (wVar 14) (wOp (rAdd false) (wOp rIx (wOp rIx (wVar 3) (wC (.int 0))) (wVar 15)) (wOp rIx (wVar 3) (wC (.int 1))))) wNil)))) wNil)))) (sRet (wC (.bl false))) sNil)
noncomputable def T_law_20 : DS := (sAsg (wOp (rAdd false) (wOp (rAdd false) (wSl false (wVar 8) wNo (wPart (wVar 15))) (wTup (wCons (wOp (rAdd false) (wOp rIx (wVar 8) (wVar 15)) (wTup (wCons (wVar 14) wNil))) wNil))) (wSl false (wVar 8) (wPart (wOp (rAdd false) (wVar 15) (wC (.int 1)))) wNo)) (gNm 16))
noncomputable def T_law_21 : DS := (sAsg (wOrV (wOp (rIn false) (wVar 14) (wOp rIx (wOp rIx (wVar 3) (wC (.int 0))) (wVar 15))) (wAndV (wOp (rIn false) (wVar 14) (wOp rIx (wVar 3) (wC (.int 1)))) (wOp (rEq false) (wCall rLen (wCons (wVar 8) wNil)) (wC (.int 1))))) (gNm 17))
noncomputable def T_law_22 : DS := (sIf (wT (wOp (rEq false) (wOp (isD false) (wCall S_row_of_look (wCons (wVar 3) (wCons (wVar 16) wNil))) (wC .non)) (wVar 17))) (sRet (wC (.bl false))) sNil)
noncomputable def T_law_23 : DS := (sAsg (wLst false (wCons (wSl false (wVar 8) wNo (wPart (wUn rNeg (wC (.int 1))))) (wCons (wCall (rList false) (wCons (wVar 8) wNil)) (wCons (wC .non) (wCons (wOp (rAdd false) (wVar 8) (wTup (wCons (wTup wNil) wNil))) (wCons (wCall rTuple (wCons (wLc false (wIt (fun d h => seqD h d) (wVar 8)) (gNm 10) wYes (wCall (rList false) (wCons (wVar 10) wNil)) [10]) wNil)) wNil)))))) (gNm 18))
noncomputable def T_law_24 : DS := (sIf (wT (wOp (rEq true) (wLc false (wIt (fun d h => seqD h d) (wVar 18)) (gNm 19) wYes (wCall S_row_of_look (wCons (wVar 3) (wCons (wVar 19) wNil))) [19]) (wOp (rMul false) (wLst false (wCons (wC .non) wNil)) (wC (.int 5))))) (sRet (wC (.bl false))) sNil)
noncomputable def T_law_25 : DS := (sAsg (wLst false (wCons (wOp (rAdd false) (wVar 5) (wTup (wCons (wC (.str "z")) wNil))) (wCons (wCall (rList false) (wCons (wVar 5) wNil)) (wCons (wC .non) (wCons (wOp (rAdd false) (wVar 5) (wTup (wCons (wC (.int 1)) wNil))) (wCons (wC (.str "a")) wNil)))))) (gNm 18))
noncomputable def T_law_26 : DS := (sIf (wT (wOp (rEq true) (wLc false (wIt (fun d h => seqD h d) (wVar 18)) (gNm 19) wYes (wCall S_is_row (wCons (wVar 3) (wCons (wVar 19) wNil))) [19]) (wOp (rMul false) (wLst false (wCons (wC (.bl false)) wNil)) (wC (.int 5))))) (sRet (wC (.bl false))) sNil)
noncomputable def R_law_25 : DS := (sSeq T_law_25 T_law_26)
noncomputable def R_law_24 : DS := (sSeq T_law_24 R_law_25)
noncomputable def R_law_23 : DS := (sSeq T_law_23 R_law_24)
noncomputable def R_law_22 : DS := (sSeq T_law_22 R_law_23)
noncomputable def R_law_21 : DS := (sSeq T_law_21 R_law_22)
noncomputable def R_law_20 : DS := (sSeq T_law_20 R_law_21)
noncomputable def R_law_19 : DS := (sSeq T_law_19 R_law_20)
noncomputable def R_law_18 : DS := (sSeq T_law_18 R_law_19)
noncomputable def R_law_17 : DS := (sSeq T_law_17 R_law_18)
noncomputable def R_law_16 : DS := (sSeq T_law_16 R_law_17)
noncomputable def R_law_15 : DS := (sSeq T_law_15 R_law_16)
noncomputable def R_law_14 : DS := (sSeq T_law_14 R_law_15)
noncomputable def R_law_13 : DS := (sSeq T_law_13 R_law_14)
noncomputable def R_law_12 : DS := (sSeq T_law_12 R_law_13)
noncomputable def R_law_11 : DS := (sSeq T_law_11 R_law_12)
noncomputable def R_law_10 : DS := (sSeq T_law_10 R_law_11)
noncomputable def R_law_9 : DS := (sSeq T_law_9 R_law_10)
noncomputable def R_law_8 : DS := (sSeq T_law_8 R_law_9)
noncomputable def R_law_7 : DS := (sSeq T_law_7 R_law_8)
noncomputable def R_law_6 : DS := (sSeq T_law_6 R_law_7)
noncomputable def T_law_27 : DS := (sAsg (wCall S__law_source (wCons (wVar 0) wNil)) (gNm 1))
noncomputable def T_law_28 : DS := (sFor (wRng1 (wCons (wC (.int 3)) wNil)) (gNm 2) (sSeq T_law_5 R_law_6))
noncomputable def T_law_29 : DS := (sRet (wC (.bl true)))
noncomputable def R_law_28 : DS := (sSeq T_law_28 T_law_29)
noncomputable def B_law : DS := (sSeq T_law_27 R_law_28)
noncomputable def S_law : List D → MH → DK → Prop := fnS 1 20 B_law
theorem ok_law {P : Program} {w : World} {K : PySem.W.Frag} {mg : Str → Option Value} {base : Heap} {f : Addr} {fd : FuncData} (DD : DefAt K mg "law" s_law ["script"] f fd) (b_range : mg "range" = none) (b_tuple : mg "tuple" = none) (b_len : mg "len" = none) (b_repr : mg "repr" = none) (b_max : mg "max" = none) (b_list : mg "list" = none) {f__law_source : Addr} {fd__law_source : FuncData} (D__law_source : DefAt K mg "_law_source" s__law_source ["script"] f__law_source fd__law_source) (F__law_source : FnG P w K mg base 1 f__law_source fd__law_source ["script"] S__law_source) {f__law_hands : Addr} {fd__law_hands : FuncData} (D__law_hands : DefAt K mg "_law_hands" s__law_hands ["source"] f__law_hands fd__law_hands) (F__law_hands : FnG P w K mg base 3 f__law_hands fd__law_hands ["source"] S__law_hands) {f__law_names : Addr} {fd__law_names : FuncData} (D__law_names : DefAt K mg "_law_names" s__law_names ["hands"] f__law_names fd__law_names) (F__law_names : FnG P w K mg base 1 f__law_names fd__law_names ["hands"] S__law_names) {f__law_pick : Addr} {fd__law_pick : FuncData} (D__law_pick : DefAt K mg "_law_pick" s__law_pick ["source", "many"] f__law_pick fd__law_pick) (F__law_pick : FnG P w K mg base 1 f__law_pick fd__law_pick ["source", "many"] S__law_pick) {f__law_of : Addr} {fd__law_of : FuncData} (D__law_of : DefAt K mg "_law_of" s__law_of ["source", "some"] f__law_of fd__law_of) (F__law_of : FnG P w K mg base 2 f__law_of fd__law_of ["source", "some"] S__law_of) {f__law_led : Addr} {fd__law_led : FuncData} (D__law_led : DefAt K mg "_law_led" s__law_led ["hands", "row"] f__law_led fd__law_led) (F__law_led : FnG P w K mg base 2 f__law_led fd__law_led ["hands", "row"] S__law_led) {f__law_look : Addr} {fd__law_look : FuncData} (D__law_look : DefAt K mg "_law_look" s__law_look ["hands", "row"] f__law_look fd__law_look) (F__law_look : FnG P w K mg base 1 f__law_look fd__law_look ["hands", "row"] S__law_look) {f__law_is_put : Addr} {fd__law_is_put : FuncData} (D__law_is_put : DefAt K mg "_law_is_put" s__law_is_put ["hands", "row"] f__law_is_put fd__law_is_put) (F__law_is_put : FnG P w K mg base 2 f__law_is_put fd__law_is_put ["hands", "row"] S__law_is_put) {f_names_of : Addr} {fd_names_of : FuncData} (D_names_of : DefAt K mg "names_of" s_names_of ["hands"] f_names_of fd_names_of) (F_names_of : FnG P w K mg base 1 f_names_of fd_names_of ["hands"] S_names_of) {f_row_of_look : Addr} {fd_row_of_look : FuncData} (D_row_of_look : DefAt K mg "row_of_look" s_row_of_look ["hands", "value"] f_row_of_look fd_row_of_look) (F_row_of_look : FnG P w K mg base 5 f_row_of_look fd_row_of_look ["hands", "value"] S_row_of_look) {f_told_row : Addr} {fd_told_row : FuncData} (D_told_row : DefAt K mg "told_row" s_told_row ["hands", "row"] f_told_row fd_told_row) (F_told_row : FnG P w K mg base 3 f_told_row fd_told_row ["hands", "row"] S_told_row) {f_look_told : Addr} {fd_look_told : FuncData} (D_look_told : DefAt K mg "look_told" s_look_told ["hands", "row"] f_look_told fd_look_told) (F_look_told : FnG P w K mg base 4 f_look_told fd_look_told ["hands", "row"] S_look_told) {f_are_alike : Addr} {fd_are_alike : FuncData} (D_are_alike : DefAt K mg "are_alike" s_are_alike ["hands", "one", "other"] f_are_alike fd_are_alike) (F_are_alike : FnG P w K mg base 5 f_are_alike fd_are_alike ["hands", "one", "other"] S_are_alike) {f_is_row : Addr} {fd_is_row : FuncData} (D_is_row : DefAt K mg "is_row" s_is_row ["hands", "value"] f_is_row fd_is_row) (F_is_row : FnG P w K mg base 2 f_is_row fd_is_row ["hands", "value"] S_is_row) {f_is_seen : Addr} {fd_is_seen : FuncData} (D_is_seen : DefAt K mg "is_seen" s_is_seen ["hands", "name", "hand"] f_is_seen fd_is_seen) (F_is_seen : FnG P w K mg base 2 f_is_seen fd_is_seen ["hands", "name", "hand"] S_is_seen) {f_hand_of : Addr} {fd_hand_of : FuncData} (D_hand_of : DefAt K mg "hand_of" s_hand_of ["hands", "name"] f_hand_of fd_hand_of) (F_hand_of : FnG P w K mg base 1 f_hand_of fd_hand_of ["hands", "name"] S_hand_of) {f_look_of : Addr} {fd_look_of : FuncData} (D_look_of : DefAt K mg "look_of" s_look_of ["hands", "row", "hand"] f_look_of fd_look_of) (F_look_of : FnG P w K mg base 3 f_look_of fd_look_of ["hands", "row", "hand"] S_look_of) {f__law_owner : Addr} {fd__law_owner : FuncData} (D__law_owner : DefAt K mg "_law_owner" s__law_owner ["hands", "name"] f__law_owner fd__law_owner) (F__law_owner : FnG P w K mg base 1 f__law_owner fd__law_owner ["hands", "name"] S__law_owner) : FnG P w K mg base 6 f fd ["script"] S_law := by
  have nd := (sc_law).nd
  exact fnG_of (k := 5) DD.fn sc_law rfl rfl fun cdv A outer s H E c =>
    (ds_cons (ds_set 1 nd rfl (Or.inr rfl) (pd_call F__law_source c.guards (c.room.mono (by decide)) (by rfl) D__law_source.at_ D__law_source.fn.kp D__law_source.bd (pda_cons (pd_var 0 (pv 0)) pda_nil)))
    (ds_cons (ds_for PassesOwn.never rfl (di_rng1 (by rfl) b_range (pda_cons pd_int pda_nil)) (dg_name 2 (pg_name (i := 2) nd rfl (Or.inl rfl))) (ds_cons (ds_set 3 nd rfl (Or.inr rfl) (pd_call F__law_hands c.guards (c.room.mono (by decide)) (by rfl) D__law_hands.at_ D__law_hands.fn.kp D__law_hands.bd (pda_cons (pd_var 1 (pv 1)) pda_nil)))
    (ds_cons (ds_set 4 nd rfl (Or.inr rfl) (pd_call F__law_names c.guards (c.room.mono (by decide)) (by rfl) D__law_names.at_ D__law_names.fn.kp D__law_names.bd (pda_cons (pd_var 3 (pv 3)) pda_nil)))
    (ds_cons (ds_set 5 nd rfl (Or.inl rfl) (pd_callTy cd_tuple (by rfl) b_tuple bt_tuple (pda_cons (pd_lc false (own := [("k", 6)]) rfl nd (di_rng1 (by rfl) b_range (pda_cons (pd_call F__law_pick c.guards (c.room.mono (by decide)) (by rfl) D__law_pick.at_ D__law_pick.fn.kp D__law_pick.bd (pda_cons (pd_var 1 (pv 1)) (pda_cons pd_int pda_nil))) pda_nil)) (blkOk_by (own := [("k", 6)]) (N := ["script", "source", "lap", "hands", "names", "row", "k", "led", "look", "due", "one", "told", "turn", "other", "name", "hand", "late", "is_one", "odd", "value"]) (sc := (defScope s_law)) (by decide +kernel)) (by decide) (fun _ _ _ _ _ => (dg_name 6 (pg_name (i := 6) nd rfl (Or.inl rfl)))) (fun _ _ _ _ _ => dts_nil) (fun _ _ _ _ _ => (pd_call F__law_of c.guards (c.room.mono (by decide)) (by rfl) D__law_of.at_ D__law_of.fn.kp D__law_of.bd (pda_cons (pd_var 1 (pv 1)) (pda_cons (pd_var 4 (pv 4)) pda_nil))))) pda_nil)))
    (ds_cons (ds_asg (pd_tup (pda_cons (pd_call F__law_led c.guards (c.room.mono (by decide)) (by rfl) D__law_led.at_ D__law_led.fn.kp D__law_led.bd (pda_cons (pd_var 3 (pv 3)) (pda_cons (pd_var 5 (pv 5)) pda_nil))) (pda_cons (pd_call F__law_look c.guards (c.room.mono (by decide)) (by rfl) D__law_look.at_ D__law_look.fn.kp D__law_look.bd (pda_cons (pd_var 3 (pv 3)) (pda_cons (pd_var 5 (pv 5)) pda_nil))) pda_nil))) (dg_tup 2 rfl (dgs_cons (dg_name 7 (pg_name (i := 7) nd rfl (Or.inr rfl))) (dgs_cons (dg_name 8 (pg_name (i := 8) nd rfl (Or.inl rfl))) dgs_nil))))
    (ds_cons (ds_setLc false 9 (own := [("one", 10)]) rfl nd rfl rfl (sw_true rfl rfl rfl (by decide +kernel)) (di_seq (pd_var 7 (pv 7))) (blkOk_by (own := [("one", 10)]) (N := ["script", "source", "lap", "hands", "names", "row", "k", "led", "look", "due", "one", "told", "turn", "other", "name", "hand", "late", "is_one", "odd", "value"]) (sc := (defScope s_law)) (by decide +kernel)) (by decide) (fun _ _ _ _ _ => (dg_name 10 (pg_name (i := 10) nd rfl (Or.inl rfl)))) (fun _ _ _ _ _ => (dts_one (dt_tru (pd_call F__law_is_put c.guards (c.room.mono (by decide)) (by rfl) D__law_is_put.at_ D__law_is_put.fn.kp D__law_is_put.bd (pda_cons (pd_var 3 (pv 3)) (pda_cons (pd_var 10 (pv 10)) pda_nil)))))) (fun _ _ _ _ _ => (pd_var 10 (pv 10))))
    (ds_cons (ds_if (dt_bo (dw_or (dt_cmp (od_ne c.hu64) (pd_callB cd_len (by rfl) b_len bt_len (pda_cons (pd_var 9 (pv 9)) pda_nil)) pd_int (nomark _)) (dw_or1 (dt_cmp (od_ne c.hu64) (pd_callB (cd_repr c.guards c.hu64) (by rfl) b_repr bt_repr (pda_cons (pd_call F_names_of c.guards (c.room.mono (by decide)) (by rfl) D_names_of.at_ D_names_of.fn.kp D_names_of.bd (pda_cons (pd_var 3 (pv 3)) pda_nil)) pda_nil)) (pd_callB (cd_repr c.guards c.hu64) (by rfl) b_repr bt_repr (pda_cons (pd_var 4 (pv 4)) pda_nil)) (nomark _))))) (ds_one (ds_ret pd_bl)) ds_nil)
    (ds_cons (ds_set 11 nd rfl (Or.inl rfl) (pd_lst false (pda_cons (pd_call F_look_told c.guards (c.room.mono (by decide)) (by rfl) D_look_told.at_ D_look_told.fn.kp D_look_told.bd (pda_cons (pd_var 3 (pv 3)) (pda_cons (pd_var 5 (pv 5)) pda_nil))) (pda_cons (pd_call F_told_row c.guards (c.room.mono (by decide)) (by rfl) D_told_row.at_ D_told_row.fn.kp D_told_row.bd (pda_cons (pd_var 3 (pv 3)) (pda_cons (pd_var 5 (pv 5)) pda_nil))) (pda_cons (pd_call F_row_of_look c.guards (c.room.mono (by decide)) (by rfl) D_row_of_look.at_ D_row_of_look.fn.kp D_row_of_look.bd (pda_cons (pd_var 3 (pv 3)) (pda_cons (pd_var 8 (pv 8)) pda_nil))) pda_nil)))))
    (ds_cons (ds_if (dt_cmp (od_ne c.hu64) (pd_callB (cd_repr c.guards c.hu64) (by rfl) b_repr bt_repr (pda_cons (pd_var 11 (pv 11)) pda_nil)) (pd_callB (cd_repr c.guards c.hu64) (by rfl) b_repr bt_repr (pda_cons (pd_lst false (pda_cons (pd_var 8 (pv 8)) (pda_cons (pd_ix xd_seq (pd_var 9 (pv 9)) pd_int (fun _ _ => rfl)) (pda_cons (pd_ix xd_seq (pd_var 9 (pv 9)) pd_int (fun _ _ => rfl)) pda_nil)))) pda_nil)) (nomark _)) (ds_one (ds_ret pd_bl)) ds_nil)
    (ds_cons (ds_for PassesOwn.never rfl (di_seq (pd_lc false (own := [("turn", 12)]) rfl nd (di_rng1 (by rfl) b_range (pda_cons pd_int pda_nil)) (blkOk_by (own := [("turn", 12)]) (N := ["script", "source", "lap", "hands", "names", "row", "k", "led", "look", "due", "one", "told", "turn", "other", "name", "hand", "late", "is_one", "odd", "value"]) (sc := (defScope s_law)) (by decide +kernel)) (by decide) (fun _ _ _ _ _ => (dg_name 12 (pg_name (i := 12) nd rfl (Or.inl rfl)))) (fun _ _ _ _ _ => dts_nil) (fun _ _ _ _ _ => (pd_call F__law_of c.guards (c.room.mono (by decide)) (by rfl) D__law_of.at_ D__law_of.fn.kp D__law_of.bd (pda_cons (pd_var 1 (pv 1)) (pda_cons (pd_var 7 (pv 7)) pda_nil)))))) (dg_name 10 (pg_name (i := 10) nd rfl (Or.inl rfl))) (ds_cons (ds_if (dt_cmp (od_ne c.hu64) (pd_callB (cd_repr c.guards c.hu64) (by rfl) b_repr bt_repr (pda_cons (pd_lst false (pda_cons (pd_call F_told_row c.guards (c.room.mono (by decide)) (by rfl) D_told_row.at_ D_told_row.fn.kp D_told_row.bd (pda_cons (pd_var 3 (pv 3)) (pda_cons (pd_var 10 (pv 10)) pda_nil))) (pda_cons (pd_call F_look_told c.guards (c.room.mono (by decide)) (by rfl) D_look_told.at_ D_look_told.fn.kp D_look_told.bd (pda_cons (pd_var 3 (pv 3)) (pda_cons (pd_var 10 (pv 10)) pda_nil))) pda_nil))) pda_nil)) (pd_callB (cd_repr c.guards c.hu64) (by rfl) b_repr bt_repr (pda_cons (pd_lst false (pda_cons (pd_ix xd_seq (pd_var 9 (pv 9)) pd_int (fun _ _ => rfl)) (pda_cons (pd_var 8 (pv 8)) pda_nil))) pda_nil)) (nomark _)) (ds_one (ds_ret pd_bl)) ds_nil)
    (ds_one (ds_if (dt_bo (dw_or (dt_cmp od_isnot (pd_call F_are_alike c.guards (c.room.mono (by decide)) (by rfl) D_are_alike.at_ D_are_alike.fn.kp D_are_alike.bd (pda_cons (pd_var 3 (pv 3)) (pda_cons (pd_var 5 (pv 5)) (pda_cons (pd_var 10 (pv 10)) pda_nil)))) pd_bl (nomark _)) (dw_or1 (dt_cmp od_isnot (pd_call F_is_row c.guards (c.room.mono (by decide)) (by rfl) D_is_row.at_ D_is_row.fn.kp D_is_row.bd (pda_cons (pd_var 3 (pv 3)) (pda_cons (pd_var 10 (pv 10)) pda_nil))) pd_bl (nomark _))))) (ds_one (ds_ret pd_bl)) ds_nil))))
    (ds_cons (ds_setLc false 13 (own := [("name", 14)]) rfl nd rfl rfl (sw_true rfl rfl rfl (by decide +kernel)) (di_seq (pd_var 5 (pv 5))) (blkOk_by (own := [("name", 14)]) (N := ["script", "source", "lap", "hands", "names", "row", "k", "led", "look", "due", "one", "told", "turn", "other", "name", "hand", "late", "is_one", "odd", "value"]) (sc := (defScope s_law)) (by decide +kernel)) (by decide) (fun _ _ _ _ _ => (dg_name 14 (pg_name (i := 14) nd rfl (Or.inl rfl)))) (fun _ _ _ _ _ => dts_nil) (fun _ _ _ _ _ => (pd_var 14 (pv 14))))
    (ds_cons (ds_for PassesOwn.never rfl (di_rng1 (by rfl) b_range (pda_cons (pd_op (od_add false) pd_int (pd_call F__law_pick c.guards (c.room.mono (by decide)) (by rfl) D__law_pick.at_ D__law_pick.fn.kp D__law_pick.bd (pda_cons (pd_var 1 (pv 1)) (pda_cons pd_int pda_nil)))) pda_nil)) (dg_name 12 (pg_name (i := 12) nd rfl (Or.inl rfl))) (ds_cons (ds_set 6 nd rfl (Or.inl rfl) (pd_call F__law_pick c.guards (c.room.mono (by decide)) (by rfl) D__law_pick.at_ D__law_pick.fn.kp D__law_pick.bd (pda_cons (pd_var 1 (pv 1)) (pda_cons (pd_callB (cd_max2 rfl) (by rfl) b_max bt_max (pda_cons pd_int (pda_cons (pd_callB cd_len (by rfl) b_len bt_len (pda_cons (pd_var 13 (pv 13)) pda_nil)) pda_nil))) pda_nil))))
    (ds_one (ds_set 13 nd rfl (Or.inl rfl) (pd_op (od_add false) (pd_op (od_add false) (pd_slice false (pd_var 13 (pv 13)) pdo_none (pdo_some (pd_var 6 (pv 6))) (pe_slice (sd_seq false) (pd_var 13 (pv 13)) pdo_none (pdo_some (pd_var 6 (pv 6))))) (pd_slice false (pd_var 13 (pv 13)) (pdo_some (pd_op (od_add false) (pd_var 6 (pv 6)) pd_int)) pdo_none (pe_slice (sd_seq false) (pd_var 13 (pv 13)) (pdo_some (pd_op (od_add false) (pd_var 6 (pv 6)) pd_int)) pdo_none))) (pd_lst false (pda_cons (pd_call F__law_of c.guards (c.room.mono (by decide)) (by rfl) D__law_of.at_ D__law_of.fn.kp D__law_of.bd (pda_cons (pd_var 1 (pv 1)) (pda_cons (pd_op (od_add false) (pd_slice false (pd_var 13 (pv 13)) (pdo_some (pd_var 6 (pv 6))) (pdo_some (pd_op (od_add false) (pd_var 6 (pv 6)) pd_int)) (pe_slice (sd_seq false) (pd_var 13 (pv 13)) (pdo_some (pd_var 6 (pv 6))) (pdo_some (pd_op (od_add false) (pd_var 6 (pv 6)) pd_int)))) (pd_lst false (pda_cons (pd_call F__law_of c.guards (c.room.mono (by decide)) (by rfl) D__law_of.at_ D__law_of.fn.kp D__law_of.bd (pda_cons (pd_var 1 (pv 1)) (pda_cons (pd_var 4 (pv 4)) pda_nil))) pda_nil))) pda_nil))) pda_nil)))))))
    (ds_cons (ds_if (dt_cmp (od_ne c.hu64) (pd_callB (cd_repr c.guards c.hu64) (by rfl) b_repr bt_repr (pda_cons (pd_call F_are_alike c.guards (c.room.mono (by decide)) (by rfl) D_are_alike.at_ D_are_alike.fn.kp D_are_alike.bd (pda_cons (pd_var 3 (pv 3)) (pda_cons (pd_var 5 (pv 5)) (pda_cons (pd_callTy cd_tuple (by rfl) b_tuple bt_tuple (pda_cons (pd_var 13 (pv 13)) pda_nil)) pda_nil)))) pda_nil)) (pd_callB (cd_repr c.guards c.hu64) (by rfl) b_repr bt_repr (pda_cons (pd_cmp (od_in c.hu65) (pd_callTy cd_tuple (by rfl) b_tuple bt_tuple (pda_cons (pd_var 13 (pv 13)) pda_nil)) (pd_var 7 (pv 7)) rfl) pda_nil)) (nomark _)) (ds_one (ds_ret pd_bl)) ds_nil)
    (ds_cons (ds_par 15 14 rfl nd rfl rfl (by decide) rfl rfl (pda_cons (pd_call F__law_pick c.guards (c.room.mono (by decide)) (by rfl) D__law_pick.at_ D__law_pick.fn.kp D__law_pick.bd (pda_cons (pd_var 1 (pv 1)) (pda_cons (pd_callB cd_len (by rfl) b_len bt_len (pda_cons (pd_ix xd_seq (pd_var 3 (pv 3)) pd_int (fun _ _ => rfl)) pda_nil)) pda_nil))) (pda_cons (pd_call F__law_of c.guards (c.room.mono (by decide)) (by rfl) D__law_of.at_ D__law_of.fn.kp D__law_of.bd (pda_cons (pd_var 1 (pv 1)) (pda_cons (pd_var 4 (pv 4)) pda_nil))) pda_nil)) rfl)
    (ds_cons (ds_set 11 nd rfl (Or.inl rfl) (pd_lst false (pda_cons (pd_call F_look_of c.guards (c.room.mono (by decide)) (by rfl) D_look_of.at_ D_look_of.fn.kp D_look_of.bd (pda_cons (pd_var 3 (pv 3)) (pda_cons (pd_var 5 (pv 5)) (pda_cons (pd_var 15 (pv 15)) pda_nil)))) (pda_cons (pd_call F_hand_of c.guards (c.room.mono (by decide)) (by rfl) D_hand_of.at_ D_hand_of.fn.kp D_hand_of.bd (pda_cons (pd_var 3 (pv 3)) (pda_cons (pd_var 14 (pv 14)) pda_nil))) (pda_cons (pd_call F_is_seen c.guards (c.room.mono (by decide)) (by rfl) D_is_seen.at_ D_is_seen.fn.kp D_is_seen.bd (pda_cons (pd_var 3 (pv 3)) (pda_cons (pd_var 14 (pv 14)) (pda_cons (pd_var 15 (pv 15)) pda_nil)))) pda_nil)))))
    (ds_cons (ds_if (dt_cmp (od_ne c.hu64) (pd_callB (cd_repr c.guards c.hu64) (by rfl) b_repr bt_repr (pda_cons (pd_var 11 (pv 11)) pda_nil)) (pd_callB (cd_repr c.guards c.hu64) (by rfl) b_repr bt_repr (pda_cons (pd_lst false (pda_cons (pd_ix xd_seq (pd_var 8 (pv 8)) (pd_var 15 (pv 15)) (fun _ _ => rfl)) (pda_cons (pd_call F__law_owner c.guards (c.room.mono (by decide)) (by rfl) D__law_owner.at_ D__law_owner.fn.kp D__law_owner.bd (pda_cons (pd_var 3 (pv 3)) (pda_cons (pd_var 14 (pv 14)) pda_nil))) (pda_cons (pd_cmp (od_in c.hu65) (pd_var 14 (pv 14)) (pd_op (od_add false) (pd_ix xd_seq (pd_ix xd_seq (pd_var 3 (pv 3)) pd_int (fun _ _ => rfl)) (pd_var 15 (pv 15)) (fun _ _ => rfl)) (pd_ix xd_seq (pd_var 3 (pv 3)) pd_int (fun _ _ => rfl))) rfl) pda_nil)))) pda_nil)) (nomark _)) (ds_one (ds_ret pd_bl)) ds_nil)
    (ds_cons (ds_set 16 nd rfl (Or.inl rfl) (pd_op (od_add false) (pd_op (od_add false) (pd_slice false (pd_var 8 (pv 8)) pdo_none (pdo_some (pd_var 15 (pv 15))) (pe_slice (sd_seq false) (pd_var 8 (pv 8)) pdo_none (pdo_some (pd_var 15 (pv 15))))) (pd_tup (pda_cons (pd_op (od_add false) (pd_ix xd_seq (pd_var 8 (pv 8)) (pd_var 15 (pv 15)) (fun _ _ => rfl)) (pd_tup (pda_cons (pd_var 14 (pv 14)) pda_nil))) pda_nil))) (pd_slice false (pd_var 8 (pv 8)) (pdo_some (pd_op (od_add false) (pd_var 15 (pv 15)) pd_int)) pdo_none (pe_slice (sd_seq false) (pd_var 8 (pv 8)) (pdo_some (pd_op (od_add false) (pd_var 15 (pv 15)) pd_int)) pdo_none))))
    (ds_cons (ds_set 17 nd rfl (Or.inl rfl) (pd_or (pd_cmp (od_in c.hu65) (pd_var 14 (pv 14)) (pd_ix xd_seq (pd_ix xd_seq (pd_var 3 (pv 3)) pd_int (fun _ _ => rfl)) (pd_var 15 (pv 15)) (fun _ _ => rfl)) rfl) (pd_one (pd_and (pd_cmp (od_in c.hu65) (pd_var 14 (pv 14)) (pd_ix xd_seq (pd_var 3 (pv 3)) pd_int (fun _ _ => rfl)) rfl) (pd_one (pd_cmp (od_eq c.hu64) (pd_callB cd_len (by rfl) b_len bt_len (pda_cons (pd_var 8 (pv 8)) pda_nil)) pd_int (nomark _)))))))
    (ds_cons (ds_if (dt_cmp (od_eq c.hu64) (pd_cmp od_is (pd_call F_row_of_look c.guards (c.room.mono (by decide)) (by rfl) D_row_of_look.at_ D_row_of_look.fn.kp D_row_of_look.bd (pda_cons (pd_var 3 (pv 3)) (pda_cons (pd_var 16 (pv 16)) pda_nil))) pd_non (nomark _)) (pd_var 17 (pv 17)) (nomark _)) (ds_one (ds_ret pd_bl)) ds_nil)
    (ds_cons (ds_set 18 nd rfl (Or.inl rfl) (pd_lst false (pda_cons (pd_slice false (pd_var 8 (pv 8)) pdo_none (pdo_some (pd_un ud_neg pd_int)) (pe_slice (sd_seq false) (pd_var 8 (pv 8)) pdo_none (pdo_some (pd_un ud_neg pd_int)))) (pda_cons (pd_callTy (cd_list false) (by rfl) b_list bt_list (pda_cons (pd_var 8 (pv 8)) pda_nil)) (pda_cons pd_non (pda_cons (pd_op (od_add false) (pd_var 8 (pv 8)) (pd_tup (pda_cons (pd_tup pda_nil) pda_nil))) (pda_cons (pd_callTy cd_tuple (by rfl) b_tuple bt_tuple (pda_cons (pd_lc false (own := [("one", 10)]) rfl nd (di_seq (pd_var 8 (pv 8))) (blkOk_by (own := [("one", 10)]) (N := ["script", "source", "lap", "hands", "names", "row", "k", "led", "look", "due", "one", "told", "turn", "other", "name", "hand", "late", "is_one", "odd", "value"]) (sc := (defScope s_law)) (by decide +kernel)) (by decide) (fun _ _ _ _ _ => (dg_name 10 (pg_name (i := 10) nd rfl (Or.inl rfl)))) (fun _ _ _ _ _ => dts_nil) (fun _ _ _ _ _ => (pd_callTy (cd_list false) (by rfl) b_list bt_list (pda_cons (pd_var 10 (pv 10)) pda_nil)))) pda_nil)) pda_nil)))))))
    (ds_cons (ds_if (dt_cmp (od_ne c.hu64) (pd_lc false (own := [("value", 19)]) rfl nd (di_seq (pd_var 18 (pv 18))) (blkOk_by (own := [("value", 19)]) (N := ["script", "source", "lap", "hands", "names", "row", "k", "led", "look", "due", "one", "told", "turn", "other", "name", "hand", "late", "is_one", "odd", "value"]) (sc := (defScope s_law)) (by decide +kernel)) (by decide) (fun _ _ _ _ _ => (dg_name 19 (pg_name (i := 19) nd rfl (Or.inl rfl)))) (fun _ _ _ _ _ => dts_nil) (fun _ _ _ _ _ => (pd_call F_row_of_look c.guards (c.room.mono (by decide)) (by rfl) D_row_of_look.at_ D_row_of_look.fn.kp D_row_of_look.bd (pda_cons (pd_var 3 (pv 3)) (pda_cons (pd_var 19 (pv 19)) pda_nil))))) (pd_op (od_mul false) (pd_lst false (pda_cons pd_non pda_nil)) pd_int) (nomark _)) (ds_one (ds_ret pd_bl)) ds_nil)
    (ds_cons (ds_set 18 nd rfl (Or.inl rfl) (pd_lst false (pda_cons (pd_op (od_add false) (pd_var 5 (pv 5)) (pd_tup (pda_cons pd_str pda_nil))) (pda_cons (pd_callTy (cd_list false) (by rfl) b_list bt_list (pda_cons (pd_var 5 (pv 5)) pda_nil)) (pda_cons pd_non (pda_cons (pd_op (od_add false) (pd_var 5 (pv 5)) (pd_tup (pda_cons pd_int pda_nil))) (pda_cons pd_str pda_nil)))))))
    (ds_one (ds_if (dt_cmp (od_ne c.hu64) (pd_lc false (own := [("value", 19)]) rfl nd (di_seq (pd_var 18 (pv 18))) (blkOk_by (own := [("value", 19)]) (N := ["script", "source", "lap", "hands", "names", "row", "k", "led", "look", "due", "one", "told", "turn", "other", "name", "hand", "late", "is_one", "odd", "value"]) (sc := (defScope s_law)) (by decide +kernel)) (by decide) (fun _ _ _ _ _ => (dg_name 19 (pg_name (i := 19) nd rfl (Or.inl rfl)))) (fun _ _ _ _ _ => dts_nil) (fun _ _ _ _ _ => (pd_call F_is_row c.guards (c.room.mono (by decide)) (by rfl) D_is_row.at_ D_is_row.fn.kp D_is_row.bd (pda_cons (pd_var 3 (pv 3)) (pda_cons (pd_var 19 (pv 19)) pda_nil))))) (pd_op (od_mul false) (pd_lst false (pda_cons pd_bl pda_nil)) pd_int) (nomark _)) (ds_one (ds_ret pd_bl)) ds_nil))))))))))))))))))))))))
    (ds_one (ds_ret pd_bl))))
theorem all_ok {P : Program} {w : World} {K : PySem.W.Frag} {mg : Str → Option Value} {base : Heap} {f__law_source : Addr} {fd__law_source : FuncData} (D__law_source : DefAt K mg "_law_source" s__law_source ["script"] f__law_source fd__law_source) {f__law_pick : Addr} {fd__law_pick : FuncData} (D__law_pick : DefAt K mg "_law_pick" s__law_pick ["source", "many"] f__law_pick fd__law_pick) {f__law_of : Addr} {fd__law_of : FuncData} (D__law_of : DefAt K mg "_law_of" s__law_of ["source", "some"] f__law_of fd__law_of) {f__law_hands : Addr} {fd__law_hands : FuncData} (D__law_hands : DefAt K mg "_law_hands" s__law_hands ["source"] f__law_hands fd__law_hands) {f__law_names : Addr} {fd__law_names : FuncData} (D__law_names : DefAt K mg "_law_names" s__law_names ["hands"] f__law_names fd__law_names) {f__law_owner : Addr} {fd__law_owner : FuncData} (D__law_owner : DefAt K mg "_law_owner" s__law_owner ["hands", "name"] f__law_owner fd__law_owner) {f__law_led : Addr} {fd__law_led : FuncData} (D__law_led : DefAt K mg "_law_led" s__law_led ["hands", "row"] f__law_led fd__law_led) {f__law_look : Addr} {fd__law_look : FuncData} (D__law_look : DefAt K mg "_law_look" s__law_look ["hands", "row"] f__law_look fd__law_look) {f_hand_of : Addr} {fd_hand_of : FuncData} (D_hand_of : DefAt K mg "hand_of" s_hand_of ["hands", "name"] f_hand_of fd_hand_of) {f_is_seen : Addr} {fd_is_seen : FuncData} (D_is_seen : DefAt K mg "is_seen" s_is_seen ["hands", "name", "hand"] f_is_seen fd_is_seen) {f_look_of : Addr} {fd_look_of : FuncData} (D_look_of : DefAt K mg "look_of" s_look_of ["hands", "row", "hand"] f_look_of fd_look_of) {f_look_told : Addr} {fd_look_told : FuncData} (D_look_told : DefAt K mg "look_told" s_look_told ["hands", "row"] f_look_told fd_look_told) {f_stretches : Addr} {fd_stretches : FuncData} (D_stretches : DefAt K mg "stretches" s_stretches ["hands", "row"] f_stretches fd_stretches) {f_stretch_told : Addr} {fd_stretch_told : FuncData} (D_stretch_told : DefAt K mg "stretch_told" s_stretch_told ["hands", "part"] f_stretch_told fd_stretch_told) {f_told_row : Addr} {fd_told_row : FuncData} (D_told_row : DefAt K mg "told_row" s_told_row ["hands", "row"] f_told_row fd_told_row) {f_is_row : Addr} {fd_is_row : FuncData} (D_is_row : DefAt K mg "is_row" s_is_row ["hands", "value"] f_is_row fd_is_row) {f_are_rows : Addr} {fd_are_rows : FuncData} (D_are_rows : DefAt K mg "are_rows" s_are_rows ["hands", "value"] f_are_rows fd_are_rows) {f_row_of_look : Addr} {fd_row_of_look : FuncData} (D_row_of_look : DefAt K mg "row_of_look" s_row_of_look ["hands", "value"] f_row_of_look fd_row_of_look) {f__law_is_put : Addr} {fd__law_is_put : FuncData} (D__law_is_put : DefAt K mg "_law_is_put" s__law_is_put ["hands", "row"] f__law_is_put fd__law_is_put) {f_are_alike : Addr} {fd_are_alike : FuncData} (D_are_alike : DefAt K mg "are_alike" s_are_alike ["hands", "one", "other"] f_are_alike fd_are_alike) {f_names_of : Addr} {fd_names_of : FuncData} (D_names_of : DefAt K mg "names_of" s_names_of ["hands"] f_names_of fd_names_of) {f_law : Addr} {fd_law : FuncData} (D_law : DefAt K mg "law" s_law ["script"] f_law fd_law) (b_int : mg "int" = none) (b_abs : mg "abs" = none) (b_len : mg "len" = none) (b_max : mg "max" = none) (b_range : mg "range" = none) (b_min : mg "min" = none) (b_tuple : mg "tuple" = none) (b_enumerate : mg "enumerate" = none) (b_zip : mg "zip" = none) (b_isinstance : mg "isinstance" = none) (b_str : mg "str" = none) (b_all : mg "all" = none) (b_repr : mg "repr" = none) (b_list : mg "list" = none) : FnG P w K mg base 6 f_law fd_law ["script"] S_law := by
  have F__law_source := ok__law_source (P := P) (w := w) (base := base) D__law_source b_int b_abs
  have F__law_pick := ok__law_pick (P := P) (w := w) (base := base) D__law_pick b_len b_max b_int
  have F__law_of := ok__law_of (P := P) (w := w) (base := base) D__law_of b_len D__law_pick F__law_pick
  have F__law_hands := ok__law_hands (P := P) (w := w) (base := base) D__law_hands b_range b_len b_min b_tuple D__law_pick F__law_pick D__law_of F__law_of
  have F__law_names := ok__law_names (P := P) (w := w) (base := base) D__law_names
  have F__law_owner := ok__law_owner (P := P) (w := w) (base := base) D__law_owner b_enumerate
  have F__law_led := ok__law_led (P := P) (w := w) (base := base) D__law_led b_len b_range D__law_owner F__law_owner
  have F__law_look := ok__law_look (P := P) (w := w) (base := base) D__law_look b_tuple
  have F_hand_of := ok_hand_of (P := P) (w := w) (base := base) D_hand_of b_enumerate
  have F_is_seen := ok_is_seen (P := P) (w := w) (base := base) D_is_seen D_hand_of F_hand_of
  have F_look_of := ok_look_of (P := P) (w := w) (base := base) D_look_of b_tuple D_is_seen F_is_seen
  have F_look_told := ok_look_told (P := P) (w := w) (base := base) D_look_told b_len b_range b_tuple D_look_of F_look_of
  have F_stretches := ok_stretches (P := P) (w := w) (base := base) D_stretches D_hand_of F_hand_of
  have F_stretch_told := ok_stretch_told (P := P) (w := w) (base := base) D_stretch_told b_len b_range D_hand_of F_hand_of
  have F_told_row := ok_told_row (P := P) (w := w) (base := base) D_told_row b_zip b_tuple D_stretches F_stretches D_stretch_told F_stretch_told
  have F_is_row := ok_is_row (P := P) (w := w) (base := base) D_is_row b_isinstance b_tuple b_str b_all D_hand_of F_hand_of
  have F_are_rows := ok_are_rows (P := P) (w := w) (base := base) D_are_rows b_isinstance b_tuple b_len b_all b_enumerate D_is_row F_is_row D_look_of F_look_of
  have F_row_of_look := ok_row_of_look (P := P) (w := w) (base := base) D_row_of_look b_len b_range b_tuple D_are_rows F_are_rows D_stretches F_stretches
  have F__law_is_put := ok__law_is_put (P := P) (w := w) (base := base) D__law_is_put b_zip D__law_owner F__law_owner
  have F_are_alike := ok_are_alike (P := P) (w := w) (base := base) D_are_alike D_look_told F_look_told
  have F_names_of := ok_names_of (P := P) (w := w) (base := base) D_names_of
  have F_law := ok_law (P := P) (w := w) (base := base) D_law b_range b_tuple b_len b_repr b_max b_list D__law_source F__law_source D__law_hands F__law_hands D__law_names F__law_names D__law_pick F__law_pick D__law_of F__law_of D__law_led F__law_led D__law_look F__law_look D__law_is_put F__law_is_put D_names_of F_names_of D_row_of_look F_row_of_look D_told_row F_told_row D_look_told F_look_told D_are_alike F_are_alike D_is_row F_is_row D_is_seen F_is_seen D_hand_of F_hand_of D_look_of F_look_of D__law_owner F__law_owner
  exact F_law
end Lw

namespace Lw
open PySem DL
open En (en dep)
local macro_rules | `(tactic| boot_fact) => `(tactic| try simp only [ev_var, List.getElem?_cons_zero, List.getElem?_cons_succ, ev_ex, ev_exI, ev_exI1, ev_exI2, ev_par, ev_par3, ev_exB, ev_exO, ev_exL, ev_some, ev_ex1, ev_exT, ev_add, ev_addL, ev_addT, ev_addTe, ev_addeT, ev_addee, ev_sub, ev_mul, ev_mulL, ev_mulT, ev_fdiv, ev_mod, ev_cmp, ev_toInt, ev_toIntB, ev_i2, ev_i1, ev_neg, ev_slV, ev_sl, ev_slL, ev_slT, seq_en, seq_lv, seq_tup, seq_lvD, lst_lv, lst_lvD, lstD_lvD, ev_tuple, ev_list, ev_lenT, ev_lenL, ev_len, ev_lenV, ev_ixT, ev_ixL, ev_fst, ev_snd, at_0, at_1, at_2, at_3, ev_ix, ev_ixV, ev_gTp, ev_gTp2, ev_gsC, ev_gsN, ev_dput, ev_disp, ev_pr0, ev_pr1, wLc_eq, sFor_eq,
  wC, wNil, wCons, wTup, wLst, qTup, wOp, wUn, wCall, wT, wNotT, wAndT, wOrT, wAndV, wOrV, wNotV, wIf, wChain, sNil, sSeq, sBrk, sCnt, sExp, sRet, sRetN, sIf, gNm, gLs, sAsg, sPar, sPar3, sAug, gSb, wIt, wRng1, wRng2, wMt, wMt0, wNo, wPart, wSl, wRev, wStar, wEnum, wZipS, wZipN, wYes, wLstR1, wTru, wIsi, List.set_cons_zero, List.set_cons_succ, wipeD, List.length_cons, List.length_nil, true_and, and_true, if_true, if_false, Bool.false_eq_true, enumD_map, Nat.zero_le, ev_qF, ev_qT, DL.envOf, List.map_cons, List.map_nil, List.cons_append, List.nil_append, List.replicate])
/-! # drawing -/
structure Src where
  c : List Int
  l : Int
  m : Int
  t : Int
def dicS (s : Src) : List (L2.Key × D) := [(.inr "cells", .ob 0), (.inr "left", .int s.l), (.inr "mixed", .int s.m), (.inr "turn", .int s.t)]
def hs (s : Src) (r : MH) : MH := .lst (s.c.map D.int) :: .dic (dicS s) :: r
section
variable {s : Src} {r : MH} {Q : DK} {env : DL.Env} {E : EndsD}
theorem sg_cells : rDG (.ob 1) (.str "cells") (hs s r) Q = Q (.ob 0) (hs s r) := propext ⟨fun ⟨n, kvs, k, v, e1, e2, e3, e4, q⟩ => by
  cases e1; cases e2
  cases k with
  | inl i => cases e3
  | inr x => cases e3; have z : getD (dicS s) (.inr "cells") = some (.ob 0) := rfl; rw [z] at e4; cases e4; exact q, fun q => ⟨1, dicS s, .inr "cells", _, rfl, rfl, rfl, rfl, q⟩⟩
theorem sg_left : rDG (.ob 1) (.str "left") (hs s r) Q = Q (.int s.l) (hs s r) := propext ⟨fun ⟨n, kvs, k, v, e1, e2, e3, e4, q⟩ => by
  cases e1; cases e2
  cases k with
  | inl i => cases e3
  | inr x => cases e3; have z : getD (dicS s) (.inr "left") = some (.int s.l) := rfl; rw [z] at e4; cases e4; exact q, fun q => ⟨1, dicS s, .inr "left", _, rfl, rfl, rfl, rfl, q⟩⟩
theorem sg_mixed : rDG (.ob 1) (.str "mixed") (hs s r) Q = Q (.int s.m) (hs s r) := propext ⟨fun ⟨n, kvs, k, v, e1, e2, e3, e4, q⟩ => by
  cases e1; cases e2
  cases k with
  | inl i => cases e3
  | inr x => cases e3; have z : getD (dicS s) (.inr "mixed") = some (.int s.m) := rfl; rw [z] at e4; cases e4; exact q, fun q => ⟨1, dicS s, .inr "mixed", _, rfl, rfl, rfl, rfl, q⟩⟩
theorem sg_turn : rDG (.ob 1) (.str "turn") (hs s r) Q = Q (.int s.t) (hs s r) := propext ⟨fun ⟨n, kvs, k, v, e1, e2, e3, e4, q⟩ => by
  cases e1; cases e2
  cases k with
  | inl i => cases e3
  | inr x => cases e3; have z : getD (dicS s) (.inr "turn") = some (.int s.t) := rfl; rw [z] at e4; cases e4; exact q, fun q => ⟨1, dicS s, .inr "turn", _, rfl, rfl, rfl, rfl, q⟩⟩
theorem sp_left {i : Int} {K : MH → Prop} : rPut (.ob 1) (.str "left") (.int i) (hs s r) K = K (hs { s with l := i } r) := propext ⟨fun ⟨n, kvs, k, e1, e2, e3, _, q⟩ => by
  cases e1; cases e2
  cases k with
  | inl i => cases e3
  | inr x => cases e3; exact q, fun q => ⟨1, dicS s, .inr "left", rfl, rfl, rfl, (by show 4 < sizeLine; decide), q⟩⟩
theorem sp_turn {i : Int} {K : MH → Prop} : rPut (.ob 1) (.str "turn") (.int i) (hs s r) K = K (hs { s with t := i } r) := propext ⟨fun ⟨n, kvs, k, e1, e2, e3, _, q⟩ => by
  cases e1; cases e2
  cases k with
  | inl i => cases e3
  | inr x => cases e3; exact q, fun q => ⟨1, dicS s, .inr "turn", rfl, rfl, rfl, (by show 4 < sizeLine; decide), q⟩⟩
theorem sp_mixed {i : Int} {K : MH → Prop} : rPut (.ob 1) (.str "mixed") (.int i) (hs s r) K = K (hs { s with m := i } r) := propext ⟨fun ⟨n, kvs, k, e1, e2, e3, _, q⟩ => by
  cases e1; cases e2
  cases k with
  | inl i => cases e3
  | inr x => cases e3; exact q, fun q => ⟨1, dicS s, .inr "mixed", rfl, rfl, rfl, (by show 4 < sizeLine; decide), q⟩⟩
theorem s_len : rLen [.ob 0] (hs s r) Q = Q (.int s.c.length) (hs s r) := propext ⟨fun ⟨_, e, q⟩ => by cases e; rw [List.length_map] at q; exact q, fun q => ⟨_, rfl, by rw [List.length_map]; exact q⟩⟩
theorem s_pop (hc : 0 < s.c.length) (q : ∀ i, Q (.int i) (hs { s with c := s.c.dropLast } r)) : Kd.ok (hs s r) (.ob 0) .list ∧ mPop (.ob 0) [] (hs s r) Q := by
  refine ⟨⟨_, rfl⟩, 0, s.c.map D.int, .int s.c[s.c.length - 1], rfl, rfl, rfl, ?_, ?_⟩
  · rw [List.length_map, List.getElem?_map, List.getElem?_eq_getElem (by omega)]; rfl
  · rw [List.map_dropLast.symm]; exact q _
end
/-- behind a def that draws: the source otherwise, all else as it was -/
theorem fin_src {s s' : Src} {r ls : MH} {Q : DK} {d : D} (g : Gd 9 d) (q : Q d (hs s' r)) : fin (hs s r) Q d (hs s' (r ++ ls)) := by
  refine ⟨d, fz_pure g, fun i o hi ho => ?_, ?_⟩
  · match i with
    | 0 => cases ho; right; show obsLts _ (s'.c.map D.int); generalize s'.c = c; induction c with
      | nil => trivial
      | cons x c ih => exact ⟨trivial, ih⟩
    | 1 => cases ho; right; exact ⟨Nat.lt_of_lt_of_le Nat.zero_lt_one (Nat.le_add_left 1 _), trivial, trivial, trivial, trivial⟩
    | i + 2 =>
      left
      have hi' : i < r.length := by simpa [hs] using hi
      have ho' : (r ++ ls)[i]? = some o := ho
      rw [List.getElem?_append_left hi'] at ho'
      exact ho'
  · have e : (hs s' (r ++ ls)).take (hs s r).length = hs s' r := by simp [hs]
    rw [e]; exact q
theorem fin_src0 {s s' : Src} {r : MH} {Q : DK} {d : D} (g : Gd 9 d) (q : Q d (hs s' r)) : fin (hs s r) Q d (hs s' r) := by
  have z := fin_src (ls := []) (s := s) g q
  rwa [List.append_nil] at z
theorem r_pick (n : Int) (hn : n < 1073741824) (s : Src) (r : MH) (Q : DK) (q : ∀ k s', 0 ≤ k → k < max 1 n → Q (.int k) (hs s' r)) : S__law_pick [.ob 1, .int n] (hs s r) Q := by
  refine ⟨rfl, ?_⟩
  unfold B__law_pick
  boot_fact
  unfold T__law_pick_3 sWhl
  refine ⟨fun m env h => ∃ s' : Src, s'.c.length = m ∧ env = [some (.ob 1), some (.int n), none, none] ∧ h = hs s' r, ⟨_, s, rfl, rfl, rfl⟩, ?_⟩
  rintro m env h ⟨s', rfl, rfl, rfl⟩
  boot_fact
  have rest : ∀ s2 : Src, R__law_pick_4 { nx := fun x h' => fin (hs s r) Q D.non h', rt := fin (hs s r) Q } [some (D.ob 1), some (D.int n), none, none] (hs s2 r) := by
    intro s2
    unfold R__law_pick_4 T__law_pick_4 R__law_pick_5 T__law_pick_5 T__law_pick_1 T__law_pick_2
    boot_fact
    simp only [sg_left]
    boot_fact
    have mx : (if n > 1 then n else 1) = max 1 n := by
      by_cases h : n > 1
      · rw [if_pos h]; omega
      · rw [if_neg h]; omega
    have out : L2.CDiv s2.l (max 1 n) ∧ rPut (D.ob 1) (D.str "left") (D.int (s2.l / max 1 n)) (hs s2 r) fun h4 => 0 < max 1 n ∧ fin (hs s r) Q (D.int (s2.l % max 1 n)) h4 := by
      refine ⟨⟨by omega, by omega⟩, ?_⟩
      rw [sp_left]
      exact ⟨by omega, fin_src0 (s := s) trivial (q _ _ (Int.emod_nonneg _ (by omega)) (Int.emod_lt_of_pos _ (by omega)))⟩
    rw [mx]
    by_cases h1 : n < 2
    · rw [if_pos (decide_eq_true h1)]; exact out
    · rw [if_neg (by simpa using h1)]
      by_cases h2 : 1 < s2.l
      · rw [if_pos (decide_eq_true h2)]; exact out
      · rw [if_neg (by simpa using h2)]
        unfold R__law_pick_6 T__law_pick_6 R__law_pick_7 T__law_pick_7 R__law_pick_8 T__law_pick_8 R__law_pick_9 T__law_pick_9 T__law_pick_10
        boot_fact
        simp only [sg_turn, sg_mixed, ev_add, sp_turn, sp_mixed, ev_mul, ev_toInt, ev_mod, ev_fdiv]
        have b1 := Int.emod_nonneg (s2.m + (s2.t + 1) * 104729) (show (998244353 : Int) ≠ 0 by decide)
        have b2 := Int.emod_lt_of_pos (s2.m + (s2.t + 1) * 104729) (show (0 : Int) < 998244353 by decide)
        refine ⟨.inr ⟨by decide, by decide⟩, by decide, .inl ⟨by omega, by omega⟩, .inr ⟨by decide, by decide⟩, by decide, ⟨by decide, by decide⟩, by omega, fin_src0 (s := s) trivial (q _ _ (Int.emod_nonneg _ (by omega)) ?_)⟩
        have z := Int.emod_lt_of_pos (((s2.m + (s2.t + 1) * 104729) % 998244353 * ((s2.m + (s2.t + 1) * 104729) % 998244353) + (s2.t + 1) * 17) % 2147483647 / 16) (show 0 < n by omega)
        omega
  by_cases h1 : 1 < n
  · simp only [h1, decide_true, if_true, sg_left, ev_cmp, ev_exB]
    by_cases h2 : s'.l < 2
    · simp only [h2, decide_true, if_true, sg_cells, s_len, ev_cmp, ev_exB]
      by_cases h3 : (0 : Int) < s'.c.length
      · simp only [h3, decide_true, if_true, wMt0]
        refine ⟨fun env h => ∃ s2 : Src, s2.c.length < s'.c.length ∧ env = [some (D.ob 1), some (D.int n), none, none] ∧ h = hs s2 r, fun env' h' ⟨s2, a, b, c⟩ => ⟨_, a, s2, rfl, b, c⟩, ?_⟩
        refine s_pop (by omega) fun i => ?_
        boot_fact
        rw [sp_left]
        exact ⟨_, by show s'.c.dropLast.length < s'.c.length; rw [List.length_dropLast]; omega, rfl⟩
      · simp only [h3, decide_false]
        exact rest s'
    · simp only [h2, decide_false]
      exact rest s'
  · simp only [h1, decide_false]
    exact rest s'
theorem r_source (ns : List Int) (hl : ns.length ≤ 63) (Q : DK) (q : ∀ s, Q (.ob 1) (hs s [])) : S__law_source [scrD ns] [] Q := by
  refine ⟨rfl, ?_⟩
  unfold B__law_source T__law_source_1 R__law_source_2 T__law_source_2 T__law_source_3
  boot_fact
  refine ⟨⟨_, rfl⟩, ?_⟩
  refine forB_ind (ns.map D.int) (fun i env h => ∃ (m : Int) (o : Option D), env = [some (scrD ns), some (.int m), o] ∧ h = []) ⟨11, none, rfl, rfl⟩ (fun i env h ⟨m, o, _, _⟩ => rfl) ?_ ?_
  · rintro i env h d hd ⟨m, o, rfl, rfl⟩ N k
    obtain ⟨z, hz, rfl⟩ : ∃ z, ns[i]? = some z ∧ d = D.int z := by
      rw [List.getElem?_map] at hd
      obtain ⟨z, h1, h2⟩ := Option.map_eq_some_iff.mp hd
      exact ⟨z, h1, h2.symm⟩
    boot_fact
    exact ⟨.inr ⟨by decide, by decide⟩, .inr ⟨by decide, by decide⟩, by decide, k _ _ ⟨_, _, rfl, rfl⟩⟩
  · rintro env h ⟨m, o, rfl, rfl⟩
    boot_fact
    refine ⟨⟨_, rfl⟩, ?_⟩
    refine lcB_map ns D.int (fun z => .int (if z < 0 then -z else z)) rfl (Nat.le_trans hl (by decide)) (fun t _ K1 k => ?_) ?_
    · boot_fact
      exact k
    · boot_fact
      refine ⟨[(.inr "cells", .ob 0), (.inr "left", .int 1), (.inr "mixed", .int m), (.inr "turn", .int 0)], rfl, (by show 4 ≤ 15; decide), ?_⟩
      have z := q ⟨(ns.map fun z => if z < 0 then -z else z).reverse, 1, m, 0⟩
      have e : hs ⟨(ns.map fun z => if z < 0 then -z else z).reverse, 1, m, 0⟩ [] = [] ++ [MO.lst (List.map (fun z => D.int (if z < 0 then -z else z)) ns).reverse] ++ [MO.dic (mergeD [] [(.inr "cells", .ob 0), (.inr "left", .int 1), (.inr "mixed", .int m), (.inr "turn", .int 0)])] := by
        show [MO.lst _, MO.dic _] = [MO.lst _, MO.dic _]
        congr 2
        · simp [List.map_reverse, Function.comp]
      rw [e] at z
      exact z
/-- a drawn member -/
theorem r_of {α : Type} [En α] (hd : dep α ≤ 9) (xs : List α) (h0 : 0 < xs.length) (h1 : xs.length < 1073741824) (v : D) (hv : v = en xs ∨ v = .lv (xs.map en)) (s : Src) (r : MH) (Q : DK) (q : ∀ x s', x ∈ xs → Q (en x) (hs s' r)) : S__law_of [.ob 1, v] (hs s r) Q := by
  refine ⟨rfl, ?_⟩
  unfold B__law_of
  have hlen : ∀ (h : MH) (K : DK), K (.int xs.length) h → rLen [v] h K := by
    intro h K k
    rcases hv with rfl | rfl
    · rw [ev_len]; exact k
    · rw [ev_lenL, List.length_map]; exact k
  have hix : ∀ (i : Int) (h : MH) (K : DK), 0 ≤ i → i < xs.length → (∀ x, x ∈ xs → K (en x) h) → rIx v (.int i) h K := by
    intro i h K i0 i1 k
    obtain ⟨j, rfl⟩ := Int.eq_ofNat_of_zero_le i0
    have hj : j < xs.length := by omega
    have e : L2.atI (xs.map en) (j : Int) = some (en xs[j]) := by rw [at_nat, List.getElem?_map, List.getElem?_eq_getElem hj]; rfl
    rcases hv with rfl | rfl
    · rw [ev_ix]; exact ⟨_, e, k _ (List.getElem_mem hj)⟩
    · rw [ev_ixL]; exact ⟨_, e, k _ (List.getElem_mem hj)⟩
  boot_fact
  refine hlen _ _ (r_pick _ (by omega) s r _ fun k s' k0 k1 => hix k _ _ k0 (by omega) fun x hx => ?_)
  exact fin_src0 (s := s) ((En.gd x).le hd) (q x s' hx)
end Lw
namespace Lw
open PySem DL
open En (en dep)
local macro_rules | `(tactic| boot_fact) => `(tactic| try simp only [ev_var, List.getElem?_cons_zero, List.getElem?_cons_succ, ev_ex, ev_exI, ev_exI1, ev_exI2, ev_par, ev_par3, ev_exB, ev_exO, ev_exL, ev_some, ev_ex1, ev_exT, ev_add, ev_addL, ev_addT, ev_addTe, ev_addeT, ev_addee, ev_sub, ev_mul, ev_mulL, ev_mulT, ev_fdiv, ev_mod, ev_cmp, ev_toInt, ev_toIntB, ev_i2, ev_i1, ev_neg, ev_slV, ev_sl, ev_slL, ev_slT, seq_en, seq_lv, seq_tup, seq_lvD, lst_lv, lst_lvD, lstD_lvD, ev_tuple, ev_list, ev_lenT, ev_lenL, ev_len, ev_lenV, ev_ixT, ev_ixL, ev_fst, ev_snd, at_0, at_1, at_2, at_3, ev_ix, ev_ixV, ev_gTp, ev_gTp2, ev_gsC, ev_gsN, ev_dput, ev_disp, ev_pr0, ev_pr1, wLc_eq, sFor_eq,
  wC, wNil, wCons, wTup, wLst, qTup, wOp, wUn, wCall, wT, wNotT, wAndT, wOrT, wAndV, wOrV, wNotV, wIf, wChain, sNil, sSeq, sBrk, sCnt, sExp, sRet, sRetN, sIf, gNm, gLs, sAsg, sPar, sPar3, sAug, gSb, wIt, wRng1, wRng2, wMt, wMt0, wNo, wPart, wSl, wRev, wStar, wEnum, wZipS, wZipN, wYes, wLstR1, wTru, wIsi, List.set_cons_zero, List.set_cons_succ, wipeD, List.length_cons, List.length_nil, true_and, and_true, if_true, if_false, Bool.false_eq_true, enumD_map, Nat.zero_le, ev_qF, ev_qT, DL.envOf, List.map_cons, List.map_nil, List.cons_append, List.nil_append, List.replicate])
/-! # what the defs compute -/
abbrev Hands := List (List OkS) × List OkS
abbrev Row := List OkS
/-- sizes within all bounds -/
structure HB (hs : Hands) : Prop where
  n : hs.1.length ≤ 64
theorem szl {n : Nat} (h : n ≤ 100000) : n ≤ sizeLine := Nat.le_trans h (by decide)
def handOf (hs : Hands) (x : OkS) : Option Nat := ((hs.1.zipIdx.filter fun p => decide (x ∈ p.1)).map (·.2)).head?
def seen (hs : Hands) (k : Nat) (x : OkS) : Bool := decide (handOf hs x = none ∨ handOf hs x = some k)
def lookOf (hs : Hands) (row : Row) (k : Nat) : Row := row.filter (seen hs k)
def lookTold (hs : Hands) (row : Row) : List Row := (List.range hs.1.length).map (lookOf hs row)
theorem zipIdx_len {α : Type} (xs : List α) : xs.zipIdx.length = xs.length := by simp
theorem r_hand_of {hs : Hands} (hb : HB hs) (x : OkS) : Runs S_hand_of [en hs, en x] (en (handOf hs x)) := by
  intro h Q q
  refine ⟨rfl, ?_⟩
  unfold B_hand_of T_hand_of_1 T_hand_of_2
  boot_fact
  refine lcB_pure hs.1.zipIdx (fun p => .tup [.int (p.2 : Int), en p.1]) (fun p => decide (x ∈ p.1)) (fun p => .int (p.2 : Int)) (enumD_map hs.1) ?_ ?_ ?_
  · rw [zipIdx_len]; exact szl (by have := hb.n; omega)
  · intro t ht K1 K0 k
    boot_fact
    refine i_in ?_
    boot_fact
    exact k
  · boot_fact
    have e : List.map (fun p : List OkS × Nat => D.int (p.2 : Int)) (List.filter (fun p => decide (x ∈ p.1)) hs.1.zipIdx) = ((hs.1.zipIdx.filter fun p => decide (x ∈ p.1)).map (·.2)).map en := by rw [List.map_map]; rfl
    rw [e]
    have eq : handOf hs x = ((hs.1.zipIdx.filter fun p => decide (x ∈ p.1)).map (·.2)).head? := rfl
    revert eq
    generalize ((hs.1.zipIdx.filter fun p => decide (x ∈ p.1)).map (·.2)) = l
    intro eq
    refine i_neL (b := ([] : List Nat)) (by decide) ?_
    boot_fact
    cases l with
    | nil =>
      rw [eq] at q
      exact fin_gd0 trivial q
    | cons y l =>
      rw [eq] at q
      rw [if_pos (by simp)]
      exact ⟨en y, at_0, fin_gd0 (d := en y) trivial q⟩
theorem r_is_seen {hs : Hands} (hb : HB hs) (x : OkS) (k : Nat) : Runs S_is_seen [en hs, en x, .int k] (.bl (seen hs k x)) := by
  intro h Q q
  refine ⟨rfl, ?_⟩
  unfold B_is_seen
  boot_fact
  refine r_hand_of hb x _ _ ?_
  refine ⟨by decide, i_inT (fl_opt _) rfl ?_⟩
  have e : ([D.non, D.int (k : Int)].any fun z => eqD z (en (handOf hs x))) = seen hs k x := by
    unfold seen
    have e1 : eqD .non (en (handOf hs x)) = decide (none = handOf hs x) := eqD_en (none : Option Nat) (handOf hs x)
    have e2 : eqD (.int (k : Int)) (en (handOf hs x)) = decide (some k = handOf hs x) := eqD_en (some k) (handOf hs x)
    simp only [List.any_cons, List.any_nil, e1, e2, Bool.or_false]
    by_cases h1 : handOf hs x = none
    · simp [h1]
    · by_cases h2 : handOf hs x = some k
      · simp [h2]
      · simp [h1, h2, eq_comm]
  rw [e]
  exact fin_gd0 trivial q
theorem r_look_of {hs : Hands} (hb : HB hs) (row : Row) (hr : row.length ≤ 10000) (k : Nat) : Runs S_look_of [en hs, en row, .int k] (en (lookOf hs row k)) := by
  intro h Q q
  refine ⟨rfl, ?_⟩
  unfold B_look_of
  boot_fact
  refine lcB_pure row en (seen hs k) en rfl (szl (by omega)) ?_ ?_
  · intro t ht K1 K0 kk
    boot_fact
    refine r_is_seen hb t k _ _ ?_
    exact ⟨_, rfl, kk⟩
  · boot_fact
    exact fin_en0 (a := lookOf hs row k) (by decide) q
theorem r_look_told {hs : Hands} (hb : HB hs) (row : Row) (hr : row.length ≤ 10000) : Runs S_look_told [en hs, en row] (en (lookTold hs row)) := by
  intro h Q q
  refine ⟨rfl, ?_⟩
  unfold B_look_told
  boot_fact
  have b := hb.n
  refine ⟨by omega, by omega, ?_⟩
  refine lcB_map (List.range hs.1.length) (fun i : Nat => .int (i : Int)) (fun k => en (lookOf hs row k)) (congrArg some (rng0 hs.1.length)) (szl (by simp; omega)) ?_ ?_
  · intro t ht K1 kk
    boot_fact
    exact r_look_of hb row hr t _ _ kk
  · boot_fact
    have z := fin_en0 (a := lookTold hs row) (h := h) (Q := Q) (by decide) q
    unfold lookTold at z
    have e : (List.range hs.1.length).map (fun k => en (lookOf hs row k)) = ((List.range hs.1.length).map (lookOf hs row)).map en := by rw [List.map_map]; rfl
    rw [e]; exact z
theorem r_are_alike {hs : Hands} (hb : HB hs) (a b : Row) (ha : a.length ≤ 10000) (hb2 : b.length ≤ 10000) : Runs S_are_alike [en hs, en a, en b] (.bl (decide (lookTold hs a = lookTold hs b))) := by
  intro h Q q
  refine ⟨rfl, ?_⟩
  unfold B_are_alike
  boot_fact
  refine r_look_told hb a ha _ _ (r_look_told hb b hb2 _ _ (i_eq (by decide) ?_))
  simp only [Bool.false_eq_true, if_false]
  exact fin_gd0 trivial q
/-! # stretches -/
def stepS (hs : Hands) (a : List Row × Row) (x : OkS) : List Row × Row :=
  if handOf hs x = none then (a.1 ++ [[]], a.2 ++ [x]) else (a.1.dropLast ++ [(a.1.getLast?.getD []) ++ [x]], a.2)
def stretch (hs : Hands) (row : Row) : List Row × Row := row.foldl (stepS hs) ([[]], [])
/-- what stretches gives -/
abbrev Both := Lv (Lv OkS) × Lv OkS
def both (a : List Row × Row) : Both := (⟨a.1.map Lv.mk⟩, ⟨a.2⟩)
/-- the own objects of the def: the first part, all parts, the public names, the later parts -/
def stO (n : Nat) (k : Nat) : D := .ob (if k = 0 then n else n + 2 + k)
def stL (n : Nat) (p : List Row) (pub : Row) : MH := .lst ((p.headD []).map en) :: .lst ((List.range p.length).map (stO n)) :: .lst (pub.map en) :: p.tail.map fun r => .lst (r.map en)
theorem stL_new (n : Nat) (p : List Row) (pub : Row) (x : OkS) (hp : p ≠ []) : ((stL n p pub).set 2 (.lst (pub.map en ++ [en x])) ++ [MO.lst []]).set 1 (.lst ((List.range p.length).map (stO n) ++ [.ob (n + 2 + p.length)])) = stL n (p ++ [[]]) (pub ++ [x]) := by
  cases p with
  | nil => exact absurd rfl hp
  | cons a p =>
    unfold stL
    simp only [List.set_cons_succ, List.set_cons_zero, List.headD_cons, List.tail_cons, List.cons_append, List.length_append, List.length_cons, List.length_nil, List.range_succ, List.map_append, List.map_cons, List.map_nil]
    rfl
theorem r_stretches {hs : Hands} (hb : HB hs) (row : Row) (hr : row.length ≤ 10000) (v : D) (hv : v = en row) : Runs S_stretches [en hs, v] (en (both (stretch hs row))) := by
  subst hv
  intro h Q q
  refine ⟨rfl, ?_⟩
  unfold B_stretches T_stretches_3 R_stretches_4 T_stretches_4 T_stretches_5 T_stretches_1 T_stretches_2
  boot_fact
  refine ⟨by decide, ?_⟩
  have e1 : h ++ [MO.lst []] ++ [MO.lst [D.ob h.length]] ++ [MO.lst []] = h ++ stL h.length [[]] [] := by simp [stL, stO, List.range_succ]
  have e2 : (h ++ [MO.lst []]).length = h.length + 1 := by simp
  have e3 : (h ++ [MO.lst []] ++ [MO.lst [D.ob h.length]]).length = h.length + 2 := by simp
  rw [e1, e2, e3]
  refine forB_ind (row.map en) (fun i env h' => ∃ (o : Option D) (p : List Row) (pub : Row), env = [some (en hs), some (en row), some (.ob (h.length + 1)), some (.ob (h.length + 2)), o] ∧ h' = h ++ stL h.length p pub ∧ (p, pub) = stretch hs (row.take i) ∧ p ≠ [] ∧ p.length ≤ i + 1 ∧ pub.length ≤ i ∧ ∀ r ∈ p, r.length ≤ i)
    ⟨none, [[]], [], rfl, rfl, rfl, by simp, by simp, by simp, by simp⟩ (fun i env h' _ => rfl) ?_ ?_
  · rintro i env h' d hd ⟨o, p, pub, rfl, rfl, ea, np, lp, lu, lr⟩ N k
    rw [List.getElem?_map] at hd
    obtain ⟨x, hx, rfl⟩ := Option.map_eq_some_iff.mp hd
    have hlt := (List.getElem?_eq_some_iff.mp hx).1
    have et : stretch hs (row.take (i + 1)) = stepS hs (p, pub) x := by
      rw [ea]
      unfold stretch
      rw [List.take_add_one, hx]
      show List.foldl (stepS hs) ([[]], []) (row.take i ++ [x]) = _
      rw [List.foldl_append]; rfl
    boot_fact
    refine r_hand_of hb x _ _ (i_isN ?_)
    refine ⟨_, rfl, ?_⟩
    boot_fact
    have g1 : (h ++ stL h.length p pub)[h.length + 1]? = some (.lst ((List.range p.length).map (stO h.length))) := by rw [ap_get]; rfl
    by_cases hn : handOf hs x = none
    · rw [if_pos (by rw [hn]; rfl)]
      have g2 : (h ++ stL h.length p pub)[h.length + 2]? = some (.lst (pub.map en)) := by rw [ap_get]; rfl
      refine ⟨ok_list g2, i_app g2 (by rw [List.length_map]; exact Nat.lt_of_lt_of_le (show pub.length < 100000 by omega) (by decide)) ?_⟩
      rw [ap_set]
      have g3 : (h ++ (stL h.length p pub).set 2 (.lst (pub.map en ++ [en x])))[h.length + 1]? = some (.lst ((List.range p.length).map (stO h.length))) := by rw [ap_get]; rfl
      have g4 : (h ++ (stL h.length p pub).set 2 (.lst (pub.map en ++ [en x])) ++ [MO.lst []])[h.length + 1]? = some (.lst ((List.range p.length).map (stO h.length))) := by
        rw [List.append_assoc, ap_get]; rfl
      refine ⟨ok_list g3, i_app g4 (by rw [List.length_map, List.length_range]; exact Nat.lt_of_lt_of_le (show p.length < 100000 by omega) (by decide)) ?_⟩
      have el : (h ++ (stL h.length p pub).set 2 (.lst (pub.map en ++ [en x]))).length = h.length + 2 + p.length := by
        cases p with
        | nil => exact absurd rfl np
        | cons a p => simp [stL]; omega
      refine k _ _ ⟨_, p ++ [[]], pub ++ [x], rfl, ?_, ?_, by simp, by simp; omega, by simp; omega, fun r hr => ?_⟩
      · rw [el, List.append_assoc, ap_set, stL_new _ _ _ _ np]
      · rw [et]; unfold stepS; rw [if_pos hn]
      · rcases List.mem_append.mp hr with hr | hr
        · exact Nat.le_succ_of_le (lr r hr)
        · rw [List.mem_singleton.mp hr]; exact Nat.zero_le _
    · rw [if_neg (by cases e : handOf hs x with
        | none => exact absurd e hn
        | some _ => simp)]
      obtain ⟨p0, pl, rfl⟩ : ∃ p0 pl, p = p0 ++ [pl] := ⟨p.dropLast, p.getLast np, (List.dropLast_concat_getLast np).symm⟩
      have g5 : (List.range (p0 ++ [pl]).length).map (stO h.length) = (List.range p0.length).map (stO h.length) ++ [stO h.length p0.length] := by
        rw [List.length_append, List.length_singleton, List.range_succ, List.map_append]; rfl
      rw [g5] at g1
      refine ixOb g1 at_last ?_
      have g6 : (h ++ stL h.length (p0 ++ [pl]) pub)[(if p0.length = 0 then h.length else h.length + 2 + p0.length)]? = some (.lst (pl.map en)) := by
        cases p0 with
        | nil => rw [if_pos (show ([] : List Row).length = 0 from rfl), ap_get0]; rfl
        | cons a p0 =>
          rw [if_neg (by simp), Nat.add_assoc, ap_get]
          show ((MO.lst _ :: MO.lst _ :: MO.lst _ :: ((a :: p0) ++ [pl]).tail.map fun r => MO.lst (r.map en)) : MH)[2 + (p0.length + 1)]? = _
          rw [show 2 + (p0.length + 1) = p0.length + 3 by omega]
          show (((p0 ++ [pl]).map fun r => MO.lst (r.map en)) : MH)[p0.length]? = _
          rw [List.getElem?_map, List.getElem?_append_right (Nat.le_refl _), Nat.sub_self]; rfl
      have g7 : (h ++ stL h.length (p0 ++ [pl]) pub).set (if p0.length = 0 then h.length else h.length + 2 + p0.length) (.lst (pl.map en ++ [en x])) = h ++ stL h.length (p0 ++ [pl ++ [x]]) pub := by
        cases p0 with
        | nil =>
          rw [if_pos (show ([] : List Row).length = 0 from rfl), ap_set0]
          show h ++ (MO.lst (pl.map en ++ [en x]) :: _) = _
          simp [stL]
        | cons a p0 =>
          rw [if_neg (by simp), Nat.add_assoc, ap_set]
          congr 1
          show ((MO.lst _ :: MO.lst _ :: MO.lst _ :: ((a :: p0) ++ [pl]).tail.map fun r => MO.lst (r.map en)) : MH).set (2 + (p0.length + 1)) _ = _
          rw [show 2 + (p0.length + 1) = p0.length + 3 by omega]
          simp only [List.set_cons_succ, List.cons_append, List.tail_cons, List.map_append, List.map_cons, List.map_nil]
          have e9 : ((p0.map fun r : Row => MO.lst (r.map en)) ++ [MO.lst (pl.map en)]).set p0.length (.lst (pl.map en ++ [en x])) = (p0.map fun r : Row => MO.lst (r.map en)) ++ [MO.lst (pl.map en ++ [en x])] := by
            rw [List.set_append_right _ _ (by simp)]; simp
          rw [e9]
          simp [stL]
      have hll : pl.length ≤ i := lr pl (by simp)
      refine ⟨ok_list g6, i_app g6 (by rw [List.length_map]; exact Nat.lt_of_lt_of_le (show pl.length < 100000 by omega) (by decide)) ?_⟩
      rw [g7]
      refine k _ _ ⟨_, p0 ++ [pl ++ [x]], pub, rfl, rfl, ?_, by simp, by simp at lp ⊢; omega, by omega, fun r hr => ?_⟩
      · rw [et]; unfold stepS; rw [if_neg hn]; simp
      · rcases List.mem_append.mp hr with hr | hr
        · exact Nat.le_succ_of_le (lr r (List.mem_append_left _ hr))
        · rw [List.mem_singleton.mp hr, List.length_append]; simpa using hll
  · rintro env h' ⟨o, p, pub, rfl, rfl, ea, np, lp, lu, lr⟩
    rw [List.length_map, List.take_length] at ea
    boot_fact
    refine ⟨by decide, ?_⟩
    rw [← ea] at q
    have g1 : (h ++ stL h.length p pub)[h.length + 1]? = some (.lst ((List.range p.length).map (stO h.length))) := by rw [ap_get]; rfl
    have g2 : (h ++ stL h.length p pub)[h.length + 2]? = some (.lst (pub.map en)) := by rw [ap_get]; rfl
    have gk : ∀ k, k < p.length → (h ++ stL h.length p pub)[(if k = 0 then h.length else h.length + 2 + k)]? = some (.lst ((p[k]?.getD []).map en)) := by
      intro k hk
      cases p with
      | nil => exact absurd rfl np
      | cons a p =>
        cases k with
        | zero => rw [if_pos rfl, ap_get0]; rfl
        | succ k =>
          rw [if_neg (by simp), Nat.add_assoc, ap_get, show 2 + (k + 1) = k + 3 by omega]
          show ((p.map fun r => MO.lst (r.map en)) : MH)[k]? = some (.lst ((p[k]?.getD []).map en))
          have hk' : k < p.length := by simpa using hk
          rw [List.getElem?_map, List.getElem?_eq_getElem hk']; rfl
    have f2 : fz 8 h.length (h ++ stL h.length p pub) (.ob (h.length + 2)) = some (.lv (pub.map en)) := fz_ob (by omega) g2 (mapO_map fun x _ => fz_en (by decide) x)
    have f1 : fz 8 h.length (h ++ stL h.length p pub) (.ob (h.length + 1)) = some (.lv (p.map fun r => D.lv (r.map en))) := by
      refine fz_ob (by omega) g1 ?_
      have e := mapO_map (f := fz 7 h.length (h ++ stL h.length p pub)) (e := stO h.length) (g := fun k => D.lv ((p[k]?.getD []).map en)) (xs := List.range p.length) fun k hk => by
        refine fz_ob (by split <;> omega) (gk k (List.mem_range.mp hk)) (mapO_map fun x _ => fz_en (by decide) x)
      rw [e]
      congr 1
      refine List.ext_getElem (by simp) fun j h1 h2 => ?_
      simp at h1 h2
      simp [h1]
    refine fin_pure (d' := en (both (p, pub))) ?_ q
    have e3 : fz 9 h.length (h ++ stL h.length p pub) (.tup [.ob (h.length + 1), .ob (h.length + 2)]) = (mapO (fz 8 h.length (h ++ stL h.length p pub)) [.ob (h.length + 1), .ob (h.length + 2)]).map .tup := by rw [fz]
    rw [e3]
    unfold mapO mapO mapO
    rw [f1, f2]
    show some (D.tup [D.lv (p.map fun r => D.lv (r.map en)), D.lv (pub.map en)]) = some (D.tup [D.lv ((p.map Lv.mk).map en), D.lv (pub.map en)])
    rw [List.map_map]; rfl
end Lw
namespace Lw
open PySem DL
open En (en dep)
local macro_rules | `(tactic| boot_fact) => `(tactic| try simp only [ev_var, List.getElem?_cons_zero, List.getElem?_cons_succ, ev_ex, ev_exI, ev_exI1, ev_exI2, ev_par, ev_par3, ev_exB, ev_exO, ev_exL, ev_some, ev_ex1, ev_exT, ev_add, ev_addL, ev_addT, ev_addTe, ev_addeT, ev_addee, ev_sub, ev_mul, ev_mulL, ev_mulT, ev_fdiv, ev_mod, ev_cmp, ev_toInt, ev_toIntB, ev_i2, ev_i1, ev_neg, ev_slV, ev_sl, ev_slL, ev_slT, seq_en, seq_lv, seq_tup, seq_lvD, lst_lv, lst_lvD, lstD_lvD, ev_tuple, ev_list, ev_lenT, ev_lenL, ev_len, ev_lenV, ev_ixT, ev_ixL, ev_fst, ev_snd, at_0, at_1, at_2, at_3, ev_ix, ev_ixV, ev_gTp, ev_gTp2, ev_gsC, ev_gsN, ev_dput, ev_disp, ev_pr0, ev_pr1, wLc_eq, sFor_eq,
  wC, wNil, wCons, wTup, wLst, qTup, wOp, wUn, wCall, wT, wNotT, wAndT, wOrT, wAndV, wOrV, wNotV, wIf, wChain, sNil, sSeq, sBrk, sCnt, sExp, sRet, sRetN, sIf, gNm, gLs, sAsg, sPar, sPar3, sAug, gSb, wIt, wRng1, wRng2, wMt, wMt0, wNo, wPart, wSl, wRev, wStar, wEnum, wZipS, wZipN, wYes, wLstR1, wTru, wIsi, List.set_cons_zero, List.set_cons_succ, wipeD, List.length_cons, List.length_nil, true_and, and_true, if_true, if_false, Bool.false_eq_true, enumD_map, Nat.zero_le, ev_qF, ev_qT, DL.envOf, List.map_cons, List.map_nil, List.cons_append, List.nil_append, List.replicate])
def stretchTold (hs : Hands) (part : Row) : Row := (List.range hs.1.length).flatMap fun k => part.filter fun x => decide (handOf hs x = some k)
theorem flatTake {α : Type} (f : Nat → List α) (i : Nat) : (List.range (i + 1)).flatMap f = (List.range i).flatMap f ++ f i := by rw [List.range_succ, List.flatMap_append]; simp
theorem flat_len {α : Type} (f : Nat → List α) (b : Nat) (h : ∀ k, (f k).length ≤ b) : ∀ i, ((List.range i).flatMap f).length ≤ i * b
  | 0 => by simp
  | i + 1 => by
    rw [flatTake, List.length_append, Nat.succ_mul]
    exact Nat.add_le_add (flat_len f b h i) (h i)
theorem r_stretch_told {hs : Hands} (hb : HB hs) (part : Row) (hp : part.length ≤ 10000) (h : MH) (Q : DK) (q : Q (.ob h.length) (h ++ [.lst ((stretchTold hs part).map en)])) : S_stretch_told [en hs, .lv (part.map en)] h Q := by
  refine ⟨rfl, ?_⟩
  unfold B_stretch_told T_stretch_told_1 R_stretch_told_2 T_stretch_told_2 T_stretch_told_3
  boot_fact
  have b := hb.n
  refine ⟨by omega, by omega, ?_⟩
  rw [rng0]
  refine forB_ind _ (fun i env h' => ∃ (o p : Option D), env = [some (en hs), some (.lv (part.map en)), some (.ob h.length), o, p] ∧ h' = h ++ [.lst (((List.range i).flatMap fun k => part.filter fun x => decide (handOf hs x = some k)).map en)])
    ⟨none, none, rfl, rfl⟩ (fun i env h' _ => rfl) ?_ ?_
  · rintro i env h' d hd ⟨o, p, rfl, rfl⟩ N k
    rw [List.getElem?_map] at hd
    obtain ⟨j, hj, rfl⟩ := Option.map_eq_some_iff.mp hd
    obtain ⟨hlt, hj2⟩ := List.getElem?_eq_some_iff.mp hj
    rw [List.length_range] at hlt
    have : j = i := by simpa using hj2.symm
    subst this
    boot_fact
    have g : (h ++ [MO.lst (((List.range j).flatMap fun k => part.filter fun x => decide (handOf hs x = some k)).map en)])[h.length]? = some (.lst (((List.range j).flatMap fun k => part.filter fun x => decide (handOf hs x = some k)).map en)) := by rw [ap_get0]; rfl
    refine ⟨ok_list g, ?_⟩
    refine lcB_pure part en (fun x => decide (handOf hs x = some j)) en rfl (szl (by omega)) ?_ ?_
    · intro t ht K1 K0 kk
      boot_fact
      refine r_hand_of hb t _ _ ?_
      have z : eqD (en (handOf hs t)) (.int (j : Int)) = decide (handOf hs t = some j) := eqD_en (handOf hs t) (some j)
      refine i_eqD ((En.gd _).le (by decide)) trivial ?_
      rw [z]
      exact ⟨_, rfl, kk⟩
    · boot_fact
      have fl := flat_len (fun k => part.filter fun x => decide (handOf hs x = some k)) part.length (fun k => List.length_filter_le _ _) j
      have f2 := List.length_filter_le (fun x => decide (handOf hs x = some j)) part
      have f3 : j * part.length ≤ 64 * 10000 := Nat.mul_le_mul (by omega) hp
      refine i_ext g rfl (fun zs z => by cases z) (by rw [List.length_map, List.length_map]; exact Nat.le_trans (show _ ≤ 1000000 by omega) (by decide)) ?_
      rw [ap_set0]
      refine k _ _ ⟨_, _, rfl, ?_⟩
      rw [flatTake, List.map_append]
      rfl
  · rintro env h' ⟨o, p, rfl, rfl⟩
    boot_fact
    rw [List.length_map, List.length_range]
    exact q
def toldRow (hs : Hands) (row : Row) : Row :=
  stretchTold hs ((stretch hs row).1.headD []) ++ (List.zip (stretch hs row).2 (stretch hs row).1.tail).flatMap fun p => p.1 :: stretchTold hs p.2
theorem stretch_sz (hs : Hands) (row : Row) : (stretch hs row).1.length = (stretch hs row).2.length + 1 ∧ (stretch hs row).2.length ≤ row.length ∧ ∀ r ∈ (stretch hs row).1, r.length ≤ row.length := by
  unfold stretch
  suffices ∀ (l : Row) (a : List Row × Row) (n : Nat), a.1.length = a.2.length + 1 → a.2.length ≤ n → (∀ r ∈ a.1, r.length ≤ n) → (l.foldl (stepS hs) a).1.length = (l.foldl (stepS hs) a).2.length + 1 ∧ (l.foldl (stepS hs) a).2.length ≤ n + l.length ∧ ∀ r ∈ (l.foldl (stepS hs) a).1, r.length ≤ n + l.length by
    have z := this row ([[]], []) 0 rfl (Nat.le_refl _) (by simp)
    simpa using z
  intro l
  induction l with
  | nil => intro a n h1 h2 h3; exact ⟨h1, h2, h3⟩
  | cons x l ih =>
    intro a n h1 h2 h3
    have z := ih (stepS hs a x) (n + 1) ?_ ?_ ?_
    · rw [List.length_cons, show n + (l.length + 1) = n + 1 + l.length by omega]; exact z
    · unfold stepS; split
      · simp [h1]
      · obtain ⟨p, u⟩ := a
        simp at h1 ⊢; omega
    · unfold stepS; split
      · simp; omega
      · exact Nat.le_succ_of_le h2
    · unfold stepS; split
      · intro r hr
        rcases List.mem_append.mp hr with hr | hr
        · exact Nat.le_succ_of_le (h3 r hr)
        · rw [List.mem_singleton.mp hr]; exact Nat.zero_le _
      · intro r hr
        rcases List.mem_append.mp hr with hr | hr
        · exact Nat.le_succ_of_le (h3 r ((List.dropLast_sublist a.1).subset hr))
        · rw [List.mem_singleton.mp hr, List.length_append]
          have : (a.1.getLast?.getD []).length ≤ n := by
            cases e : a.1.getLast? with
            | none => simp
            | some y => exact h3 y (List.mem_of_getLast? e)
          simp; omega
theorem stretchTold_len (hs : Hands) (part : Row) : (stretchTold hs part).length ≤ hs.1.length * part.length := flat_len _ _ (fun k => List.length_filter_le _ _) _
theorem r_told_row {hs : Hands} (hb : HB hs) (row : Row) (hr : row.length ≤ 200) : Runs S_told_row [en hs, en row] (en (toldRow hs row)) := by
  intro h Q q
  refine ⟨rfl, ?_⟩
  unfold B_told_row T_told_row_3 R_told_row_4 T_told_row_4 R_told_row_5 T_told_row_5 T_told_row_6 T_told_row_1 T_told_row_2
  boot_fact
  refine r_stretches hb row (by omega) _ rfl _ _ ?_
  obtain ⟨z1, z2, z3⟩ := stretch_sz hs row
  unfold toldRow at q
  revert q
  generalize stretch hs row = st at z1 z2 z3 ⊢
  intro q
  obtain ⟨ps, pub⟩ := st
  cases ps with
  | nil => cases z1
  | cons p0 ps =>
  have el : pub.length = ps.length := by simpa using z1.symm
  show gTp 2 _ (en (both (p0 :: ps, pub))) _ _ _
  boot_fact
  refine ⟨_, (at_0 : L2.atI (en (Lv.mk p0) :: List.map en (ps.map Lv.mk)) 0 = some (en (Lv.mk p0))), r_stretch_told hb p0 (by have := z3 p0 (by simp); omega) _ _ ?_⟩
  rw [cut_tail]
  have zs : ∀ h' : MH, zipSD (en (both (p0 :: ps, pub)).2) (.lv (List.map en (both (p0 :: ps, pub)).1.l).tail) h' = some ((pub.zip (ps.map Lv.mk)).map fun p => D.tup [en p.1, en p.2]) := fun h' => zipSD_en pub (ps.map Lv.mk) rfl rfl (by simpa using el)
  refine ⟨⟨_, zs _⟩, ?_⟩
  have e0 : pub.zip (ps.map Lv.mk) = (pub.zip ps).map fun p => (p.1, Lv.mk p.2) := by rw [List.zip_map_right]; rfl
  have bn := hb.n
  have len : ∀ (l : List (OkS × Row)) (n : Nat), (∀ p ∈ l, p.2.length ≤ n) → (l.flatMap fun p => p.1 :: stretchTold hs p.2).length ≤ l.length * (64 * n + 1) := by
    intro l n hl
    induction l with
    | nil => simp
    | cons x l ih =>
      rw [List.flatMap_cons, List.length_append, List.length_cons, List.length_cons, Nat.succ_mul]
      have h1 := ih fun p hp => hl p (List.mem_cons_of_mem _ hp)
      have h2 := stretchTold_len hs x.2
      have h3 := Nat.mul_le_mul bn (hl x List.mem_cons_self)
      omega
  have pz : ∀ p ∈ pub.zip ps, p.2.length ≤ row.length := fun p hp => z3 p.2 (List.mem_cons_of_mem _ (List.of_mem_zip hp).2)
  have lz : (pub.zip ps).length ≤ row.length := by rw [List.length_zip]; exact Nat.le_trans (Nat.min_le_left _ _) z2
  refine forB_ind _ (fun i env h' => ∃ (a b c d : Option D) (j : MH), env = [some (en hs), some (en row), a, b, some (.ob h.length), c, d] ∧ h' = h ++ .lst ((stretchTold hs p0 ++ ((pub.zip ps).take i).flatMap fun p => p.1 :: stretchTold hs p.2).map en) :: j)
    ⟨_, _, _, _, [], rfl, by simp⟩ (fun i env h' _ => zs h') ?_ ?_
  · rintro i env h' d hd ⟨a, b, c, d', j, rfl, rfl⟩ N k
    rw [e0, List.getElem?_map, List.getElem?_map] at hd
    obtain ⟨t, ht, rfl⟩ := Option.map_eq_some_iff.mp hd
    obtain ⟨y, hy, rfl⟩ := Option.map_eq_some_iff.mp ht
    have hlt := (List.getElem?_eq_some_iff.mp hy).1
    have hm := List.mem_of_getElem? hy
    have l1 := len ((pub.zip ps).take i) row.length (fun p hp => pz p (List.mem_of_mem_take hp))
    have l2 := stretchTold_len hs p0
    have l3 := Nat.mul_le_mul bn (z3 p0 (by simp))
    have l4 : ((pub.zip ps).take i).length ≤ 200 := by rw [List.length_take]; omega
    have l5 : ((pub.zip ps).take i).length * (64 * row.length + 1) ≤ 200 * (64 * 200 + 1) := Nat.mul_le_mul l4 (by omega)
    have lF : (stretchTold hs p0 ++ ((pub.zip ps).take i).flatMap fun p => p.1 :: stretchTold hs p.2).length ≤ 3000000 := by rw [List.length_append]; omega
    have eF : stretchTold hs p0 ++ ((pub.zip ps).take (i + 1)).flatMap (fun p => p.1 :: stretchTold hs p.2) = (stretchTold hs p0 ++ ((pub.zip ps).take i).flatMap fun p => p.1 :: stretchTold hs p.2) ++ y.1 :: stretchTold hs y.2 := by
      rw [List.take_add_one, hy, List.flatMap_append, List.append_assoc]; simp
    rw [eF] at k
    revert k lF
    generalize (stretchTold hs p0 ++ ((pub.zip ps).take i).flatMap fun p => p.1 :: stretchTold hs p.2) = F
    intro k lF
    boot_fact
    have g1 : (h ++ MO.lst (F.map en) :: j)[h.length]? = some (.lst (F.map en)) := by rw [ap_get0]; rfl
    refine ⟨ok_list g1, i_app g1 (by rw [List.length_map]; exact Nat.lt_of_le_of_lt lF (by decide)) ?_⟩
    rw [ap_set0]
    have g2 : (h ++ (MO.lst (F.map en) :: j).set 0 (.lst (F.map en ++ [en y.1])))[h.length]? = some (.lst (F.map en ++ [en y.1])) := by rw [ap_get0]; rfl
    have ly := pz y hm
    have l6 := stretchTold_len hs y.2
    have l7 := Nat.mul_le_mul bn ly
    refine ⟨ok_list g2, r_stretch_told hb y.2 (by omega) _ _ ?_⟩
    have g3 : (h ++ (MO.lst (F.map en) :: j).set 0 (.lst (F.map en ++ [en y.1])) ++ [MO.lst ((stretchTold hs y.2).map en)])[h.length]? = some (.lst (F.map en ++ [en y.1])) := by rw [List.append_assoc, ap_get0]; rfl
    have g4 : seqD (h ++ (MO.lst (F.map en) :: j).set 0 (.lst (F.map en ++ [en y.1])) ++ [MO.lst ((stretchTold hs y.2).map en)]) (.ob (h ++ (MO.lst (F.map en) :: j).set 0 (.lst (F.map en ++ [en y.1]))).length) = some ((stretchTold hs y.2).map en) := seq_ob (by rw [ap_get0]; rfl)
    refine i_ext g3 g4 (fun zs z => by cases z) (by simp; exact Nat.le_trans (show _ ≤ 4000000 by omega) (by decide)) ?_
    refine k _ _ ⟨_, _, _, _, j ++ [MO.lst ((stretchTold hs y.2).map en)], rfl, ?_⟩
    rw [List.append_assoc, ap_set0]
    simp
  · rintro env h' ⟨a, b, c, d', j, rfl, rfl⟩
    boot_fact
    have lz2 : ((pub.zip (ps.map Lv.mk)).map fun p => D.tup [en p.1, en p.2]).length = (pub.zip ps).length := by rw [e0]; simp
    rw [lz2, List.take_length]
    refine ⟨_, seq_ob (by rw [ap_get0]; rfl), ?_⟩
    have z := fin_en (ls := MO.lst ((stretchTold hs p0 ++ (pub.zip ps).flatMap fun p => p.1 :: stretchTold hs p.2).map en) :: j) (by decide) q
    exact z
end Lw
namespace Lw
open PySem DL
open En (en dep)
local macro_rules | `(tactic| boot_fact) => `(tactic| try simp only [ev_var, List.getElem?_cons_zero, List.getElem?_cons_succ, ev_ex, ev_exI, ev_exI1, ev_exI2, ev_par, ev_par3, ev_exB, ev_exO, ev_exL, ev_some, ev_ex1, ev_exT, ev_add, ev_addL, ev_addT, ev_addTe, ev_addeT, ev_addee, ev_sub, ev_mul, ev_mulL, ev_mulT, ev_fdiv, ev_mod, ev_cmp, ev_toInt, ev_toIntB, ev_i2, ev_i1, ev_neg, ev_slV, ev_sl, ev_slL, ev_slT, seq_en, seq_lv, seq_tup, seq_lvD, lst_lv, lst_lvD, lstD_lvD, ev_tuple, ev_list, ev_lenT, ev_lenL, ev_len, ev_lenV, ev_ixT, ev_ixL, ev_fst, ev_snd, at_0, at_1, at_2, at_3, ev_ix, ev_ixV, ev_gTp, ev_gTp2, ev_gsC, ev_gsN, ev_dput, ev_disp, ev_pr0, ev_pr1, wLc_eq, sFor_eq,
  wC, wNil, wCons, wTup, wLst, qTup, wOp, wUn, wCall, wT, wNotT, wAndT, wOrT, wAndV, wOrV, wNotV, wIf, wChain, sNil, sSeq, sBrk, sCnt, sExp, sRet, sRetN, sIf, gNm, gLs, sAsg, sPar, sPar3, sAug, gSb, wIt, wRng1, wRng2, wMt, wMt0, wNo, wPart, wSl, wRev, wStar, wEnum, wZipS, wZipN, wYes, wLstR1, wTru, wIsi, List.set_cons_zero, List.set_cons_succ, wipeD, List.length_cons, List.length_nil, true_and, and_true, if_true, if_false, Bool.false_eq_true, enumD_map, Nat.zero_le, ev_qF, ev_qT, DL.envOf, List.map_cons, List.map_nil, List.cons_append, List.nil_append, List.replicate])
def namesOf (hs : Hands) : Row := hs.1.flatten ++ hs.2
theorem flat_take {α : Type} {xs : List (List α)} {i : Nat} {y : List α} (h : xs[i]? = some y) : (xs.take (i + 1)).flatten = (xs.take i).flatten ++ y := by
  rw [List.take_add_one, h]; simp
theorem flat_le {α : Type} {xs : List (List α)} {i : Nat} : (xs.take i).flatten.length ≤ xs.flatten.length := by
  have e : xs.flatten = (xs.take i).flatten ++ (xs.drop i).flatten := by rw [← List.flatten_append, List.take_append_drop]
  rw [e, List.length_append]; omega
theorem r_names_of {hs : Hands} (h1 : (namesOf hs).length ≤ 1000) : Runs S_names_of [en hs] (en (namesOf hs)) := by
  intro h Q q
  refine ⟨rfl, ?_⟩
  unfold B_names_of T_names_of_1 R_names_of_2 T_names_of_2 R_names_of_3 T_names_of_3 T_names_of_4
  boot_fact
  have hl : hs.1.flatten.length + hs.2.length ≤ 1000 := by unfold namesOf at h1; rwa [List.length_append] at h1
  refine forB_ind (hs.1.map en) (fun i env h' => ∃ (a b c : Option D), env = [a, b, some (en hs.2), some (.ob h.length), c] ∧ h' = h ++ [.lst ((hs.1.take i).flatten.map en)]) ⟨_, _, _, rfl, rfl⟩ (fun _ _ _ _ => rfl) ?_ ?_
  · rintro i env h' d hd ⟨a, b, c, rfl, rfl⟩ N k
    rw [List.getElem?_map] at hd
    obtain ⟨y, hy, rfl⟩ := Option.map_eq_some_iff.mp hd
    boot_fact
    have g : (h ++ [MO.lst ((hs.1.take i).flatten.map en)])[h.length]? = some (.lst ((hs.1.take i).flatten.map en)) := by rw [ap_get0]; rfl
    have l1 := flat_le (xs := hs.1) (i := i + 1)
    rw [flat_take hy, List.length_append] at l1
    refine ⟨ok_list g, i_ext g rfl (fun zs z => by cases z) (by rw [List.length_map, List.length_map]; exact szl (by omega)) ?_⟩
    rw [ap_set0]
    refine k _ _ ⟨_, _, _, rfl, ?_⟩
    rw [flat_take hy, List.map_append]; rfl
  · rintro env h' ⟨a, b, c, rfl, rfl⟩
    boot_fact
    rw [List.length_map, List.take_length]
    refine ⟨_, seq_ob (by rw [ap_get0]; rfl), ?_⟩
    refine ⟨szl ?_, ?_⟩
    · rw [List.append_nil, List.length_append, List.length_map, List.length_map]; omega
    · have z := fin_en (ls := [MO.lst (hs.1.flatten.map en)]) (by decide) q
      have e : en (namesOf hs) = D.tup (List.map en hs.1.flatten ++ (List.map en hs.2 ++ [])) := by unfold namesOf; rw [List.append_nil, ← List.map_append]; rfl
      rw [← e]; exact z
def isRow (hs : Hands) (row : Row) : Bool := decide (∀ x ∈ row, x ∈ hs.2 ∨ handOf hs x ≠ none)
theorem r_is_row_not {hs : Hands} {v : D} {t : String} (e : ∀ h, tyD h v = some t) (k : L2.kitB t "tuple" = some false) : Runs S_is_row [en hs, v] (.bl false) := by
  intro h Q q
  refine ⟨rfl, ?_⟩
  unfold B_is_row T_is_row_1
  boot_fact
  refine ⟨_, _, e h, k, _, rfl, ?_⟩
  simp only [Bool.not_false, if_true]
  exact fin_gd0 trivial q
theorem r_is_row {hs : Hands} (hb : HB hs) (row : Row) (hr : row.length ≤ 1000) : Runs S_is_row [en hs, en row] (.bl (isRow hs row)) := by
  intro h Q q
  refine ⟨rfl, ?_⟩
  unfold B_is_row T_is_row_1 R_is_row_2 T_is_row_2 T_is_row_3
  boot_fact
  refine ⟨_, _, rfl, kTT, _, rfl, ?_⟩
  simp only [Bool.not_true, Bool.false_eq_true, if_false]
  refine lcB_map row en (fun _ => .bl true) rfl (szl (by omega)) (fun x hx K1 kk => ?_) ?_
  · boot_fact
    exact ⟨_, _, rfl, kSS, kk⟩
  · boot_fact
    refine i_all (bs := row.map fun _ => true) (by rw [List.map_map]; rfl) ?_
    refine ⟨_, rfl, ?_⟩
    rw [if_neg (by simp)]
    refine lcB_map row en (fun x => .bl (decide (x ∈ hs.2 ∨ handOf hs x ≠ none))) rfl (szl (by omega)) (fun x hx K1 kk => ?_) ?_
    · boot_fact
      refine i_in ?_
      boot_fact
      by_cases h1 : x ∈ hs.2
      · rw [if_pos (decide_eq_true h1)]
        rw [decide_eq_true (Or.inl h1)] at kk
        exact kk
      · rw [if_neg (by simpa using h1)]
        refine r_hand_of hb x _ _ (i_isN ?_)
        have e : decide (x ∈ hs.2 ∨ handOf hs x ≠ none) = (handOf hs x).isSome := by
          cases handOf hs x <;> simp [h1]
        rw [e] at kk
        exact kk
    · boot_fact
      refine i_all (bs := row.map fun x => decide (x ∈ hs.2 ∨ handOf hs x ≠ none)) (by rw [List.map_map]; rfl) ?_
      have e : (row.map fun x => decide (x ∈ hs.2 ∨ handOf hs x ≠ none)).all id = isRow hs row := by
        unfold isRow
        rw [List.all_map, Bool.eq_iff_iff, List.all_eq_true, decide_eq_true_iff]
        simp
      rw [e]
      exact fin_gd0 trivial q
/-- a tuple in which something is no text -/
theorem r_is_row_bad {hs : Hands} (ds : List D) (p : D → Bool) (hl : ds.length ≤ 1000) (hp : ∀ h, ∀ d ∈ ds, ∃ t, tyD h d = some t ∧ L2.kitB t "str" = some (p d)) (hn : ds.all p = false) : Runs S_is_row [en hs, .tup ds] (.bl false) := by
  intro h Q q
  refine ⟨rfl, ?_⟩
  unfold B_is_row T_is_row_1
  boot_fact
  refine ⟨_, _, rfl, kTT, _, rfl, ?_⟩
  simp only [Bool.not_true, Bool.false_eq_true, if_false]
  refine lcB_map ds id (fun d => .bl (p d)) (by rw [List.map_id]) (szl (by omega)) (fun x hx K1 kk => ?_) ?_
  · boot_fact
    obtain ⟨t, e1, e2⟩ := hp h x hx
    exact ⟨_, _, e1, e2, kk⟩
  · boot_fact
    refine i_all (bs := ds.map p) (by rw [List.map_map]; rfl) ?_
    refine ⟨_, rfl, ?_⟩
    rw [List.all_map, if_pos (by show (!ds.all p) = true; rw [hn]; rfl)]
    exact fin_gd0 trivial q
end Lw
namespace Lw
open PySem DL
open En (en dep)
local macro_rules | `(tactic| boot_fact) => `(tactic| try simp only [ev_var, List.getElem?_cons_zero, List.getElem?_cons_succ, ev_ex, ev_exI, ev_exI1, ev_exI2, ev_par, ev_par3, ev_exB, ev_exO, ev_exL, ev_some, ev_ex1, ev_exT, ev_add, ev_addL, ev_addT, ev_addTe, ev_addeT, ev_addee, ev_sub, ev_mul, ev_mulL, ev_mulT, ev_fdiv, ev_mod, ev_cmp, ev_toInt, ev_toIntB, ev_i2, ev_i1, ev_neg, ev_slV, ev_sl, ev_slL, ev_slT, seq_en, seq_lv, seq_tup, seq_lvD, lst_lv, lst_lvD, lstD_lvD, ev_tuple, ev_list, ev_lenT, ev_lenL, ev_len, ev_lenV, ev_ixT, ev_ixL, ev_fst, ev_snd, at_0, at_1, at_2, at_3, ev_ix, ev_ixV, ev_gTp, ev_gTp2, ev_gsC, ev_gsN, ev_dput, ev_disp, ev_pr0, ev_pr1, wLc_eq, sFor_eq,
  wC, wNil, wCons, wTup, wLst, qTup, wOp, wUn, wCall, wT, wNotT, wAndT, wOrT, wAndV, wOrV, wNotV, wIf, wChain, sNil, sSeq, sBrk, sCnt, sExp, sRet, sRetN, sIf, gNm, gLs, sAsg, sPar, sPar3, sAug, gSb, wIt, wRng1, wRng2, wMt, wMt0, wNo, wPart, wSl, wRev, wStar, wEnum, wZipS, wZipN, wYes, wLstR1, wTru, wIsi, List.set_cons_zero, List.set_cons_succ, wipeD, List.length_cons, List.length_nil, true_and, and_true, if_true, if_false, Bool.false_eq_true, enumD_map, Nat.zero_le, ev_qF, ev_qT, DL.envOf, List.map_cons, List.map_nil, List.cons_append, List.nil_append, List.replicate])
def areRows (hs : Hands) (rows : List Row) : Bool := decide (rows.length = hs.1.length) && (rows.all (isRow hs) && rows.zipIdx.all fun p => decide (lookOf hs p.1 p.2 = p.1))
theorem r_are_rows_not {hs : Hands} {v : D} {t : String} (e : ∀ h, tyD h v = some t) (k : L2.kitB t "tuple" = some false) : Runs S_are_rows [en hs, v] (.bl false) := by
  intro h Q q
  refine ⟨rfl, ?_⟩
  unfold B_are_rows T_are_rows_1
  boot_fact
  refine ⟨_, _, e h, k, _, rfl, ?_⟩
  simp only [Bool.not_false, if_true]
  exact fin_gd0 trivial q
theorem r_are_rows {hs : Hands} (hb : HB hs) (rows : List Row) (hr : rows.length ≤ 1000) (hl : ∀ r ∈ rows, r.length ≤ 1000) : Runs S_are_rows [en hs, en rows] (.bl (areRows hs rows)) := by
  intro h Q q
  refine ⟨rfl, ?_⟩
  unfold B_are_rows T_are_rows_1 T_are_rows_2
  boot_fact
  refine ⟨_, _, rfl, kTT, _, rfl, ?_⟩
  simp only [Bool.not_true, Bool.false_eq_true, if_false]
  refine i_eq (α := Nat) (a := rows.length) (b := hs.1.length) (by decide) ?_
  refine ⟨_, rfl, ?_⟩
  unfold areRows at q
  by_cases h1 : rows.length = hs.1.length
  · rw [if_neg (by simp [h1])]
    rw [decide_eq_true h1, Bool.true_and] at q
    refine lcB_map rows en (fun r => .bl (isRow hs r)) rfl (szl (by omega)) (fun r hm K1 kk => ?_) ?_
    · boot_fact
      exact r_is_row hb r (hl r hm) _ _ kk
    · boot_fact
      refine i_all (bs := rows.map (isRow hs)) (by rw [List.map_map]; rfl) ?_
      refine ⟨_, rfl, ?_⟩
      have e1 : (rows.map (isRow hs)).all id = rows.all (isRow hs) := by rw [List.all_map]; rfl
      rw [e1]
      cases h2 : rows.all (isRow hs) with
      | false =>
        rw [h2, Bool.false_and] at q
        simp only [Bool.not_false, if_true]
        exact fin_gd0 trivial q
      | true =>
        rw [h2, Bool.true_and] at q
        simp only [Bool.not_true, Bool.false_eq_true, if_false]
        refine lcB_map rows.zipIdx (fun p => .tup [.int (p.2 : Int), en p.1]) (fun p => .bl (decide (lookOf hs p.1 p.2 = p.1))) (enumD_map rows) (by rw [zipIdx_len]; exact szl (by omega)) (fun p hm K1 kk => ?_) ?_
        · boot_fact
          have hm2 : p.1 ∈ rows := by
            obtain ⟨a, b⟩ := p
            exact (List.mem_zipIdx hm).2.2 ▸ List.getElem_mem _
          refine r_look_of hb p.1 (by have := hl p.1 hm2; omega) p.2 _ _ (i_eq (by decide) ?_)
          simp only [Bool.false_eq_true, if_false]
          exact kk
        · boot_fact
          refine i_all (bs := rows.zipIdx.map fun p => decide (lookOf hs p.1 p.2 = p.1)) (by rw [List.map_map]; rfl) ?_
          rw [List.all_map]
          exact fin_gd0 trivial q
  · rw [if_pos (by simp [h1])]
    rw [decide_eq_false h1, Bool.false_and] at q
    exact fin_gd0 trivial q
def mergeAll (bs : List (List Row × Row)) (n : Nat) (pub : Row) : Row := (List.range n).flatMap fun k => (bs.flatMap fun b => (b.1[k]?).getD []) ++ (pub.drop k).take 1
theorem r_rol_no {hs : Hands} {v : D} (e : Runs S_are_rows [en hs, v] (.bl false)) : Runs S_row_of_look [en hs, v] .non := by
  intro h Q q
  refine ⟨rfl, ?_⟩
  unfold B_row_of_look T_row_of_look_3
  boot_fact
  refine e _ _ ⟨_, rfl, ?_⟩
  simp only [Bool.not_false, if_true]
  exact fin_gd0 trivial q
theorem r_rol {hs : Hands} (hb : HB hs) (r0 : Row) (rows : List Row) (hr : rows.length ≤ 60) (hl : ∀ r ∈ r0 :: rows, r.length ≤ 200) (ha : areRows hs (r0 :: rows) = true) :
    Runs S_row_of_look [en hs, en (r0 :: rows)] (en (if ∀ r ∈ rows, (stretch hs r).2 = (stretch hs r0).2 then some (mergeAll ((r0 :: rows).map (stretch hs)) ((stretch hs r0).2.length + 1) (stretch hs r0).2) else none)) := by
  intro h Q q
  refine ⟨rfl, ?_⟩
  unfold B_row_of_look T_row_of_look_3 R_row_of_look_4 T_row_of_look_4 R_row_of_look_5 T_row_of_look_5 R_row_of_look_6 T_row_of_look_6 R_row_of_look_7 T_row_of_look_7 R_row_of_look_8 T_row_of_look_8 T_row_of_look_9 T_row_of_look_1 T_row_of_look_2
  boot_fact
  refine r_are_rows hb (r0 :: rows) (by simp; omega) (fun r hm => by have := hl r hm; omega) _ _ ⟨_, rfl, ?_⟩
  rw [ha]
  simp only [Bool.not_true, Bool.false_eq_true, if_false]
  refine lcB_map (r0 :: rows) en (fun r => en (both (stretch hs r))) rfl (szl (by simp; omega)) (fun r hm K1 kk => ?_) ?_
  · boot_fact
    exact r_stretches hb r (by have := hl r hm; omega) _ rfl _ _ kk
  · boot_fact
    have hB : ∀ b ∈ (r0 :: rows).map (stretch hs), b.1.length = b.2.length + 1 ∧ b.2.length ≤ 200 ∧ ∀ r ∈ b.1, r.length ≤ 200 := by
      intro b hm
      obtain ⟨r, hr2, rfl⟩ := List.mem_map.mp hm
      obtain ⟨a1, a2, a3⟩ := stretch_sz hs r
      have := hl r hr2
      exact ⟨a1, by omega, fun x hx => Nat.le_trans (a3 x hx) this⟩
    have eB : en (both (stretch hs r0)) :: rows.map (fun r => en (both (stretch hs r))) = ((r0 :: rows).map (stretch hs)).map fun b => en (both b) := by rw [List.map_map]; rfl
    rw [eB]
    have eC : (∀ r ∈ rows, (stretch hs r).2 = (stretch hs r0).2) ↔ ∀ b ∈ (r0 :: rows).map (stretch hs), b.2 = (stretch hs r0).2 := by simp
    have lB : ((r0 :: rows).map (stretch hs)).length ≤ 61 := by simp; omega
    have hp0 : (stretch hs r0).2.length ≤ 200 := (hB _ (List.mem_map.mpr ⟨r0, by simp, rfl⟩)).2.1
    simp only [eC] at q
    revert q hB lB hp0
    generalize (r0 :: rows).map (stretch hs) = B
    generalize hP : (stretch hs r0).2 = pub
    have e2 : (both (stretch hs r0)).2 = ⟨pub⟩ := by rw [← hP]; rfl
    rw [e2]
    clear eC eB e2
    intro hB lB hp0 q
    refine lcB_pure B (fun b => en (both b)) (fun b => decide (¬ b.2 = pub)) (fun b => en (Lv.mk b.2)) rfl (szl (by omega)) (fun b hm K1 K0 kk => ?_) ?_
    · boot_fact
      refine i_eq (α := Lv OkS) (a := ⟨b.2⟩) (b := ⟨pub⟩) (by decide) ?_
      have e : decide (Lv.mk b.2 = Lv.mk pub) = decide (b.2 = pub) := by
        by_cases h : b.2 = pub
        · simp [h]
        · rw [decide_eq_false h, decide_eq_false (fun z => h (Lv.mk.inj z))]
      refine ⟨_, rfl, ?_⟩
      rw [e]
      simp only [if_true]
      have e3 : decide (¬ b.2 = pub) = !decide (b.2 = pub) := by by_cases h : b.2 = pub <;> simp [h]
      rw [e3] at kk
      exact kk
    · have e4 : (B.filter fun b => decide (¬ b.2 = pub)).map (fun b => en (Lv.mk b.2)) = ((B.filter fun b => decide (¬ b.2 = pub)).map fun b => Lv.mk b.2).map en := by rw [List.map_map]; rfl
      rw [e4]
      refine i_neL (b := ([] : List (Lv OkS))) (by decide) ?_
      refine ⟨_, rfl, ?_⟩
      by_cases hc : ∀ b ∈ B, b.2 = pub
      · rw [if_pos hc] at q
        have e5 : (B.filter fun b => decide (¬ b.2 = pub)) = [] := by
          rw [List.filter_eq_nil_iff]
          intro b hm
          simp [hc b hm]
        rw [e5, if_neg (by simp)]
        refine ⟨by show -2 ^ 62 ≤ ((pub.length : Int) + 1); omega, by show ((pub.length : Int) + 1) < 2 ^ 62; omega, ?_⟩
        have e6 : (((Lv.mk pub).l.length : Int) + 1) = ((pub.length + 1 : Nat) : Int) := by simp
        rw [e6, rng0]
        have bG : ∀ k : Nat, (B.flatMap fun b => (b.1[k]?).getD []).length ≤ 61 * 200 := by
          intro k
          suffices ∀ l : List (List Row × Row), (∀ b ∈ l, ∀ r ∈ b.1, r.length ≤ 200) → (l.flatMap fun b => (b.1[k]?).getD []).length ≤ l.length * 200 from Nat.le_trans (this B fun b hb => (hB b hb).2.2) (Nat.mul_le_mul lB (Nat.le_refl _))
          intro l hl
          induction l with
          | nil => simp
          | cons b l ih =>
            rw [List.flatMap_cons, List.length_append, List.length_cons, Nat.succ_mul]
            have h1 := ih fun c hc => hl c (List.mem_cons_of_mem _ hc)
            have h2 : ((b.1[k]?).getD []).length ≤ 200 := by
              cases e : b.1[k]? with
              | none => simp
              | some r => exact hl b List.mem_cons_self r (List.mem_of_getElem? e)
            omega
        have bF : ∀ i ≤ 201, ((List.range i).flatMap fun k => (B.flatMap fun b => (b.1[k]?).getD []) ++ (pub.drop k).take 1).length ≤ 2500000 := by
          intro i hi
          have z := flat_len (fun k => (B.flatMap fun b => (b.1[k]?).getD []) ++ (pub.drop k).take 1) 12201 (fun k => by
            have := bG k
            rw [List.length_append, List.length_take]
            have := Nat.min_le_left 1 (pub.drop k).length
            omega) i
          have := Nat.mul_le_mul hi (Nat.le_refl 12201)
          omega
        refine forB_ind _ (fun i env h' => ∃ (a b c : Option D), env = [some (en hs), some (en (r0 :: rows)), some (D.lv (B.map fun b => en (both b))), none, some (en (Lv.mk pub)), a, b, some (.ob h.length), c] ∧ h' = h ++ [.lst (((List.range i).flatMap fun k => (B.flatMap fun b => (b.1[k]?).getD []) ++ (pub.drop k).take 1).map en)])
          ⟨_, _, _, rfl, rfl⟩ (fun _ _ _ _ => rfl) ?_ ?_
        · rintro i env h' d hd ⟨a, b, c, rfl, rfl⟩ N k
          rw [List.getElem?_map] at hd
          obtain ⟨i', hi', rfl⟩ := Option.map_eq_some_iff.mp hd
          obtain ⟨hlt, hi2⟩ := List.getElem?_eq_some_iff.mp hi'
          rw [List.length_range] at hlt
          have : i' = i := by simpa using hi2.symm
          subst this
          have bFi := bF i' (by omega)
          have bGi := bG i'
          rw [flatTake] at k
          revert bFi k
          generalize ((List.range i').flatMap fun k => (B.flatMap fun b => (b.1[k]?).getD []) ++ (pub.drop k).take 1) = F
          intro k bFi
          boot_fact
          refine forB_ind (B.map fun b => en (both b)) (fun j env h' => ∃ (a b : Option D), env = [some (en hs), some (en (r0 :: rows)), some (D.lv (B.map fun b => en (both b))), none, some (en (Lv.mk pub)), a, b, some (.ob h.length), some (.int (i' : Int))] ∧ h' = h ++ [.lst ((F ++ (B.take j).flatMap fun b => (b.1[i']?).getD []).map en)])
            ⟨_, _, rfl, by simp⟩ (fun _ _ _ _ => rfl) ?_ ?_
          · rintro j env h' d hd ⟨a, b, rfl, rfl⟩ N2 k2
            rw [List.getElem?_map] at hd
            obtain ⟨y, hy, rfl⟩ := Option.map_eq_some_iff.mp hd
            have hm := List.mem_of_getElem? hy
            obtain ⟨y1, y2, y3⟩ := hB y hm
            have hil : i' < y.1.length := by rw [y1, hc y hm]; exact hlt
            have e7 : (B.take (j + 1)).flatMap (fun b => (b.1[i']?).getD []) = (B.take j).flatMap (fun b => (b.1[i']?).getD []) ++ y.1[i'] := by
              rw [List.take_add_one, hy, List.flatMap_append]; simp [hil]
            have b7 : ((B.take (j + 1)).flatMap fun b => (b.1[i']?).getD []).length ≤ 61 * 200 := by
              refine Nat.le_trans ?_ bGi
              have e8 : B.flatMap (fun b => (b.1[i']?).getD []) = (B.take (j + 1)).flatMap (fun b => (b.1[i']?).getD []) ++ (B.drop (j + 1)).flatMap (fun b => (b.1[i']?).getD []) := by rw [← List.flatMap_append, List.take_append_drop]
              rw [e8, List.length_append]; omega
            rw [e7] at k2 b7
            rw [List.length_append] at b7
            boot_fact
            have g : (h ++ [MO.lst ((F ++ (B.take j).flatMap fun b => (b.1[i']?).getD []).map en)])[h.length]? = some (.lst ((F ++ (B.take j).flatMap fun b => (b.1[i']?).getD []).map en)) := by rw [ap_get0]; rfl
            refine ⟨ok_list g, en (Lv.mk y.1[i']), ?_, ?_⟩
            · rw [at_nat]
              show ((y.1.map Lv.mk).map en)[i']? = _
              rw [List.getElem?_map, List.getElem?_map, List.getElem?_eq_getElem hil]; rfl
            · refine i_ext g rfl (fun zs z => by cases z) (by simp only [List.length_map, List.length_append]; exact Nat.le_trans (show _ ≤ 3000000 by omega) (by decide)) ?_
              rw [ap_set0]
              refine k2 _ _ ⟨_, _, rfl, ?_⟩
              rw [← List.append_assoc, List.map_append (l₂ := y.1[i'])]; rfl
          · rintro env h' ⟨a, b, rfl, rfl⟩
            rw [List.length_map, List.take_length]
            boot_fact
            have g : (h ++ [MO.lst ((F ++ B.flatMap fun b => (b.1[i']?).getD []).map en)])[h.length]? = some (.lst ((F ++ B.flatMap fun b => (b.1[i']?).getD []).map en)) := by rw [ap_get0]; rfl
            have e9 : ((i' : Int) + 1) = ((i' + 1 : Nat) : Int) := by simp
            rw [e9, cut_nat, show i' + 1 - i' = 1 by omega]
            refine ⟨ok_list g, i_ext g (ys := ((pub.drop i').take 1).map en) ?_ (fun zs z => by cases z) ?_ ?_⟩
            · show some (((pub.map en).drop i').take 1) = _
              rw [List.map_take, List.map_drop]
            · simp only [List.length_map, List.length_append, List.length_take]
              have := Nat.min_le_left 1 (pub.drop i').length
              exact Nat.le_trans (show _ ≤ 3000000 by omega) (by decide)
            · rw [ap_set0]
              refine k _ _ ⟨_, _, _, rfl, ?_⟩
              rw [← List.append_assoc, List.map_append (l₂ := (pub.drop i').take 1)]; rfl
        · rintro env h' ⟨a, b, c, rfl, rfl⟩
          rw [List.length_map, List.length_range]
          boot_fact
          refine ⟨_, seq_ob (by rw [ap_get0]; rfl), ?_⟩
          exact fin_en (ls := [MO.lst ((mergeAll B (pub.length + 1) pub).map en)]) (a := mergeAll B (pub.length + 1) pub) (by decide) q
      · rw [if_neg hc] at q
        rw [if_pos ?_]
        · exact fin_gd0 trivial q
        · simp
          exact Classical.byContradiction fun z => hc fun b hb => Classical.byContradiction fun y => z ⟨_, _, hb, y⟩
end Lw
namespace Lw
open PySem DL
open En (en dep)
section
variable {H : Hands}
/-- the first part, and each public name with the part behind it -/
def cut (H : Hands) : Row → Row × List (OkS × Row)
  | [] => ([], [])
  | x :: r => if handOf H x = none then ([], (x, (cut H r).1) :: (cut H r).2) else (x :: (cut H r).1, (cut H r).2)
def parts (H : Hands) (r : Row) : List Row := (cut H r).1 :: (cut H r).2.map (·.2)
def pubs (H : Hands) (r : Row) : Row := (cut H r).2.map (·.1)
theorem fold_cut : ∀ (r : Row) (ps : List Row) (p u : Row), r.foldl (stepS H) (ps ++ [p], u) = (ps ++ (p ++ (cut H r).1) :: (cut H r).2.map (·.2), u ++ (cut H r).2.map (·.1))
  | [], ps, p, u => by simp [cut]
  | x :: r, ps, p, u => by
    rw [List.foldl_cons]
    by_cases h : handOf H x = none
    · have e : stepS H (ps ++ [p], u) x = ((ps ++ [p]) ++ [[]], u ++ [x]) := by unfold stepS; rw [if_pos h]
      rw [e, fold_cut r]
      simp [cut, h]
    · have e : stepS H (ps ++ [p], u) x = (ps ++ [p ++ [x]], u) := by unfold stepS; rw [if_neg h]; simp
      rw [e, fold_cut r]
      simp [cut, h]
theorem stretch_eq (r : Row) : stretch H r = (parts H r, pubs H r) := by
  have z := fold_cut (H := H) r [] [] []
  exact z
theorem zip_maps {α β : Type} : ∀ l : List (α × β), (l.map (·.1)).zip (l.map (·.2)) = l
  | [] => rfl
  | x :: l => by simp [zip_maps l]
theorem told_eq (r : Row) : toldRow H r = stretchTold H (cut H r).1 ++ (cut H r).2.flatMap fun p => p.1 :: stretchTold H p.2 := by
  unfold toldRow
  rw [stretch_eq]
  simp only [parts, pubs, List.headD_cons, List.tail_cons, zip_maps]
theorem told_nil (own : Row) (ho : ∀ x ∈ own, handOf H x ≠ none) : cut H own = (own, []) := by
  induction own with
  | nil => rfl
  | cons x r ih => rw [cut, if_neg (ho x List.mem_cons_self), ih fun y hy => ho y (List.mem_cons_of_mem _ hy)]
theorem cut_app (own : Row) (ho : ∀ x ∈ own, handOf H x ≠ none) (x : OkS) (hx : handOf H x = none) (r : Row) : cut H (own ++ x :: r) = (own, (x, (cut H r).1) :: (cut H r).2) := by
  induction own with
  | nil => rw [List.nil_append, cut, if_pos hx]
  | cons y l ih => rw [List.cons_append, cut, if_neg (ho y List.mem_cons_self), ih fun z hz => ho z (List.mem_cons_of_mem _ hz)]
/-- a row at its first public name -/
theorem split (r : Row) : (∃ _ : pubs H r = [], (∀ x ∈ r, handOf H x ≠ none)) ∨ ∃ own x r', r = own ++ x :: r' ∧ (∀ y ∈ own, handOf H y ≠ none) ∧ handOf H x = none := by
  induction r with
  | nil => exact .inl ⟨rfl, by simp⟩
  | cons y r ih =>
    by_cases h : handOf H y = none
    · exact .inr ⟨[], y, r, rfl, by simp, h⟩
    · rcases ih with ⟨e, ih⟩ | ⟨own, x, r', rfl, h1, h2⟩
      · refine .inl ⟨?_, fun x hx => ?_⟩
        · unfold pubs cut; rw [if_neg h]; exact e
        · rcases List.mem_cons.mp hx with rfl | hx
          · exact h
          · exact ih x hx
      · refine .inr ⟨y :: own, x, r', rfl, fun z hz => ?_, h2⟩
        rcases List.mem_cons.mp hz with rfl | hz
        · exact h
        · exact h1 z hz
theorem told_app (own : Row) (ho : ∀ x ∈ own, handOf H x ≠ none) (x : OkS) (hx : handOf H x = none) (r : Row) : toldRow H (own ++ x :: r) = stretchTold H own ++ x :: toldRow H r := by
  rw [told_eq, told_eq, cut_app own ho x hx]; simp
theorem told_own (own : Row) (ho : ∀ x ∈ own, handOf H x ≠ none) : toldRow H own = stretchTold H own := by
  rw [told_eq, told_nil own ho]; simp
theorem pubs_filter (r : Row) : pubs H r = r.filter fun x => decide (handOf H x = none) := by
  induction r with
  | nil => rfl
  | cons x r ih =>
    unfold pubs cut
    by_cases h : handOf H x = none
    · rw [if_pos h, List.filter_cons_of_pos (by simp [h]), ← ih]; rfl
    · rw [if_neg h, List.filter_cons_of_neg (by simp [h]), ← ih]; rfl
theorem flat_pick {α : Type} (f : Nat → List α) (k : Nat) : ∀ n : Nat, k < n → (∀ j, j ≠ k → f j = []) → (List.range n).flatMap f = f k
  | 0, h, _ => absurd h (Nat.not_lt_zero k)
  | n + 1, h, hf => by
    rw [flatTake]
    by_cases e : k = n
    · subst e
      have z : (List.range k).flatMap f = [] := by
        rw [List.flatMap_eq_nil_iff]
        intro j hj
        exact hf j (Nat.ne_of_lt (List.mem_range.mp hj))
      rw [z, List.nil_append]
    · rw [hf n (fun z => e z.symm), List.append_nil, flat_pick f k n (by omega) hf]
theorem st_filter (part : Row) (k : Nat) (hk : k < H.1.length) : (stretchTold H part).filter (fun x => decide (handOf H x = some k)) = part.filter fun x => decide (handOf H x = some k) := by
  unfold stretchTold
  rw [List.filter_flatMap]
  rw [flat_pick _ k _ hk (fun j hj => ?_)]
  · rw [List.filter_filter]
    congr 1; funext x; simp
  · rw [List.filter_filter, List.filter_eq_nil_iff]
    intro x _
    by_cases h : handOf H x = some k
    · simp [h]; exact fun z => hj z.symm
    · simp [h]
theorem st_own (part : Row) : ∀ x ∈ stretchTold H part, x ∈ part ∧ handOf H x ≠ none := by
  intro x hx
  unfold stretchTold at hx
  obtain ⟨k, _, h⟩ := List.mem_flatMap.mp hx
  obtain ⟨h1, h2⟩ := List.mem_filter.mp h
  have h2 := of_decide_eq_true h2
  exact ⟨h1, by rw [h2]; simp⟩
theorem seen_own {x : OkS} {k : Nat} (h : handOf H x ≠ none) : seen H k x = decide (handOf H x = some k) := by
  unfold seen; simp [h]
theorem seen_pub {x : OkS} {k : Nat} (h : handOf H x = none) : seen H k x = true := by unfold seen; simp [h]
theorem filter_own (part : Row) (k : Nat) (h : ∀ x ∈ part, handOf H x ≠ none) : part.filter (seen H k) = part.filter fun x => decide (handOf H x = some k) :=
  List.filter_congr fun x hx => seen_own (h x hx)
/-- looks of told rows -/
theorem look_told_row (r : Row) (k : Nat) (hk : k < H.1.length) : lookOf H (toldRow H r) k = lookOf H r k := by
  suffices ∀ n (r : Row), r.length ≤ n → lookOf H (toldRow H r) k = lookOf H r k from this _ r (Nat.le_refl _)
  intro n
  have own : ∀ p : Row, (∀ x ∈ p, handOf H x ≠ none) → (stretchTold H p).filter (seen H k) = p.filter (seen H k) := fun p hp => by
    rw [filter_own _ k fun x hx => (st_own p x hx).2, filter_own p k hp, st_filter p k hk]
  induction n with
  | zero =>
    intro r hr
    have : r = [] := List.length_eq_zero_iff.mp (by omega)
    subst this
    rw [told_own [] (by simp)]
    exact own [] (by simp)
  | succ n ih =>
    intro r hr
    rcases split (H := H) r with ⟨_, ho⟩ | ⟨o, x, r', rfl, ho, hx⟩
    · rw [told_own r ho]; exact own r ho
    · rw [told_app o ho x hx]
      unfold lookOf at ih ⊢
      rw [List.filter_append, List.filter_append, List.filter_cons_of_pos (seen_pub hx), List.filter_cons_of_pos (seen_pub hx), own o ho, ih r' (by simp at hr; omega)]
theorem lookTold_told (r : Row) : lookTold H (toldRow H r) = lookTold H r := by
  unfold lookTold
  exact List.map_congr_left fun k hk => look_told_row r k (List.mem_range.mp hk)
theorem lookTold_iff (a b : Row) : lookTold H a = lookTold H b ↔ ∀ k, k < H.1.length → lookOf H a k = lookOf H b k := by
  unfold lookTold
  rw [List.map_inj_left]
  simp
end
end Lw
namespace Lw
open PySem DL
open En (en dep)
section
variable {H : Hands}
theorem flatMap_eq {α β : Type} {f g : α → List β} : ∀ {l : List α}, (∀ a ∈ l, f a = g a) → l.flatMap f = l.flatMap g
  | [], _ => rfl
  | a :: l, h => by rw [List.flatMap_cons, List.flatMap_cons, h a List.mem_cons_self, flatMap_eq fun b hb => h b (List.mem_cons_of_mem _ hb)]
theorem uniq_split {α : Type} (p : α → Prop) : ∀ {l m : List α} {x y : α} {l' m' : List α}, (∀ z ∈ l, ¬ p z) → (∀ z ∈ m, ¬ p z) → p x → p y → l ++ x :: l' = m ++ y :: m' → l = m ∧ x = y ∧ l' = m'
  | [], [], _, _, _, _, _, _, _, _, h => by injection h with h1 h2; exact ⟨rfl, h1, h2⟩
  | [], b :: m, _, _, _, _, _, hm, hx, _, h => by injection h with h1 h2; subst h1; exact absurd hx (hm _ List.mem_cons_self)
  | a :: l, [], _, _, _, _, hl, _, _, hy, h => by injection h with h1 h2; subst h1; exact absurd hy (hl _ List.mem_cons_self)
  | a :: l, b :: m, _, _, _, _, hl, hm, hx, hy, h => by
    injection h with h1 h2
    obtain ⟨e1, e2, e3⟩ := uniq_split p (fun z hz => hl z (List.mem_cons_of_mem _ hz)) (fun z hz => hm z (List.mem_cons_of_mem _ hz)) hx hy h2
    exact ⟨by rw [h1, e1], e2, e3⟩
theorem st_congr {a b : Row} (h : ∀ k, k < H.1.length → a.filter (fun x => decide (handOf H x = some k)) = b.filter fun x => decide (handOf H x = some k)) : stretchTold H a = stretchTold H b := by
  unfold stretchTold
  exact flatMap_eq fun k hk => h k (List.mem_range.mp hk)
theorem told_of_looks (hn : 0 < H.1.length) : ∀ n (a b : Row), a.length ≤ n → (∀ k, k < H.1.length → lookOf H a k = lookOf H b k) → toldRow H a = toldRow H b := by
  have look_app : ∀ (o : Row) (x : OkS) (r : Row) (k : Nat), handOf H x = none → lookOf H (o ++ x :: r) k = o.filter (seen H k) ++ x :: lookOf H r k := fun o x r k hx => by
    unfold lookOf; rw [List.filter_append, List.filter_cons_of_pos (seen_pub hx)]
  have pubIn : ∀ (a b : Row), (∀ k, k < H.1.length → lookOf H a k = lookOf H b k) → ∀ x, handOf H x = none → x ∈ a → x ∈ b := fun a b h x hx hm => by
    have z : x ∈ lookOf H a 0 := List.mem_filter.mpr ⟨hm, seen_pub hx⟩
    rw [h 0 hn] at z
    exact (List.mem_filter.mp z).1
  intro n
  induction n with
  | zero =>
    intro a b ha h
    have : a = [] := List.length_eq_zero_iff.mp (by omega)
    subst this
    rcases split (H := H) b with ⟨_, hb⟩ | ⟨o, x, r', rfl, ho, hx⟩
    · rw [told_own [] (by simp), told_own b hb]
      refine st_congr fun k hk => ?_
      have z := h k hk
      unfold lookOf at z
      rw [filter_own b k hb] at z
      exact z
    · have z := pubIn _ _ (fun k hk => (h k hk).symm) x hx (by simp)
      cases z
  | succ n ih =>
    intro a b ha h
    rcases split (H := H) a with ⟨_, hoa⟩ | ⟨o, x, r, rfl, ho, hx⟩
    · rcases split (H := H) b with ⟨_, hob⟩ | ⟨o, x, r', rfl, ho, hx⟩
      · rw [told_own a hoa, told_own b hob]
        refine st_congr fun k hk => ?_
        have z := h k hk
        unfold lookOf at z
        rwa [filter_own b k hob, filter_own a k hoa] at z
      · exact absurd hx (hoa x (pubIn _ _ (fun k hk => (h k hk).symm) x hx (by simp)))
    · rcases split (H := H) b with ⟨_, hob⟩ | ⟨o2, y, r2, rfl, ho2, hy⟩
      · exact absurd hx (hob x (pubIn _ _ h x hx (by simp)))
      · have key : ∀ k, k < H.1.length → o.filter (seen H k) = o2.filter (seen H k) ∧ x = y ∧ lookOf H r k = lookOf H r2 k := fun k hk => by
          have z := h k hk
          rw [look_app o x r k hx, look_app o2 y r2 k hy] at z
          exact uniq_split (fun u => handOf H u = none) (fun u hu => ho u (List.mem_filter.mp hu).1) (fun u hu => ho2 u (List.mem_filter.mp hu).1) hx hy z
        rw [told_app o ho x hx, told_app o2 ho2 y hy, (key 0 hn).2.1, ih r r2 (by simp at ha; omega) fun k hk => (key k hk).2.2]
        congr 1
        refine st_congr fun k hk => ?_
        rw [← filter_own o k ho, ← filter_own o2 k ho2]
        exact (key k hk).1
theorem told_iff (hn : 0 < H.1.length) (a b : Row) : toldRow H a = toldRow H b ↔ lookTold H a = lookTold H b :=
  ⟨fun h => by rw [← lookTold_told a, ← lookTold_told b, h], fun h => told_of_looks hn _ a b (Nat.le_refl _) ((lookTold_iff a b).mp h)⟩
/-! ## exchanges -/
inductive Exch (H : Hands) (row : Row) : Row → Prop where
  | refl : Exch H row row
  | step {r : Row} (k : Nat) (x y : OkS) (i j : Nat) : Exch H row r → r[k]? = some x → r[k + 1]? = some y → handOf H x = some i → handOf H y = some j → i ≠ j → Exch H row ((r.set k y).set (k + 1) x)
theorem Exch.len {H : Hands} {row r : Row} (e : Exch H row r) : r.length = row.length := by
  induction e with
  | refl => rfl
  | step k x y i j _ _ _ _ _ _ ih => rw [List.length_set, List.length_set, ih]
theorem at_two {α : Type} {l : List α} {k : Nat} {x y : α} (hx : l[k]? = some x) (hy : l[k + 1]? = some y) : l = l.take k ++ x :: y :: l.drop (k + 2) := by
  have h1 := (List.getElem?_eq_some_iff.mp hx)
  have h2 := (List.getElem?_eq_some_iff.mp hy)
  obtain ⟨l1, e1⟩ := h1
  obtain ⟨l2, e2⟩ := h2
  conv => lhs; rw [← List.take_append_drop k l, List.drop_eq_getElem_cons l1, List.drop_eq_getElem_cons l2, e1, e2]
theorem swap_two {α : Type} {l : List α} {k : Nat} {x y : α} (hx : l[k]? = some x) (hy : l[k + 1]? = some y) : (l.set k y).set (k + 1) x = l.take k ++ y :: x :: l.drop (k + 2) := by
  have e := at_two hx hy
  have lk : (l.take k).length = k := by
    rw [List.length_take]
    have := (List.getElem?_eq_some_iff.mp hx).1
    omega
  conv => lhs; rw [e]
  have e1 : (l.take k ++ x :: y :: l.drop (k + 2)).set k y = l.take k ++ y :: y :: l.drop (k + 2) := by
    rw [List.set_append_right _ _ (by omega), lk, Nat.sub_self]; rfl
  rw [e1, List.set_append_right _ _ (by omega), lk, show k + 1 - k = 1 by omega]; rfl
theorem exch_look {row r : Row} (e : Exch H row r) (k : Nat) : lookOf H r k = lookOf H row k := by
  induction e with
  | refl => rfl
  | @step r n x y i j _ hx hy h1 h2 hij ih =>
    rw [← ih, swap_two hx hy]
    conv => rhs; rw [at_two hx hy]
    unfold lookOf
    simp only [List.filter_append]
    congr 1
    have sx : seen H k x = decide (i = k) := by rw [seen_own (by rw [h1]; simp), h1]; simp
    have sy : seen H k y = decide (j = k) := by rw [seen_own (by rw [h2]; simp), h2]; simp
    simp only [List.filter_cons, sx, sy]
    by_cases e1 : i = k
    · by_cases e2 : j = k
      · exact absurd (e1.trans e2.symm) hij
      · simp [e1, e2]
    · simp [e1]
theorem exch_mem {row r : Row} (e : Exch H row r) : ∀ z ∈ r, z ∈ row := by
  induction e with
  | refl => exact fun z h => h
  | step k x y i j _ hx hy _ _ _ ih =>
    intro z hz
    rcases List.mem_or_eq_of_mem_set hz with hz | rfl
    · rcases List.mem_or_eq_of_mem_set hz with hz | rfl
      · exact ih z hz
      · exact ih _ (List.mem_of_getElem? hy)
    · exact ih _ (List.mem_of_getElem? hx)
theorem exch_looks {row r : Row} (e : Exch H row r) : lookTold H r = lookTold H row := by
  unfold lookTold
  exact List.map_congr_left fun k _ => exch_look e k
theorem flatMap_range {α : Type} (l : List (List α)) (f : List α → List α) : l.flatMap f = (List.range l.length).flatMap fun k => f ((l[k]?).getD []) := by
  induction l with
  | nil => rfl
  | cons x l ih => rw [List.flatMap_cons, List.length_cons, List.range_succ_eq_map, List.flatMap_cons, List.flatMap_map, ih]; rfl
/-! ## rows of looks -/
/-- the rows put together, public name by public name -/
def mrg (n : Nat) : (Nat → List Row) → Row → Row
  | P, [] => (List.range n).flatMap fun h => (P h).headD []
  | P, x :: pub => ((List.range n).flatMap fun h => (P h).headD []) ++ x :: mrg n (fun h => (P h).tail) pub
theorem head_get {α : Type} (l : List (List α)) : (l[0]?).getD [] = l.headD [] := by cases l <;> rfl
theorem tail_get {α : Type} (l : List (List α)) (k : Nat) : (l[k + 1]?).getD [] = (l.tail[k]?).getD [] := by cases l <;> rfl
theorem mrg_eq (n : Nat) : ∀ (pub : Row) (P : Nat → List Row), (List.range (pub.length + 1)).flatMap (fun k => ((List.range n).flatMap fun h => ((P h)[k]?).getD []) ++ (pub.drop k).take 1) = mrg n P pub
  | [], P => by
    simp only [List.length_nil, Nat.zero_add, List.range_one, List.flatMap_cons, List.flatMap_nil, List.append_nil, List.drop_nil, List.take_nil, mrg]
    exact flatMap_eq fun h _ => head_get _
  | x :: pub, P => by
    rw [List.length_cons, List.range_succ_eq_map, List.flatMap_cons, List.flatMap_map]
    have e0 : ((List.range n).flatMap fun h => ((P h)[0]?).getD []) = (List.range n).flatMap fun h => (P h).headD [] := flatMap_eq fun h _ => head_get _
    rw [e0, mrg, ← mrg_eq n pub fun h => (P h).tail]
    have e1 : ((x :: pub).drop 0).take 1 = [x] := by simp
    rw [e1, List.append_assoc]
    congr 1
    show x :: _ = _
    congr 1
    refine flatMap_eq fun k _ => ?_
    show ((List.range n).flatMap fun h => ((P h)[k + 1]?).getD []) ++ ((x :: pub).drop (k + 1)).take 1 = _
    rw [List.drop_succ_cons]
    congr 1
    exact flatMap_eq fun h _ => tail_get _ _
/-- rows, each of one hand's and public names, of the same public names -/
theorem merge_ok {n : Nat} (hn : n = H.1.length) : ∀ (pub : Row) (g : Nat → Row), (∀ h < n, pubs H (g h) = pub) → (∀ h < n, ∀ x ∈ g h, handOf H x = none ∨ handOf H x = some h) → 0 < n →
    (∀ h < n, lookOf H (mrg n (fun h => parts H (g h)) pub) h = g h) ∧ toldRow H (mrg n (fun h => parts H (g h)) pub) = mrg n (fun h => parts H (g h)) pub ∧ ∀ x ∈ mrg n (fun h => parts H (g h)) pub, ∃ h < n, x ∈ g h := by
  -- own parts of all hands
  have base : ∀ p : Nat → Row, (∀ h < n, ∀ x ∈ p h, handOf H x = some h) →
      (∀ h < n, ((List.range n).flatMap p).filter (seen H h) = p h) ∧ stretchTold H ((List.range n).flatMap p) = (List.range n).flatMap p ∧ (∀ x ∈ (List.range n).flatMap p, handOf H x ≠ none) := by
    intro p hp
    have ho : ∀ x ∈ (List.range n).flatMap p, handOf H x ≠ none := fun x hx => by
      obtain ⟨h, h1, h2⟩ := List.mem_flatMap.mp hx
      rw [hp h (List.mem_range.mp h1) x h2]; simp
    have hf : ∀ h < n, ((List.range n).flatMap p).filter (fun x => decide (handOf H x = some h)) = p h := fun h hh => by
      rw [List.filter_flatMap]
      have e : ((List.range n).flatMap fun j => (p j).filter fun x => decide (handOf H x = some h)) = (List.range n).flatMap fun j => if j = h then p h else [] := flatMap_eq fun j hj => by
        by_cases ej : j = h
        · rw [if_pos ej]; subst ej
          exact List.filter_eq_self.mpr fun x hx => decide_eq_true (hp j hh x hx)
        · rw [if_neg ej, List.filter_eq_nil_iff]
          intro x hx
          rw [hp j (List.mem_range.mp hj) x hx]
          simp [ej]
      rw [e, flat_pick _ h n hh fun j hj => if_neg hj, if_pos rfl]
    refine ⟨fun h hh => by rw [filter_own _ h ho]; exact hf h hh, ?_, ho⟩
    unfold stretchTold
    rw [← hn]
    exact flatMap_eq fun h hh => hf h (List.mem_range.mp hh)
  intro pub
  induction pub with
  | nil =>
    intro g hp hx h0
    have own : ∀ h < n, ∀ x ∈ g h, handOf H x = some h := fun h hh x hm => by
      rcases hx h hh x hm with z | z
      · have y : x ∈ pubs H (g h) := by rw [pubs_filter]; exact List.mem_filter.mpr ⟨hm, decide_eq_true z⟩
        rw [hp h hh] at y; cases y
      · exact z
    have ep : ∀ h < n, (parts H (g h)).headD [] = g h := fun h hh => by
      unfold parts; rw [told_nil _ fun x hm => by rw [own h hh x hm]; simp]; rfl
    have em : mrg n (fun h => parts H (g h)) [] = (List.range n).flatMap g := flatMap_eq fun h hh => ep h (List.mem_range.mp hh)
    obtain ⟨b1, b2, b3⟩ := base g own
    rw [em]
    exact ⟨b1, by rw [told_own _ b3]; exact b2, fun x hm => by obtain ⟨h, h1, h2⟩ := List.mem_flatMap.mp hm; exact ⟨h, List.mem_range.mp h1, h2⟩⟩
  | cons y pub ih =>
    intro g hp hx h0
    -- each row at its first public name
    have sp : ∀ h, ∃ o r, h < n → g h = o ++ y :: r ∧ (∀ x ∈ o, handOf H x ≠ none) ∧ handOf H y = none ∧ pubs H r = pub := by
      intro h
      by_cases hh : h < n
      · rcases split (H := H) (g h) with ⟨z, _⟩ | ⟨o, x, r, e, ho, hx'⟩
        · rw [hp h hh] at z; cases z
        · have z := hp h hh
          rw [e] at z
          unfold pubs at z
          rw [cut_app o ho x hx'] at z
          injection z with z1 z2
          have z1 : x = y := z1
          subst z1
          exact ⟨o, r, fun _ => ⟨e, ho, hx', z2⟩⟩
      · exact ⟨[], [], fun z => absurd z hh⟩
    obtain ⟨o, hs⟩ := Classical.skolem.mp sp
    obtain ⟨r, hs⟩ := Classical.skolem.mp hs
    have hy : handOf H y = none := (hs 0 h0).2.2.1
    have oo : ∀ h < n, ∀ x ∈ o h, handOf H x = some h := fun h hh x hm => by
      rcases hx h hh x (by rw [(hs h hh).1]; exact List.mem_append_left _ hm) with z | z
      · exact absurd z ((hs h hh).2.1 x hm)
      · exact z
    have ep : ∀ h < n, parts H (g h) = o h :: parts H (r h) := fun h hh => by
      unfold parts
      rw [(hs h hh).1, cut_app _ (hs h hh).2.1 y hy]; rfl
    obtain ⟨i1, i2, i3⟩ := ih r (fun h hh => (hs h hh).2.2.2) (fun h hh x hm => hx h hh x (by rw [(hs h hh).1]; exact List.mem_append_right _ (List.mem_cons_of_mem _ hm))) h0
    obtain ⟨b1, b2, b3⟩ := base o oo
    have mcong : ∀ (pub : Row) (P P' : Nat → List Row), (∀ h < n, P h = P' h) → mrg n P pub = mrg n P' pub := by
      intro pub
      induction pub with
      | nil => intro P P' e; exact flatMap_eq fun h hh => by rw [e h (List.mem_range.mp hh)]
      | cons z pub ih2 =>
        intro P P' e
        unfold mrg
        rw [ih2 (fun h => (P h).tail) (fun h => (P' h).tail) fun h hh => by rw [e h hh]]
        congr 1
        exact flatMap_eq fun h hh => by rw [e h (List.mem_range.mp hh)]
    have em : mrg n (fun h => parts H (g h)) (y :: pub) = (List.range n).flatMap o ++ y :: mrg n (fun h => parts H (r h)) pub := by
      show ((List.range n).flatMap fun h => (parts H (g h)).headD []) ++ y :: mrg n (fun h => (parts H (g h)).tail) pub = _
      have m1 := mcong pub (fun h => (parts H (g h)).tail) (fun h => parts H (r h)) fun h hh => congrArg List.tail (ep h hh)
      have m2 : ((List.range n).flatMap fun h => (parts H (g h)).headD []) = (List.range n).flatMap o := flatMap_eq fun h hh => congrArg (fun l => l.headD []) (ep h (List.mem_range.mp hh))
      rw [m1, m2]
    rw [em]
    refine ⟨fun h hh => ?_, ?_, fun x hm => ?_⟩
    · unfold lookOf at i1 ⊢
      rw [List.filter_append, List.filter_cons_of_pos (seen_pub hy), b1 h hh, i1 h hh]
      exact (hs h hh).1.symm
    · rw [told_app _ b3 y hy, b2, i2]
    · rcases List.mem_append.mp hm with hm | hm
      · obtain ⟨h, h1, h2⟩ := List.mem_flatMap.mp hm
        exact ⟨h, List.mem_range.mp h1, by rw [(hs h (List.mem_range.mp h1)).1]; exact List.mem_append_left _ h2⟩
      · rcases List.mem_cons.mp hm with rfl | hm
        · exact ⟨0, h0, by rw [(hs 0 h0).1]; simp⟩
        · obtain ⟨h, h1, h2⟩ := i3 x hm
          exact ⟨h, h1, by rw [(hs h h1).1]; exact List.mem_append_right _ (List.mem_cons_of_mem _ h2)⟩
theorem handOf_lt {H : Hands} {x : OkS} {k : Nat} (h : handOf H x = some k) : k < H.1.length := by
  unfold handOf at h
  have m := List.mem_of_mem_head? (Option.mem_def.mpr h)
  obtain ⟨p, hp, rfl⟩ := List.mem_map.mp m
  obtain ⟨h1, h2⟩ := List.mem_filter.mp hp
  have z := (List.mem_zipIdx h1).2.1
  simpa using z
theorem told_mem {H : Hands} (hn : 1 ≤ H.1.length) : ∀ n (r : Row), r.length ≤ n → (toldRow H r).length ≤ H.1.length * r.length ∧ ∀ x ∈ toldRow H r, x ∈ r := by
  intro n
  induction n with
  | zero =>
    intro r hr
    have : r = [] := List.length_eq_zero_iff.mp (by omega)
    subst this
    rw [told_own [] (by simp)]
    exact ⟨stretchTold_len H [], fun x hx => (st_own [] x hx).1⟩
  | succ n ih =>
    intro r hr
    rcases split (H := H) r with ⟨_, ho⟩ | ⟨o, x, r', rfl, ho, hx⟩
    · rw [told_own r ho]
      exact ⟨stretchTold_len H r, fun x hx => (st_own r x hx).1⟩
    · rw [told_app o ho x hx]
      obtain ⟨i1, i2⟩ := ih r' (by simp at hr; omega)
      have := stretchTold_len H o
      refine ⟨?_, fun y hy => ?_⟩
      · rw [List.length_append, List.length_cons, List.length_append, List.length_cons, Nat.mul_add, Nat.mul_add]
        omega
      · rcases List.mem_append.mp hy with hy | hy
        · exact List.mem_append_left _ (st_own o y hy).1
        · rcases List.mem_cons.mp hy with rfl | hy
          · exact List.mem_append_right _ List.mem_cons_self
          · exact List.mem_append_right _ (List.mem_cons_of_mem _ (i2 y hy))
theorem sum_lt {l : List Nat} {f g : Nat → Nat} (h : ∀ j ∈ l, f j ≤ g j) (k : Nat) (hk : k ∈ l) (hl : f k < g k) : (l.map f).sum < (l.map g).sum := by
  have le : ∀ l : List Nat, (∀ j ∈ l, f j ≤ g j) → (l.map f).sum ≤ (l.map g).sum := by
    intro l
    induction l with
    | nil => intro _; simp
    | cons a l ih =>
      intro h
      have h1 := h a List.mem_cons_self
      have h2 := ih fun j hj => h j (List.mem_cons_of_mem _ hj)
      simp only [List.map_cons, List.sum_cons]; omega
  induction l with
  | nil => cases hk
  | cons a l ih =>
    simp only [List.map_cons, List.sum_cons]
    have h1 := h a List.mem_cons_self
    rcases List.mem_cons.mp hk with rfl | hk
    · have := le l fun j hj => h j (List.mem_cons_of_mem _ hj)
      omega
    · have := ih (fun j hj => h j (List.mem_cons_of_mem _ hj)) hk
      omega
theorem sum_le {l : List Nat} {f : Nat → Nat} {b : Nat} (h : ∀ j ∈ l, f j ≤ b) : (l.map f).sum ≤ l.length * b := by
  induction l with
  | nil => simp
  | cons a l ih =>
    have h1 := h a List.mem_cons_self
    have h2 := ih fun j hj => h j (List.mem_cons_of_mem _ hj)
    simp only [List.map_cons, List.sum_cons, List.length_cons, Nat.succ_mul]; omega
theorem row_len {H : Hands} (n : Nat) : ∀ M : Row, (∀ x ∈ M, ∃ k < n, seen H k x = true) → M.length ≤ ((List.range n).map fun k => (lookOf H M k).length).sum
  | [], _ => Nat.zero_le _
  | x :: M, h => by
    have ih := row_len n M fun y hy => h y (List.mem_cons_of_mem _ hy)
    obtain ⟨k, hk, hs⟩ := h x List.mem_cons_self
    have z := sum_lt (l := List.range n) (f := fun k => (lookOf H M k).length) (g := fun k => (lookOf H (x :: M) k).length) (fun j _ => by
      unfold lookOf; rw [List.filter_cons]; split <;> simp) k (List.mem_range.mpr hk) (by unfold lookOf; rw [List.filter_cons, if_pos hs]; simp)
    rw [List.length_cons]; omega
end
end Lw
namespace Lw
open PySem DL
open En (en dep)
section
variable {H : Hands}
theorem Exch.trans {a b c : Row} (h1 : Exch H a b) (h2 : Exch H b c) : Exch H a c := by
  induction h2 with
  | refl => exact h1
  | step k x y i j _ hx hy e1 e2 hij ih => exact .step k x y i j ih hx hy e1 e2 hij
theorem Exch.one {r : Row} {k : Nat} {x y : OkS} {i j : Nat} (hx : r[k]? = some x) (hy : r[k + 1]? = some y) (e1 : handOf H x = some i) (e2 : handOf H y = some j) (hij : i ≠ j) : Exch H r ((r.set k y).set (k + 1) x) := .step k x y i j .refl hx hy e1 e2 hij
theorem Exch.back {r : Row} {k : Nat} {x y : OkS} {i j : Nat} (hx : r[k]? = some x) (hy : r[k + 1]? = some y) (e1 : handOf H x = some i) (e2 : handOf H y = some j) (hij : i ≠ j) : Exch H ((r.set k y).set (k + 1) x) r := by
  have l1 := (List.getElem?_eq_some_iff.mp hx).1
  have l2 := (List.getElem?_eq_some_iff.mp hy).1
  have z := Exch.one (H := H) (r := (r.set k y).set (k + 1) x) (k := k) (x := y) (y := x) (by rw [List.getElem?_set_ne (by omega), List.getElem?_set_self l1]) (by rw [List.getElem?_set_self (by rw [List.length_set]; exact l2)]) e2 e1 (fun h => hij h.symm)
  have e : (((r.set k y).set (k + 1) x).set k x).set (k + 1) y = r := by
    refine List.ext_getElem? fun n => ?_
    by_cases h1 : n = k + 1
    · subst h1
      rw [List.getElem?_set_self (by simp only [List.length_set]; exact l2), hy]
    · rw [List.getElem?_set_ne (fun h => h1 h.symm)]
      by_cases h2 : n = k
      · subst h2
        rw [List.getElem?_set_self (by simp only [List.length_set]; exact l1), hx]
      · rw [List.getElem?_set_ne (fun h => h2 h.symm), List.getElem?_set_ne (fun h => h1 h.symm), List.getElem?_set_ne (fun h => h2 h.symm)]
  rwa [e] at z
theorem Exch.symm {a b : Row} (h : Exch H a b) : Exch H b a := by
  induction h with
  | refl => exact .refl
  | step k x y i j _ hx hy e1 e2 hij ih => exact (Exch.back hx hy e1 e2 hij).trans ih
/-! ## rows that are put hand by hand -/
def bad (a b : Option Nat) : Bool := match a, b with
  | some i, some j => decide (i > j)
  | _, _ => false
def isPut (H : Hands) : Row → Bool
  | [] => true
  | [_] => true
  | x :: y :: r => !bad (handOf H x) (handOf H y) && isPut H (y :: r)
theorem isPut_tail {x : OkS} {r : Row} (h : isPut H (x :: r) = true) : isPut H r = true := by
  cases r with
  | nil => rfl
  | cons y r => unfold isPut at h; exact (Bool.and_eq_true_iff.mp h).2
theorem isPut_app : ∀ {a b : Row}, isPut H (a ++ b) = true → isPut H a = true ∧ isPut H b = true
  | [], b, h => ⟨rfl, h⟩
  | [x], b, h => ⟨rfl, isPut_tail h⟩
  | x :: y :: a, b, h => by
    have h' : (!bad (handOf H x) (handOf H y) && isPut H (y :: a ++ b)) = true := h
    obtain ⟨h1, h2⟩ := Bool.and_eq_true_iff.mp h'
    obtain ⟨h3, h4⟩ := isPut_app (a := y :: a) h2
    exact ⟨Bool.and_eq_true_iff.mpr ⟨h1, h3⟩, h4⟩
theorem group_cons {α : Type} (x : α) (a : Nat) (g : Nat → List α) : ∀ n, a < n → (∀ k, k < a → g k = []) → (List.range n).flatMap (fun k => if a = k then x :: g k else g k) = x :: (List.range n).flatMap g
  | 0, h, _ => absurd h (Nat.not_lt_zero a)
  | n + 1, h, hg => by
    rw [flatTake, flatTake]
    by_cases e : a = n
    · subst e
      have z1 : (List.range a).flatMap (fun k => if a = k then x :: g k else g k) = [] := by
        rw [List.flatMap_eq_nil_iff]
        intro k hk
        have := List.mem_range.mp hk
        rw [if_neg (by omega), hg k this]
      have z2 : (List.range a).flatMap g = [] := by
        rw [List.flatMap_eq_nil_iff]
        exact fun k hk => hg k (List.mem_range.mp hk)
      rw [z1, z2, if_pos rfl]; rfl
    · rw [group_cons x a g n (by omega) hg, if_neg e]; rfl
theorem put_own : ∀ (own : Row), (∀ x ∈ own, ∃ k, handOf H x = some k ∧ k < H.1.length) → isPut H own = true → stretchTold H own = own ∧ ∀ x, own.head? = some x → ∀ y ∈ own, ∀ i j, handOf H x = some i → handOf H y = some j → i ≤ j
  | [], _, _ => ⟨by unfold stretchTold; rw [List.flatMap_eq_nil_iff]; intro k _; rfl, fun x h => by cases h⟩
  | x :: own, ho, hp => by
    obtain ⟨ih1, ih2⟩ := put_own own (fun y hy => ho y (List.mem_cons_of_mem _ hy)) (isPut_tail hp)
    obtain ⟨a, ea, la⟩ := ho x List.mem_cons_self
    have le : ∀ y ∈ x :: own, ∀ j, handOf H y = some j → a ≤ j := by
      intro y hy j ej
      rcases List.mem_cons.mp hy with rfl | hy
      · rw [ea] at ej; cases ej; exact Nat.le_refl _
      · cases own with
        | nil => cases hy
        | cons z own =>
          obtain ⟨b, eb, lb⟩ := ho z (by simp)
          have hb : (!bad (handOf H x) (handOf H z) && isPut H (z :: own)) = true := hp
          have h1 := (Bool.and_eq_true_iff.mp hb).1
          rw [ea, eb] at h1
          have h2 : a ≤ b := by
            have : ¬ a > b := by simpa [bad] using h1
            omega
          exact Nat.le_trans h2 (ih2 z rfl y hy b j eb ej)
    refine ⟨?_, fun x' hx' y hy i j ei ej => ?_⟩
    · conv => rhs; rw [← ih1]
      unfold stretchTold
      rw [← group_cons x a (fun k => own.filter fun x => decide (handOf H x = some k)) _ la fun k hk => by
        rw [List.filter_eq_nil_iff]
        intro y hy
        cases e : handOf H y with
        | none => simp
        | some j =>
          have := le y (List.mem_cons_of_mem _ hy) j e
          simp; omega]
      refine flatMap_eq fun k _ => ?_
      by_cases e : a = k
      · rw [if_pos e, List.filter_cons_of_pos (by simp [ea, e])]
      · rw [if_neg e, List.filter_cons_of_neg (by simp [ea, e])]
    · cases hx'
      rw [ea] at ei; cases ei
      exact le y hy j ej
/-- a row that is put is told so -/
theorem put_told (hk : ∀ x k, handOf H x = some k → k < H.1.length) : ∀ n (r : Row), r.length ≤ n → isPut H r = true → toldRow H r = r := by
  have own : ∀ o : Row, (∀ x ∈ o, handOf H x ≠ none) → isPut H o = true → stretchTold H o = o := fun o ho hp =>
    (put_own o (fun x hx => by
      cases e : handOf H x with
      | none => exact absurd e (ho x hx)
      | some k => exact ⟨k, rfl, hk x k e⟩) hp).1
  intro n
  induction n with
  | zero =>
    intro r hr hp
    have : r = [] := List.length_eq_zero_iff.mp (by omega)
    subst this
    rw [told_own [] (by simp)]
    exact own [] (by simp) rfl
  | succ n ih =>
    intro r hr hp
    rcases split (H := H) r with ⟨_, ho⟩ | ⟨o, x, r', rfl, ho, hx⟩
    · rw [told_own r ho]; exact own r ho hp
    · obtain ⟨h1, h2⟩ := isPut_app hp
      rw [told_app o ho x hx, own o ho h1, ih r' (by simp at hr; omega) (isPut_tail h2)]
/-! ## exchanges lead to a row that is put -/
def inv (H : Hands) : Row → Nat
  | [] => 0
  | x :: r => r.countP (fun y => bad (handOf H x) (handOf H y)) + inv H r
theorem inv_swap {x y : OkS} (hb : bad (handOf H x) (handOf H y) = true) (post : Row) : ∀ pre : Row, inv H (pre ++ y :: x :: post) < inv H (pre ++ x :: y :: post)
  | [] => by
    have hb2 : bad (handOf H y) (handOf H x) = false := by
      cases e1 : handOf H x with
      | none => rw [e1] at hb; cases hb
      | some i =>
        cases e2 : handOf H y with
        | none => rw [e1, e2] at hb; cases hb
        | some j => rw [e1, e2] at hb; simp [bad] at hb ⊢; omega
    simp only [List.nil_append, inv, List.countP_cons, hb, hb2]
    simp; omega
  | z :: pre => by
    have ih := inv_swap hb post pre
    simp only [List.cons_append, inv]
    have e : (pre ++ y :: x :: post).countP (fun u => bad (handOf H z) (handOf H u)) = (pre ++ x :: y :: post).countP (fun u => bad (handOf H z) (handOf H u)) := by
      simp only [List.countP_append, List.countP_cons]; omega
    omega
theorem not_put : ∀ r : Row, isPut H r = false → ∃ pre x y post, r = pre ++ x :: y :: post ∧ bad (handOf H x) (handOf H y) = true
  | [], h => by cases h
  | [_], h => by cases h
  | x :: y :: r, h => by
    by_cases hb : bad (handOf H x) (handOf H y) = true
    · exact ⟨[], x, y, r, rfl, hb⟩
    · have h' : (!bad (handOf H x) (handOf H y) && isPut H (y :: r)) = false := h
      have : isPut H (y :: r) = false := by
        rw [Bool.and_eq_false_iff] at h'
        rcases h' with h' | h'
        · simp at h'; exact absurd h' hb
        · exact h'
      obtain ⟨pre, a, b, post, e, hb2⟩ := not_put (y :: r) this
      exact ⟨x :: pre, a, b, post, by rw [e]; rfl, hb2⟩
theorem to_put : ∀ n (r : Row), inv H r ≤ n → ∃ r', Exch H r r' ∧ isPut H r' = true := by
  intro n
  induction n with
  | zero =>
    intro r hr
    cases hp : isPut H r with
    | true => exact ⟨r, .refl, hp⟩
    | false =>
      obtain ⟨pre, x, y, post, e, hb⟩ := not_put r hp
      have := inv_swap (H := H) hb post pre
      rw [← e] at this
      omega
  | succ n ih =>
    intro r hr
    cases hp : isPut H r with
    | true => exact ⟨r, .refl, hp⟩
    | false =>
      obtain ⟨pre, x, y, post, e, hb⟩ := not_put r hp
      have lt := inv_swap (H := H) hb post pre
      rw [← e] at lt
      obtain ⟨r', h1, h2⟩ := ih (pre ++ y :: x :: post) (by omega)
      have hx : r[pre.length]? = some x := by rw [e, List.getElem?_append_right (Nat.le_refl _), Nat.sub_self]; rfl
      have hy : r[pre.length + 1]? = some y := by rw [e, List.getElem?_append_right (by omega), show pre.length + 1 - pre.length = 1 by omega]; rfl
      obtain ⟨i, ei⟩ : ∃ i, handOf H x = some i := by
        cases e1 : handOf H x with
        | none => rw [e1] at hb; cases hb
        | some i => exact ⟨i, rfl⟩
      obtain ⟨j, ej⟩ : ∃ j, handOf H y = some j := by
        cases e1 : handOf H y with
        | none => rw [ei, e1] at hb; cases hb
        | some i => exact ⟨i, rfl⟩
      have hij : i ≠ j := by
        rw [ei, ej] at hb
        simp [bad] at hb; omega
      have st := Exch.one (H := H) hx hy ei ej hij
      rw [swap_two hx hy] at st
      have e2 : r.take pre.length ++ y :: x :: r.drop (pre.length + 2) = pre ++ y :: x :: post := by
        rw [e]
        simp [List.drop_append]
      rw [e2] at st
      exact ⟨r', st.trans h1, h2⟩
/-- the told row of a row: exchanges lead there, and it alone of them is put -/
theorem exch_told (hn : 0 < H.1.length) (hk : ∀ x k, handOf H x = some k → k < H.1.length) (r : Row) : Exch H r (toldRow H r) ∧ isPut H (toldRow H r) = true ∧ ∀ r', Exch H r r' → isPut H r' = true → r' = toldRow H r := by
  have uniq : ∀ r', Exch H r r' → isPut H r' = true → r' = toldRow H r := fun r' h1 h2 => by
    rw [← put_told hk _ r' (Nat.le_refl _) h2]
    exact (told_iff hn r' r).mpr (exch_looks h1)
  obtain ⟨r', h1, h2⟩ := to_put (H := H) _ r (Nat.le_refl _)
  have e := uniq r' h1 h2
  rw [← e]
  exact ⟨h1, h2, fun r'' h3 h4 => by rw [uniq r'' h3 h4, e]⟩
theorem exch_iff (hn : 0 < H.1.length) (hk : ∀ x k, handOf H x = some k → k < H.1.length) (a b : Row) : Exch H a b ↔ lookTold H a = lookTold H b := by
  constructor
  · exact fun h => (exch_looks h).symm
  · intro h
    have e := (told_iff hn a b).mpr h
    have z := (exch_told hn hk a).1
    rw [e] at z
    exact z.trans (exch_told hn hk b).1.symm
end
/-! ## so many rows at most -/
theorem nodup_le {α : Type} [DecidableEq α] : ∀ {l m : List α}, l.Nodup → (∀ x ∈ l, x ∈ m) → l.length ≤ m.length
  | [], _, _, _ => Nat.zero_le _
  | x :: l, m, nd, h => by
    obtain ⟨n1, n2⟩ := List.nodup_cons.mp nd
    have hx := h x List.mem_cons_self
    have z := nodup_le (l := l) (m := m.erase x) n2 fun y hy => by
      have : y ≠ x := fun e => n1 (e ▸ hy)
      exact (List.mem_erase_of_ne this).mpr (h y (List.mem_cons_of_mem _ hy))
    rw [List.length_erase_of_mem hx] at z
    have : 0 < m.length := List.length_pos_of_mem hx
    rw [List.length_cons]; omega
def words {α : Type} (A : List α) : Nat → List (List α)
  | 0 => [[]]
  | n + 1 => A.flatMap fun a => (words A n).map (a :: ·)
theorem words_len {α : Type} (A : List α) : ∀ n, (words A n).length = A.length ^ n
  | 0 => rfl
  | n + 1 => by
    unfold words
    have h : ∀ l : List α, (l.flatMap fun a => (words A n).map (a :: ·)).length = l.length * A.length ^ n := by
      intro l
      induction l with
      | nil => simp
      | cons a l ih => rw [List.flatMap_cons, List.length_append, List.length_map, ih, words_len A n, List.length_cons, Nat.succ_mul]; omega
    rw [h, Nat.pow_succ, Nat.mul_comm]
theorem words_mem {α : Type} {A : List α} : ∀ {w : List α}, (∀ x ∈ w, x ∈ A) → w ∈ words A w.length
  | [], _ => by simp [words]
  | x :: w, h => by
    have z := words_mem (A := A) (w := w) fun y hy => h y (List.mem_cons_of_mem _ hy)
    rw [List.length_cons]
    unfold words
    exact List.mem_flatMap.mpr ⟨x, h x List.mem_cons_self, List.mem_map.mpr ⟨w, z, rfl⟩⟩
end Lw
namespace Lw
open PySem DL
open En (en dep)
local macro_rules | `(tactic| boot_fact) => `(tactic| try simp only [ev_var, List.getElem?_cons_zero, List.getElem?_cons_succ, ev_ex, ev_exI, ev_exI1, ev_exI2, ev_par, ev_par3, ev_exB, ev_exO, ev_exL, ev_some, ev_ex1, ev_exT, ev_add, ev_addL, ev_addT, ev_addTe, ev_addeT, ev_addee, ev_sub, ev_mul, ev_mulL, ev_mulT, ev_fdiv, ev_mod, ev_cmp, ev_toInt, ev_toIntB, ev_i2, ev_i1, ev_neg, ev_slV, ev_sl, ev_slL, ev_slT, seq_en, seq_lv, seq_tup, seq_lvD, lst_lv, lst_lvD, lstD_lvD, ev_tuple, ev_list, ev_lenT, ev_lenL, ev_len, ev_lenV, ev_ixT, ev_ixL, ev_fst, ev_snd, at_0, at_1, at_2, at_3, ev_ix, ev_ixV, ev_gTp, ev_gTp2, ev_gsC, ev_gsN, ev_dput, ev_disp, ev_pr0, ev_pr1, wLc_eq, sFor_eq,
  wC, wNil, wCons, wTup, wLst, qTup, wOp, wUn, wCall, wT, wNotT, wAndT, wOrT, wAndV, wOrV, wNotV, wIf, wChain, sNil, sSeq, sBrk, sCnt, sExp, sRet, sRetN, sIf, gNm, gLs, sAsg, sPar, sPar3, sAug, gSb, wIt, wRng1, wRng2, wMt, wMt0, wNo, wPart, wSl, wRev, wStar, wEnum, wZipS, wZipN, wYes, wLstR1, wTru, wIsi, List.set_cons_zero, List.set_cons_succ, wipeD, List.length_cons, List.length_nil, true_and, and_true, if_true, if_false, Bool.false_eq_true, enumD_map, Nat.zero_le, ev_qF, ev_qT, DL.envOf, List.map_cons, List.map_nil, List.cons_append, List.nil_append, List.replicate])
def ca : OkS := ⟨"a", by decide +kernel⟩
def cb : OkS := ⟨"b", by decide +kernel⟩
def cc : OkS := ⟨"c", by decide +kernel⟩
def cd : OkS := ⟨"d", by decide +kernel⟩
def cp : OkS := ⟨"p", by decide +kernel⟩
def cq : OkS := ⟨"q", by decide +kernel⟩
def cz : OkS := ⟨"z", by decide +kernel⟩
/-- own names taken so far, and those that are left -/
def reach : Nat → List (List Row × Row)
  | 0 => [([], [ca, cb, cc, cd])]
  | n + 1 => (reach n).flatMap fun p => [0, 1, 2].map fun m => (p.1 ++ [p.2.take m], p.2.drop m)
def handsL : List Hands := [2, 3].flatMap fun n => (reach n).flatMap fun p => [[], [cp], [cp, cq]].map fun pub => (if pub = [] ∧ ca ∈ p.2 then p.1.set 0 [ca] else p.1, pub)
theorem reach_len : ∀ n, ∀ p ∈ reach n, p.1.length = n ∧ p.2.length ≤ 4
  | 0, p, h => by rw [List.mem_singleton.mp h]; exact ⟨rfl, by decide⟩
  | n + 1, p, h => by
    obtain ⟨q, hq, h⟩ := List.mem_flatMap.mp h
    obtain ⟨m, _, rfl⟩ := List.mem_map.mp h
    obtain ⟨a, b⟩ := reach_len n q hq
    exact ⟨by simp [a], by simp; omega⟩
theorem r_hands (s : Src) (r : MH) (Q : DK) (q : ∀ H s', H ∈ handsL → Q (en H) (hs s' r)) : S__law_hands [.ob 1] (hs s r) Q := by
  refine ⟨rfl, ?_⟩
  unfold B__law_hands T__law_hands_4 R__law_hands_5 T__law_hands_5 R__law_hands_6 T__law_hands_6 R__law_hands_7 T__law_hands_7 T__law_hands_8 T__law_hands_1 R__law_hands_2 T__law_hands_2 T__law_hands_3
  boot_fact
  have eh : ∀ (s : Src) (l : List D), hs s r ++ [MO.lst l] = hs s (r ++ [MO.lst l]) := fun s l => rfl
  have el : ∀ s : Src, (hs s r).length = r.length + 2 := fun s => by simp [hs]
  rw [eh, el]
  refine ⟨by decide, r_pick 2 (by decide) s _ _ fun k s1 k0 k1 => ?_⟩
  boot_fact
  obtain ⟨k, rfl⟩ := Int.eq_ofNat_of_zero_le k0
  have hk : k < 2 := by omega
  refine ⟨by omega, by omega, ?_⟩
  have e2 : (2 : Int) + (k : Int) = ((2 + k : Nat) : Int) := by omega
  show forB (fun x => some (rngL 0 ((2 : Int) + (k : Int)).toNat)) _ _ _ _ _
  rw [e2, rng0]
  refine forB_ind _ (fun i env h' => ∃ (p : List Row × Row) (s' : Src) (a b c : Option D), p ∈ reach i ∧ env = [some (.ob 1), some (.lv (p.2.map en)), some (.ob (r.length + 2)), a, b, c] ∧ h' = hs s' (r ++ [.lst (p.1.map en)]))
    ⟨([], [ca, cb, cc, cd]), s1, none, none, none, List.mem_singleton.mpr rfl, rfl, rfl⟩ (fun _ _ _ _ => rfl) ?_ ?_
  · rintro i env h' d hd ⟨⟨o, rest⟩, s2, a, b, c, hp, rfl, rfl⟩ N kk
    obtain ⟨l1, l2⟩ := reach_len i _ hp
    have hi : i < 2 + k := by
      have := (List.getElem?_eq_some_iff.mp hd).1
      simpa using this
    boot_fact
    refine ⟨by decide, ?_⟩
    refine r_of (α := Nat) (by decide) [0, 1, 1, 2] (by decide) (by decide) _ (.inr rfl) s2 _ _ fun m s3 hm => ?_
    show rMin2 [.int (rest.map en).length, .int (m : Int)] _ _
    boot_fact
    have g : (hs s3 (r ++ [MO.lst (o.map en)]))[r.length + 2]? = some (.lst (o.map en)) := by
      show (r ++ [MO.lst (o.map en)])[r.length]? = _
      rw [ap_get0]; rfl
    refine ⟨ok_list g, ?_⟩
    have em : (if (m : Int) < ((rest.map (en : OkS → D)).length : Int) then (m : Int) else ((rest.map (en : OkS → D)).length : Int)) = ((min m rest.length : Nat) : Int) := by
      rw [List.length_map]
      split <;> omega
    rw [em, cut_take, cut_drop]
    have e3 : (rest.map (en : OkS → D)).take (min m rest.length) = (rest.take m).map en := by
      rw [List.map_take]
      by_cases h : m ≤ rest.length
      · rw [Nat.min_eq_left h]
      · rw [Nat.min_eq_right (by omega), List.take_of_length_le (by simp), List.take_of_length_le (by simp; omega)]
    have e4 : (rest.map (en : OkS → D)).drop (min m rest.length) = (rest.drop m).map en := by
      rw [List.map_drop]
      by_cases h : m ≤ rest.length
      · rw [Nat.min_eq_left h]
      · rw [Nat.min_eq_right (by omega), List.drop_of_length_le (by simp), List.drop_of_length_le (by simp; omega)]
    rw [e3, e4]
    refine i_app g (by rw [List.length_map]; exact Nat.lt_of_lt_of_le (show o.length < 100000 by simp at l1; omega) (by decide)) ?_
    have e5 : (hs s3 (r ++ [MO.lst (o.map en)])).set (r.length + 2) (.lst (o.map en ++ [D.tup ((rest.take m).map en)])) = hs s3 (r ++ [MO.lst ((o ++ [rest.take m]).map en)]) := by
      show MO.lst _ :: MO.dic _ :: (r ++ [MO.lst _]).set r.length _ = _
      rw [ap_set0, List.map_append]; rfl
    rw [e5]
    refine kk _ _ ⟨(o ++ [rest.take m], rest.drop m), s3, _, _, _, ?_, rfl, rfl⟩
    refine List.mem_flatMap.mpr ⟨_, hp, List.mem_map.mpr ⟨m, ?_, rfl⟩⟩
    revert hm; simp
  · rintro env h' ⟨⟨o, rest⟩, s2, a, b, c, hp, rfl, rfl⟩
    rw [List.length_map, List.length_range] at hp
    obtain ⟨l1, l2⟩ := reach_len _ _ hp
    boot_fact
    refine ⟨by decide, by decide, by decide, by decide, ?_⟩
    refine r_of (α := Row) (by decide) [[], [cp], [cp], [cp, cq]] (by decide) (by decide) _ (.inr rfl) s2 _ _ fun pub s3 hm => ?_
    boot_fact
    have out : ∀ (o2 : List Row), (if pub = [] ∧ ca ∈ rest then o.set 0 [ca] else o) = o2 → ∀ h', h' = hs s3 (r ++ [MO.lst (o2.map en)]) → ∃ xs, seqD h' (D.ob (r.length + 2)) = some xs ∧ 0 + 1 + 1 ≤ sizeLine ∧ fin (hs s r) Q (D.tup [D.tup xs, en pub]) h' := by
      rintro o2 e1 h' rfl
      refine ⟨o2.map en, seq_ob ?_, by decide, ?_⟩
      · show (r ++ [MO.lst (o2.map en)])[r.length]? = _
        rw [ap_get0]; rfl
      · have hH : ((o2, pub) : Hands) ∈ handsL := by
          refine List.mem_flatMap.mpr ⟨2 + k, ?_, List.mem_flatMap.mpr ⟨_, hp, List.mem_map.mpr ⟨pub, ?_, ?_⟩⟩⟩
          · match k, hk with
            | 0, _ => simp
            | 1, _ => simp
          · revert hm; simp
          · rw [← e1]
        exact fin_src (s := s) (d := en ((o2, pub) : Hands)) ((En.gd _).le (by decide)) (q _ s3 hH)
    refine i_eq (α := Row) (a := pub) (b := []) (by decide) ⟨_, rfl, ?_⟩
    simp only [Bool.false_eq_true, if_false]
    by_cases h1 : pub = []
    · rw [if_pos (decide_eq_true h1)]
      refine i_inV (a := ca) ⟨_, rfl, ?_⟩
      simp only [Bool.false_eq_true, if_false]
      by_cases h2 : ca ∈ rest
      · rw [if_pos (decide_eq_true h2)]
        refine ⟨by decide, ?_⟩
        have g : (hs s3 (r ++ [MO.lst (o.map en)]))[r.length + 2]? = some (.lst (o.map en)) := by
          show (r ++ [MO.lst (o.map en)])[r.length]? = _
          rw [ap_get0]; rfl
        refine i_setOb (k := 0) g (by rw [List.length_map]; simp at l1; omega) ?_
        refine out (o.set 0 [ca]) (if_pos ⟨h1, h2⟩) _ ?_
        show MO.lst _ :: MO.dic _ :: (r ++ [MO.lst _]).set r.length _ = _
        rw [ap_set0, List.map_set]; rfl
      · rw [if_neg (by simpa using h2)]
        exact out o (if_neg fun z => h2 z.2) _ rfl
    · rw [if_neg (by simpa using h1)]
      exact out o (if_neg fun z => h1 z.1) _ rfl
theorem r_names {H : Hands} (h1 : (namesOf H).length ≤ 1000) : Runs S__law_names [en H] (en (namesOf H)) := by
  intro h Q q
  refine ⟨rfl, ?_⟩
  unfold B__law_names T__law_names_1 R__law_names_2 T__law_names_2 T__law_names_3
  boot_fact
  have hl : H.1.flatten.length + H.2.length ≤ 1000 := by unfold namesOf at h1; rwa [List.length_append] at h1
  refine forB_ind (H.1.map en) (fun i env h' => ∃ a : Option D, env = [some (en H), some (.tup ((H.1.take i).flatten.map en)), a] ∧ h' = h) ⟨_, rfl, rfl⟩ (fun _ _ _ _ => rfl) ?_ ?_
  · rintro i env h' d hd ⟨a, rfl, rfl⟩ N k
    rw [List.getElem?_map] at hd
    obtain ⟨y, hy, rfl⟩ := Option.map_eq_some_iff.mp hd
    boot_fact
    have l1 := flat_le (xs := H.1) (i := i + 1)
    rw [flat_take hy, List.length_append] at l1
    refine ⟨by rw [List.length_map, List.length_map]; exact szl (by omega), ?_⟩
    refine k _ _ ⟨some (en y), ?_, rfl⟩
    rw [flat_take hy, List.map_append]
  · rintro env h' ⟨a, rfl, rfl⟩
    boot_fact
    simp only [List.length_map, List.take_length]
    refine ⟨szl (by omega), ?_⟩
    have z := fin_en0 (h := h') (by decide) q
    have e : en (namesOf H) = D.tup (List.map en H.1.flatten ++ List.map en H.2) := by unfold namesOf; rw [← List.map_append]; rfl
    rw [← e]; exact z
theorem r_owner {H : Hands} (hb : HB H) (x : OkS) : Runs S__law_owner [en H, en x] (en (handOf H x)) := by
  intro h Q q
  refine ⟨rfl, ?_⟩
  unfold B__law_owner T__law_owner_1 T__law_owner_2
  boot_fact
  refine lcB_pure H.1.zipIdx (fun p => .tup [.int (p.2 : Int), en p.1]) (fun p => decide (x ∈ p.1)) (fun p => .int (p.2 : Int)) (enumD_map H.1) ?_ ?_ ?_
  · rw [zipIdx_len]; exact szl (by have := hb.n; omega)
  · intro t ht K1 K0 k
    boot_fact
    refine i_in ?_
    boot_fact
    exact k
  · boot_fact
    have e : List.map (fun p : List OkS × Nat => D.int (p.2 : Int)) (List.filter (fun p => decide (x ∈ p.1)) H.1.zipIdx) = ((H.1.zipIdx.filter fun p => decide (x ∈ p.1)).map (·.2)).map en := by rw [List.map_map]; rfl
    rw [e]
    have eq : handOf H x = ((H.1.zipIdx.filter fun p => decide (x ∈ p.1)).map (·.2)).head? := rfl
    revert eq
    generalize ((H.1.zipIdx.filter fun p => decide (x ∈ p.1)).map (·.2)) = l
    intro eq
    refine i_neL (b := ([] : List Nat)) (by decide) ?_
    boot_fact
    cases l with
    | nil =>
      rw [eq] at q
      exact fin_gd0 trivial q
    | cons y l =>
      rw [eq] at q
      rw [if_pos (by simp)]
      exact ⟨en y, at_0, fin_gd0 (d := en y) trivial q⟩
/-- looks by own and public names -/
def lookW (H : Hands) (row : Row) : List Row := H.1.map fun own => row.filter fun x => decide (x ∈ own ++ H.2)
theorem r_lookW {H : Hands} (hb : HB H) (h1 : (namesOf H).length ≤ 1000) (row : Row) (hr : row.length ≤ 10000) : Runs S__law_look [en H, en row] (en (lookW H row)) := by
  intro h Q q
  refine ⟨rfl, ?_⟩
  unfold B__law_look T__law_look_1 R__law_look_2 T__law_look_2 T__law_look_3
  boot_fact
  have bn := hb.n
  have hl : H.1.flatten.length + H.2.length ≤ 1000 := by unfold namesOf at h1; rwa [List.length_append] at h1
  refine forB_ind (H.1.map en) (fun i env h' => ∃ (a b : Option D), env = [some (en H), some (en row), some (.ob h.length), a, b] ∧ h' = h ++ [.lst (((H.1.take i).map fun own => row.filter fun x => decide (x ∈ own ++ H.2)).map en)]) ⟨_, _, rfl, rfl⟩ (fun _ _ _ _ => rfl) ?_ ?_
  · rintro i env h' d hd ⟨a, b, rfl, rfl⟩ N k
    rw [List.getElem?_map] at hd
    obtain ⟨y, hy, rfl⟩ := Option.map_eq_some_iff.mp hd
    have hlt := (List.getElem?_eq_some_iff.mp hy).1
    boot_fact
    have g : (h ++ [MO.lst (((H.1.take i).map fun own => row.filter fun x => decide (x ∈ own ++ H.2)).map en)])[h.length]? = some (.lst (((H.1.take i).map fun own => row.filter fun x => decide (x ∈ own ++ H.2)).map en)) := by rw [ap_get0]; rfl
    refine ⟨ok_list g, ?_⟩
    refine lcB_pure row en (fun x => decide (x ∈ y ++ H.2)) en rfl (szl (by omega)) (fun x hx K1 K0 kk => ?_) ?_
    · boot_fact
      have ly : y.length ≤ H.1.flatten.length := by
        have := flat_le (xs := H.1) (i := i + 1)
        rw [flat_take hy, List.length_append] at this; omega
      refine ⟨by rw [List.length_map, List.length_map]; exact szl (by omega), ?_⟩
      have e : D.tup (List.map en y ++ List.map en H.2) = en (y ++ H.2) := by show _ = D.tup (List.map en (y ++ H.2)); rw [List.map_append]
      rw [e]
      refine i_in ⟨_, rfl, ?_⟩
      simp only [Bool.false_eq_true, if_false]
      exact kk
    · boot_fact
      refine i_app g (by simp only [List.length_map, List.length_take]; exact Nat.lt_of_le_of_lt (show _ ≤ 64 by omega) (by decide)) ?_
      rw [ap_set0]
      refine k _ _ ⟨_, _, rfl, ?_⟩
      rw [List.take_add_one, hy]
      simp only [List.set_cons_zero, Option.toList_some, List.map_append]
      rfl
  · rintro env h' ⟨a, b, rfl, rfl⟩
    boot_fact
    rw [List.length_map, List.take_length]
    refine ⟨_, seq_ob (by rw [ap_get0]; rfl), ?_⟩
    exact fin_en (a := lookW H row) (by decide) q
theorem isPut_all (H : Hands) : ∀ row : Row, isPut H row = ((row.map (handOf H)).zip (row.map (handOf H)).tail).all fun p => !bad p.1 p.2
  | [] => rfl
  | [_] => rfl
  | x :: y :: r => by
    have ih := isPut_all H (y :: r)
    unfold isPut
    rw [ih]; rfl
theorem r_is_put {H : Hands} (hb : HB H) (row : Row) (hr : row.length ≤ 10000) : Runs S__law_is_put [en H, en row] (.bl (isPut H row)) := by
  intro h Q q
  refine ⟨rfl, ?_⟩
  unfold B__law_is_put T__law_is_put_1 R__law_is_put_2 T__law_is_put_2 T__law_is_put_3
  boot_fact
  refine lcB_map row en (fun x => en (handOf H x)) rfl (szl (by omega)) (fun x hx K1 kk => ?_) ?_
  · boot_fact
    exact r_owner hb x _ _ kk
  boot_fact
  rw [cut_tail]
  have e1 : row.map (fun x => en (handOf H x)) = (row.map (handOf H)).map en := by rw [List.map_map]; rfl
  rw [e1, isPut_all] at *
  revert q
  generalize hos : row.map (handOf H) = os
  intro q
  have zs : ∀ h' : MH, zipND (.lv (os.map en)) (.lv (os.map en).tail) h' = some ((os.zip os.tail).map fun p => D.tup [en p.1, en p.2]) := fun h' => zipND_en os os.tail rfl (by rw [List.map_tail]; rfl)
  refine ⟨⟨_, zs _⟩, ?_⟩
  refine forB_ind _ (fun i env h' => ∃ (a b : Option D), env = [some (en H), some (en row), some (D.lv (os.map en)), none, a, b] ∧ h' = h ∧ ((os.zip os.tail).take i).all (fun p => !bad p.1 p.2) = true) ⟨_, _, rfl, rfl, rfl⟩ (fun _ _ _ _ => zs _) ?_ ?_
  · rintro i env h' d hd ⟨a, b, rfl, rfl, ha⟩ N k
    rw [List.getElem?_map] at hd
    obtain ⟨⟨o1, o2⟩, hp, rfl⟩ := Option.map_eq_some_iff.mp hd
    boot_fact
    have goOn : bad o1 o2 = false → N [some (en H), some (en row), some (D.lv (os.map en)), none, some (en o1), some (en o2)] h' := fun hb =>
      k _ _ ⟨_, _, rfl, rfl, by rw [List.take_add_one, hp, List.all_append, ha]; simp [hb]⟩
    refine i_isN ?_
    refine ⟨_, rfl, ?_⟩
    simp only [if_true]
    cases o1 with
    | none => rw [if_neg (by simp)]; exact goOn rfl
    | some u =>
      rw [if_pos (by simp)]
      refine i_isN ?_
      refine ⟨_, rfl, ?_⟩
      simp only [if_true]
      cases o2 with
      | none => rw [if_neg (by simp)]; exact goOn rfl
      | some v =>
        rw [if_pos (by simp)]
        show rGt (.int (u : Int)) (.int (v : Int)) _ _
        boot_fact
        by_cases huv : u > v
        · rw [if_pos (by simp; omega)]
          have f : (os.zip os.tail).all (fun p => !bad p.1 p.2) = false := by
            rw [List.all_eq_false]
            exact ⟨_, List.mem_of_getElem? hp, by simp [bad, huv]⟩
          rw [f] at q
          exact fin_gd0 trivial q
        · rw [if_neg (by simp; omega)]
          exact goOn (by simp [bad]; omega)
  · rintro env h' ⟨a, b, rfl, rfl, ha⟩
    rw [List.length_map, List.take_length] at ha
    boot_fact
    rw [ha] at q
    exact fin_gd0 trivial q
end Lw
namespace Lw
open PySem DL
open En (en dep)
local macro_rules | `(tactic| boot_fact) => `(tactic| try simp only [ev_var, List.getElem?_cons_zero, List.getElem?_cons_succ, ev_ex, ev_exI, ev_exI1, ev_exI2, ev_par, ev_par3, ev_exB, ev_exO, ev_exL, ev_some, ev_ex1, ev_exT, ev_add, ev_addL, ev_addT, ev_addTe, ev_addeT, ev_addee, ev_sub, ev_mul, ev_mulL, ev_mulT, ev_fdiv, ev_mod, ev_cmp, ev_toInt, ev_toIntB, ev_i2, ev_i1, ev_neg, ev_slV, ev_sl, ev_slL, ev_slT, seq_en, seq_lv, seq_tup, seq_lvD, lst_lv, lst_lvD, lstD_lvD, ev_tuple, ev_list, ev_lenT, ev_lenL, ev_len, ev_lenV, ev_ixT, ev_ixL, ev_fst, ev_snd, at_0, at_1, at_2, at_3, ev_ix, ev_ixV, ev_gTp, ev_gTp2, ev_gsC, ev_gsN, ev_dput, ev_disp, ev_pr0, ev_pr1, wLc_eq, sFor_eq,
  wC, wNil, wCons, wTup, wLst, qTup, wOp, wUn, wCall, wT, wNotT, wAndT, wOrT, wAndV, wOrV, wNotV, wIf, wChain, sNil, sSeq, sBrk, sCnt, sExp, sRet, sRetN, sIf, gNm, gLs, sAsg, sPar, sPar3, sAug, gSb, wIt, wRng1, wRng2, wMt, wMt0, wNo, wPart, wSl, wRev, wStar, wEnum, wZipS, wZipN, wYes, wLstR1, wTru, wIsi, List.set_cons_zero, List.set_cons_succ, wipeD, List.length_cons, List.length_nil, true_and, and_true, if_true, if_false, Bool.false_eq_true, enumD_map, Nat.zero_le, ev_qF, ev_qT, DL.envOf, List.map_cons, List.map_nil, List.cons_append, List.nil_append, List.replicate])
/-- one exchange at place p -/
def stepAt (H : Hands) (r : Row) (p : Nat) (r' : Row) : Prop := ∃ x y i j, r[p]? = some x ∧ r[p + 1]? = some y ∧ handOf H x = some i ∧ handOf H y = some j ∧ i ≠ j ∧ r' = (r.set p y).set (p + 1) x
structure Led (H : Hands) (row : Row) (line : List Row) (k : Nat) : Prop where
  nd : line.Nodup
  ex : ∀ r ∈ line, Exch H row r
  me : row ∈ line
  cl : ∀ n r, n < k → line[n]? = some r → ∀ p r', stepAt H r p r' → r' ∈ line
theorem Led.le {H : Hands} {row : Row} {line : List Row} {k : Nat} (L : Led H row line k) : line.length ≤ row.length ^ row.length := by
  rw [← words_len row]
  refine nodup_le L.nd fun r hr => ?_
  have e := L.ex r hr
  have z := words_mem (A := row) (w := r) (exch_mem e)
  rwa [e.len] at z
theorem Led.done {H : Hands} {row : Row} {line : List Row} (L : Led H row line line.length) : ∀ r, r ∈ line ↔ Exch H row r := by
  intro r
  refine ⟨L.ex r, fun e => ?_⟩
  induction e with
  | refl => exact L.me
  | @step r k x y i j _ hx hy e1 e2 hij ih =>
    obtain ⟨n, hn, e⟩ := List.getElem_of_mem ih
    exact L.cl n r hn (by rw [List.getElem?_eq_getElem hn, e]) k _ ⟨x, y, i, j, hx, hy, e1, e2, hij, rfl⟩
theorem r_led {H : Hands} (hb : HB H) (row : Row) (hr : row.length ≤ 6) (h : MH) (Q : DK) (q : ∀ led : List Row, led.Nodup → (∀ r, r ∈ led ↔ Exch H row r) → led.length ≤ 46656 → Q (.lv (led.map en)) h) : S__law_led [en H, en row] h Q := by
  refine ⟨rfl, ?_⟩
  unfold B__law_led T__law_led_6 R__law_led_7 T__law_led_7 T__law_led_8
  boot_fact
  refine ⟨by decide, ?_⟩
  have bnd : row.length ^ row.length ≤ 46656 := by
    have : ∀ n, n ≤ 6 → n ^ n ≤ 46656 := by decide
    exact this _ hr
  unfold sWhl
  refine ⟨fun m env h' => ∃ (line : List Row) (k : Nat) (a b c d e f : Option D), env = [some (en H), some (en row), some (.ob h.length), some (.int (k : Int)), a, b, c, d, e, f] ∧ h' = h ++ [.lst (line.map en)] ∧ k ≤ line.length ∧ m = row.length ^ row.length - k ∧ Led H row line k,
    ⟨_, [row], 0, none, none, none, none, none, none, rfl, rfl, by simp, rfl, ⟨by simp, fun r hm => by rw [List.mem_singleton.mp hm]; exact .refl, by simp, fun n r hn => absurd hn (Nat.not_lt_zero n)⟩⟩, ?_⟩
  rintro m env h' ⟨line, k, a, b, c, d, e, f, rfl, rfl, hk, rfl, L⟩
  have g : (h ++ [MO.lst (line.map en)])[h.length]? = some (.lst (line.map en)) := by rw [ap_get0]; rfl
  boot_fact
  refine i_lenOb g ?_
  boot_fact
  rw [List.length_map]
  by_cases hlt : k < line.length
  · rw [if_pos (by simp; omega)]
    have lb := L.le
    refine ⟨fun env h' => ∃ (line : List Row) (a b c d e f : Option D), env = [some (en H), some (en row), some (.ob h.length), some (.int ((k + 1 : Nat) : Int)), a, b, c, d, e, f] ∧ h' = h ++ [.lst (line.map en)] ∧ k + 1 ≤ line.length ∧ Led H row line (k + 1),
      fun env' h' ⟨line, a, b, c, d, e, f, e1, e2, e3, L2⟩ => ⟨row.length ^ row.length - (k + 1), by omega, line, k + 1, a, b, c, d, e, f, e1, e2, e3, rfl, L2⟩, ?_⟩
    unfold T__law_led_4 T__law_led_5
    boot_fact
    refine ixOb g (d := en line[k]) (by rw [at_nat, List.getElem?_map, List.getElem?_eq_getElem hlt]; rfl) ?_
    boot_fact
    have eh := L.ex line[k] (List.getElem_mem hlt)
    have lh := eh.len
    have me : line[k]? = some line[k] := List.getElem?_eq_getElem hlt
    revert eh lh me
    generalize line[k] = here
    intro eh lh me
    refine ⟨by omega, by omega, ?_⟩
    have eR : ((here.length : Int) - 1).toNat = here.length - 1 := by omega
    have eR2 : rngL 0 ((here.length : Int) - 1).toNat = (List.range (here.length - 1)).map fun i : Nat => (D.int (i : Int)) := by rw [eR]; exact rng0' _
    rw [eR2]
    refine forB_ind _ (fun i env h' => ∃ (l2 : List Row) (b c d e f : Option D), env = [some (en H), some (en row), some (.ob h.length), some (.int ((k : Int) + 1)), some (en here), b, c, d, e, f] ∧ h' = h ++ [.lst (l2.map en)] ∧ (∃ ext, l2 = line ++ ext) ∧ l2.Nodup ∧ (∀ r ∈ l2, Exch H row r) ∧ ∀ p r', p < i → stepAt H here p r' → r' ∈ l2)
      ⟨line, _, _, _, _, _, rfl, rfl, ⟨[], by simp⟩, L.nd, L.ex, fun p r' hp => absurd hp (Nat.not_lt_zero p)⟩ (fun _ _ _ _ => rfl) ?_ ?_
    · rintro i env h' dd hd ⟨l2, b, c, d, e, f, rfl, rfl, ⟨ext, hext⟩, nd, ex, cl⟩ N kk
      rw [List.getElem?_map] at hd
      obtain ⟨i', hi', rfl⟩ := Option.map_eq_some_iff.mp hd
      obtain ⟨hlt2, hi2⟩ := List.getElem?_eq_some_iff.mp hi'
      rw [List.length_range] at hlt2
      have : i' = i := by simpa using hi2.symm
      subst this
      have p1 : i' < here.length := by omega
      have p2 : i' + 1 < here.length := by omega
      have lb2 : l2.length ≤ row.length ^ row.length := by
        rw [← words_len row]
        refine nodup_le nd fun r hr => ?_
        have z := words_mem (A := row) (w := r) (exch_mem (ex r hr))
        rwa [(ex r hr).len] at z
      unfold T__law_led_1 R__law_led_2 T__law_led_2 T__law_led_3
      boot_fact
      have hx : here[i']? = some here[i'] := List.getElem?_eq_getElem p1
      have hy : here[i' + 1]? = some here[i' + 1] := List.getElem?_eq_getElem p2
      revert hx hy
      generalize hX : here[i'] = x
      generalize hY : here[i' + 1] = y
      intro hx hy
      have two : (here.drop i').take 2 = [x, y] := by
        rw [List.drop_eq_getElem_cons p1, List.drop_eq_getElem_cons p2, hX, hY]; rfl
      have c1 : cutD (here.map en) (some (i' : Int)) (some ((i' : Int) + 2)) = [x, y].map (en : OkS → D) := by
        rw [show ((i' : Int) + 2) = ((i' + 2 : Nat) : Int) by omega, cut_nat, show i' + 2 - i' = 2 by omega, ← List.map_drop, ← List.map_take, two]
      have c2 : cutD (here.map en) none (some (i' : Int)) = (here.take i').map (en : OkS → D) := by rw [cut_take, List.map_take]
      have c3 : cutD (here.map en) (some ((i' : Int) + 2)) none = (here.drop (i' + 2)).map (en : OkS → D) := by
        rw [show ((i' : Int) + 2) = ((i' + 2 : Nat) : Int) by omega, cut_drop, List.map_drop]
      have a1 : L2.atI (here.map en) (i' : Int) = some (en x : D) := by rw [at_nat, List.getElem?_map, hx]; rfl
      have a2 : L2.atI (here.map en) ((i' : Int) + 1) = some (en y : D) := by rw [show ((i' : Int) + 1) = ((i' + 1 : Nat) : Int) by omega, at_nat, List.getElem?_map, hy]; rfl
      have g2 : (h ++ [MO.lst (l2.map en)])[h.length]? = some (.lst (l2.map en)) := by rw [ap_get0]; rfl
      refine lcB_map [x, y] en (fun x => en (handOf H x)) (by rw [c1]) (by show 2 ≤ sizeLine; decide) (fun u hu K1 q1 => ?_) ?_
      · boot_fact
        exact r_owner hb u _ _ q1
      boot_fact
      rw [c2, c3]
      refine ⟨_, a2, _, a1, by decide, by simp only [List.length_map, List.length_take]; exact szl (by omega), ?_⟩
      refine ⟨by simp only [List.length_map, List.length_append, List.length_take, List.length_drop, List.length_cons, List.length_nil]; exact szl (by omega), ?_⟩
      have eLate : D.tup (List.map en (here.take i') ++ [en y, en x] ++ List.map en (here.drop (i' + 2))) = en ((here.set i' y).set (i' + 1) x) := by
        rw [swap_two hx hy]
        show _ = D.tup (List.map en (here.take i' ++ y :: x :: here.drop (i' + 2)))
        rw [List.map_append]; simp
      rw [eLate]
      have skip : ∀ env', (∃ b c d e f, env' = [some (en H), some (en row), some (.ob h.length), some (.int ((k : Int) + 1)), some (en here), b, c, d, e, f]) → (∀ r', stepAt H here i' r' → r' ∈ l2) → N env' (h ++ [MO.lst (l2.map en)]) := by
        rintro env' ⟨b, c, d, e, f, rfl⟩ hs
        refine kk _ _ ⟨l2, b, c, d, e, f, rfl, rfl, ⟨ext, hext⟩, nd, ex, fun p r' hp hst => ?_⟩
        by_cases hpi : p < i'
        · exact cl p r' hpi hst
        · have : p = i' := by omega
          subst this
          exact hs r' hst
      have stp : ∀ r', stepAt H here i' r' → ∃ u v, handOf H x = some u ∧ handOf H y = some v ∧ u ≠ v ∧ r' = (here.set i' y).set (i' + 1) x := by
        rintro r' ⟨x', y', u, v, h1, h2, h3, h4, h5, h6⟩
        rw [hx] at h1; cases h1
        rw [hy] at h2; cases h2
        exact ⟨u, v, h3, h4, h5, h6⟩
      refine i_isN ⟨_, rfl, ?_⟩
      simp only [if_true]
      cases e1 : handOf H x with
      | none => rw [if_neg (by simp)]; exact skip _ ⟨_, _, _, _, _, rfl⟩ fun r' hs => by obtain ⟨u, v, z, _⟩ := stp r' hs; rw [e1] at z; cases z
      | some u =>
        rw [if_pos (by simp)]
        refine i_isN ⟨_, rfl, ?_⟩
        simp only [if_true]
        cases e2 : handOf H y with
        | none => rw [if_neg (by simp)]; exact skip _ ⟨_, _, _, _, _, rfl⟩ fun r' hs => by obtain ⟨u, v, _, z, _⟩ := stp r' hs; rw [e2] at z; cases z
        | some v =>
          rw [if_pos (by simp)]
          refine i_eq (α := Option Nat) (a := some u) (b := some v) (by decide) ⟨_, rfl, ?_⟩
          simp only [if_true]
          by_cases huv : u = v
          · rw [if_neg (by simp [huv])]
            refine skip _ ⟨_, _, _, _, _, rfl⟩ fun r' hs => ?_
            obtain ⟨u', v', z1, z2, z3, _⟩ := stp r' hs
            rw [e1] at z1; cases z1
            rw [e2] at z2; cases z2
            exact absurd huv z3
          · rw [if_pos (by simp [huv])]
            refine i_inOb (a := (here.set i' y).set (i' + 1) x) (by decide) g2 ⟨_, rfl, ?_⟩
            simp only [if_true]
            by_cases hm : (here.set i' y).set (i' + 1) x ∈ l2
            · rw [if_neg (by simp [hm])]
              refine skip _ ⟨_, _, _, _, _, rfl⟩ fun r' hs => ?_
              obtain ⟨_, _, _, _, _, z⟩ := stp r' hs
              rw [z]; exact hm
            · rw [if_pos (by simp [hm])]
              refine ⟨ok_list g2, i_app g2 (by rw [List.length_map]; exact Nat.lt_of_lt_of_le (show l2.length < 100000 by omega) (by decide)) ?_⟩
              rw [ap_set0]
              refine kk _ _ ⟨l2 ++ [(here.set i' y).set (i' + 1) x], _, _, _, _, _, rfl, by simp, ⟨ext ++ [(here.set i' y).set (i' + 1) x], by rw [hext, List.append_assoc]⟩, ?_, fun r hr => ?_, fun p r' hp hst => ?_⟩
              · rw [List.nodup_append]
                exact ⟨nd, by simp, fun a ha b hb2 => by rw [List.mem_singleton.mp hb2]; exact fun z => hm (z ▸ ha)⟩
              · rcases List.mem_append.mp hr with hr | hr
                · exact ex r hr
                · rw [List.mem_singleton.mp hr]
                  exact eh.trans (.one hx hy e1 e2 huv)
              · by_cases hpi : p < i'
                · exact List.mem_append_left _ (cl p r' hpi hst)
                · have : p = i' := by omega
                  subst this
                  obtain ⟨_, _, _, _, _, z⟩ := stp r' hst
                  rw [z]; simp
    · rintro env h' ⟨l2, b, c, d, e, f, rfl, rfl, ⟨ext, rfl⟩, nd, ex, cl⟩
      rw [List.length_map, List.length_range] at cl
      refine ⟨line ++ ext, _, _, _, _, _, _, rfl, rfl, by rw [List.length_append]; omega, nd, ex, List.mem_append_left _ L.me, fun n r hn hr p r' hs => ?_⟩
      by_cases hnk : n < k
      · rw [List.getElem?_append_left (by omega)] at hr
        exact List.mem_append_left _ (L.cl n r hnk hr p r' hs)
      · have : n = k := by omega
        subst this
        rw [List.getElem?_append_left hlt, me] at hr
        cases hr
        have hp : p < here.length - 1 := by
          obtain ⟨x, y, i, j, _, hy, _⟩ := hs
          have := (List.getElem?_eq_some_iff.mp hy).1
          omega
        exact cl p r' hp hs
  · rw [if_neg (by simp; omega)]
    have hke : k = line.length := by omega
    subst hke
    boot_fact
    have z := q line L.nd L.done (Nat.le_trans L.le bnd)
    refine fin_pure (d' := .lv (line.map en)) ?_ z
    exact fz_ob (by omega) g (mapO_map fun r _ => fz_en (by decide) r)
end Lw
namespace Lw
open PySem DL
open En (en dep)
local macro_rules | `(tactic| boot_fact) => `(tactic| try simp only [ev_var, List.getElem?_cons_zero, List.getElem?_cons_succ, ev_ex, ev_exI, ev_exI1, ev_exI2, ev_par, ev_par3, ev_exB, ev_exO, ev_exL, ev_some, ev_ex1, ev_exT, ev_add, ev_addL, ev_addT, ev_addTe, ev_addeT, ev_addee, ev_sub, ev_mul, ev_mulL, ev_mulT, ev_fdiv, ev_mod, ev_cmp, ev_toInt, ev_toIntB, ev_i2, ev_i1, ev_neg, ev_slV, ev_sl, ev_slL, ev_slT, seq_en, seq_lv, seq_tup, seq_lvD, lst_lv, lst_lvD, lstD_lvD, ev_tuple, ev_list, ev_lenT, ev_lenL, ev_len, ev_lenV, ev_ixT, ev_ixL, ev_fst, ev_snd, at_0, at_1, at_2, at_3, ev_ix, ev_ixV, ev_gTp, ev_gTp2, ev_gsC, ev_gsN, ev_dput, ev_disp, ev_pr0, ev_pr1, wLc_eq, sFor_eq,
  wC, wNil, wCons, wTup, wLst, qTup, wOp, wUn, wCall, wT, wNotT, wAndT, wOrT, wAndV, wOrV, wNotV, wIf, wChain, sNil, sSeq, sBrk, sCnt, sExp, sRet, sRetN, sIf, gNm, gLs, sAsg, sPar, sPar3, sAug, gSb, wIt, wRng1, wRng2, wMt, wMt0, wNo, wPart, wSl, wRev, wStar, wEnum, wZipS, wZipN, wYes, wLstR1, wTru, wIsi, List.set_cons_zero, List.set_cons_succ, wipeD, List.length_cons, List.length_nil, true_and, and_true, if_true, if_false, Bool.false_eq_true, enumD_map, Nat.zero_le, ev_qF, ev_qT, DL.envOf, List.map_cons, List.map_nil, List.cons_append, List.nil_append, List.replicate])
structure Good (H : Hands) : Prop where
  pub : ∀ x ∈ namesOf H, (x ∈ H.2 ↔ handOf H x = none)
  own : ∀ x ∈ namesOf H, ∀ k, k < H.1.length → (x ∈ (H.1[k]?).getD [] ↔ handOf H x = some k)
  n2 : 2 ≤ H.1.length
  n3 : H.1.length ≤ 3
  nn : 0 < (namesOf H).length
  n4 : (namesOf H).length ≤ 8
  noz : cz ∉ H.2 ∧ handOf H cz = none
  len1 : ∀ x ∈ namesOf H, x.1.length ≤ 16
theorem good_all : ∀ H ∈ handsL, Good H := by
  have h : ∀ H ∈ handsL, (∀ x ∈ namesOf H, (x ∈ H.2 ↔ handOf H x = none)) ∧ (∀ x ∈ namesOf H, ∀ k ∈ List.range H.1.length, (x ∈ (H.1[k]?).getD [] ↔ handOf H x = some k)) ∧ 2 ≤ H.1.length ∧ H.1.length ≤ 3 ∧ 0 < (namesOf H).length ∧ (namesOf H).length ≤ 8 ∧ (cz ∉ H.2 ∧ handOf H cz = none) ∧ ∀ x ∈ namesOf H, x.1.length ≤ 16 := by decide +kernel
  intro H hm
  obtain ⟨a, b, c, d, e, f, g, i⟩ := h H hm
  exact ⟨a, fun x hx k hk => b x hx k (List.mem_range.mpr hk), c, d, e, f, g, i⟩
theorem Good.hb {H : Hands} (G : Good H) : HB H := ⟨by have := G.n3; omega⟩
theorem Good.n0 {H : Hands} (G : Good H) : 0 < H.1.length := by have := G.n2; omega
theorem map_range {α β : Type} (l : List (List α)) (f : List α → β) : l.map f = (List.range l.length).map fun k => f ((l[k]?).getD []) := by
  refine List.ext_getElem? fun k => ?_
  rw [List.getElem?_map, List.getElem?_map]
  by_cases h : k < l.length
  · rw [List.getElem?_range h]
    show Option.map f l[k]? = some (f ((l[k]?).getD []))
    rw [List.getElem?_eq_getElem h]; rfl
  · rw [List.getElem?_eq_none (by omega), List.getElem?_eq_none (by simp; omega)]; rfl
theorem seen_iff {H : Hands} (G : Good H) {x : OkS} (hx : x ∈ namesOf H) {k : Nat} (hk : k < H.1.length) : seen H k x = decide (x ∈ (H.1[k]?).getD [] ++ H.2) := by
  unfold seen
  rw [decide_eq_decide, List.mem_append, G.own x hx k hk, G.pub x hx]
  exact Or.comm
theorem lookW_eq {H : Hands} (G : Good H) {row : Row} (hr : ∀ x ∈ row, x ∈ namesOf H) : lookW H row = lookTold H row := by
  unfold lookW lookTold
  rw [map_range]
  refine List.map_congr_left fun k hk => ?_
  unfold lookOf
  exact List.filter_congr fun x hx => (seen_iff G (hr x hx) (List.mem_range.mp hk)).symm
theorem sz_name (x : OkS) (h : x.1.length ≤ 16) (Ls : List Nat) : Sz 16 Ls (en x) := by cases Ls <;> exact ⟨x.2, h⟩
theorem sz_row {H : Hands} (G : Good H) {r : Row} {L : Nat} {Ls : List Nat} (h1 : r.length ≤ L) (h2 : ∀ x ∈ r, x ∈ namesOf H) : Sz 16 (L :: Ls) (en r) := sz_list h1 fun x hx => sz_name x (G.len1 x (h2 x hx)) _
theorem sz_look {H : Hands} (G : Good H) {r : Row} {L : Nat} {Ls : List Nat} (h1 : r.length ≤ L) (h2 : ∀ x ∈ r, x ∈ namesOf H) : Sz 16 (8 :: L :: Ls) (en (lookTold H r)) :=
  sz_list (by have := G.n3; unfold lookTold; simp; omega) fun l hl => by
    obtain ⟨k, _, rfl⟩ := List.mem_map.mp hl
    exact sz_row G (by have := List.length_filter_le (seen H k) r; unfold lookOf; omega) fun x hx => h2 x (List.mem_filter.mp hx).1
/-- a look's rows are rows that are looks -/
theorem look_rows {H : Hands} (G : Good H) {r : Row} (h2 : ∀ x ∈ r, x ∈ namesOf H) : areRows H (lookTold H r) = true := by
  have ln : (lookTold H r).length = H.1.length := by unfold lookTold; simp
  unfold areRows
  rw [decide_eq_true ln, Bool.true_and, Bool.and_eq_true, List.all_eq_true, List.all_eq_true]
  refine ⟨fun l hl => decide_eq_true fun x hx => ?_, fun p hp => ?_⟩
  · obtain ⟨k, _, rfl⟩ := List.mem_map.mp hl
    by_cases hn : handOf H x = none
    · exact .inl ((G.pub x (h2 x (List.mem_filter.mp hx).1)).mpr hn)
    · exact .inr hn
  · obtain ⟨l, k⟩ := p
    obtain ⟨_, h1, h3⟩ := List.mem_zipIdx hp
    have hk : k < H.1.length := by rw [← ln]; simpa using h1
    have e : l = lookOf H r k := by
      have : (lookTold H r)[k]? = some (lookOf H r k) := by unfold lookTold; rw [List.getElem?_map, List.getElem?_range hk]; rfl
      rw [List.getElem?_eq_getElem (by omega)] at this
      rw [h3]; simpa using this
    refine decide_eq_true ?_
    show lookOf H l k = l
    rw [e]; unfold lookOf; rw [List.filter_filter]; congr 1; funext x; simp
/-- the row of a row's look is its told row -/
theorem r_rol_look {H : Hands} (G : Good H) {r : Row} (h1 : r.length ≤ 200) (h2 : ∀ x ∈ r, x ∈ namesOf H) : Runs S_row_of_look [en H, en (lookTold H r)] (en (some (toldRow H r))) := by
  have n2 := G.n2
  have n3 := G.n3
  have ln : (lookTold H r).length = H.1.length := by unfold lookTold; simp
  have rows := look_rows G h2
  obtain ⟨r0, rest, e⟩ : ∃ r0 rest, lookTold H r = r0 :: rest := by
    cases h : lookTold H r with
    | nil => rw [h] at ln; simp at ln; omega
    | cons a b => exact ⟨a, b, rfl⟩
  have at_ : ∀ k, k < H.1.length → ((r0 :: rest)[k]?).getD [] = lookOf H r k := fun k hk => by
    rw [← e]; unfold lookTold; rw [List.getElem?_map, List.getElem?_range hk]; rfl
  have mem_ : ∀ l ∈ r0 :: rest, ∃ k, k < H.1.length ∧ l = lookOf H r k := fun l hl => by
    rw [← e] at hl
    obtain ⟨k, hk, rfl⟩ := List.mem_map.mp hl
    exact ⟨k, List.mem_range.mp hk, rfl⟩
  have pubsL : ∀ k, pubs H (lookOf H r k) = pubs H r := fun k => by
    rw [pubs_filter, pubs_filter]
    unfold lookOf
    rw [List.filter_filter]
    refine List.filter_congr fun x _ => ?_
    by_cases hx : handOf H x = none
    · rw [seen_pub hx, decide_eq_true hx]; rfl
    · rw [decide_eq_false hx]; rfl
  have lens : ∀ l ∈ r0 :: rest, l.length ≤ 200 := fun l hl => by
    obtain ⟨k, _, rfl⟩ := mem_ l hl
    have := List.length_filter_le (seen H k) r
    unfold lookOf; omega
  have z := r_rol G.hb r0 rest (by have := congrArg List.length e; rw [ln] at this; simp at this; omega) lens (by rw [← e]; exact rows)
  have p0 : pubs H r0 = pubs H r := by obtain ⟨k, _, e2⟩ := mem_ r0 (by simp); rw [e2, pubsL]
  have hc : ∀ l ∈ rest, (stretch H l).2 = (stretch H r0).2 := fun l hl => by
    obtain ⟨k, _, e2⟩ := mem_ l (by simp [hl])
    rw [stretch_eq, stretch_eq]
    show pubs H l = pubs H r0
    rw [p0, e2, pubsL]
  rw [if_pos hc] at z
  have eM : mergeAll ((r0 :: rest).map (stretch H)) ((stretch H r0).2.length + 1) (stretch H r0).2 = mrg H.1.length (fun h => parts H (lookOf H r h)) (pubs H r) := by
    rw [stretch_eq]
    show mergeAll ((r0 :: rest).map (stretch H)) ((pubs H r0).length + 1) (pubs H r0) = _
    rw [p0]
    unfold mergeAll
    rw [← mrg_eq]
    refine flatMap_eq fun k _ => ?_
    congr 1
    have l2 : (r0 :: rest).length = H.1.length := by rw [← e]; exact ln
    rw [List.flatMap_map, flatMap_range, l2]
    exact flatMap_eq fun h hh => by rw [stretch_eq, at_ h (List.mem_range.mp hh)]
  rw [eM] at z
  obtain ⟨q1, q2, _⟩ := merge_ok (H := H) rfl (pubs H r) (fun h => lookOf H r h) (fun h _ => pubsL h) (fun h _ x hx => by
    have y := (List.mem_filter.mp hx).2
    unfold seen at y
    exact of_decide_eq_true y) G.n0
  have eT : mrg H.1.length (fun h => parts H (lookOf H r h)) (pubs H r) = toldRow H r := by
    rw [← q2]
    exact told_of_looks G.n0 _ _ _ (Nat.le_refl _) q1
  rw [eT, ← e] at z
  exact z
theorem filter_one {α : Type} {l : List α} (nd : l.Nodup) {p : α → Bool} {a : α} (ha : a ∈ l) (hp : ∀ x ∈ l, p x = true ↔ x = a) : l.filter p = [a] := by
  induction l with
  | nil => cases ha
  | cons x l ih =>
    obtain ⟨n1, n2⟩ := List.nodup_cons.mp nd
    by_cases hx : x = a
    · subst hx
      rw [List.filter_cons_of_pos ((hp x List.mem_cons_self).mpr rfl)]
      congr 1
      rw [List.filter_eq_nil_iff]
      intro y hy hpy
      have := (hp y (List.mem_cons_of_mem _ hy)).mp hpy
      subst this
      exact n1 hy
    · rw [List.filter_cons_of_neg (fun z => hx ((hp x List.mem_cons_self).mp z))]
      exact ih n2 ((List.mem_cons.mp ha).resolve_left fun z => hx z.symm) fun y hy => hp y (List.mem_cons_of_mem _ hy)
end Lw
namespace Lw
open PySem DL
open En (en dep)
local macro_rules | `(tactic| boot_fact) => `(tactic| try simp only [ev_var, List.getElem?_cons_zero, List.getElem?_cons_succ, ev_ex, ev_exI, ev_exI1, ev_exI2, ev_par, ev_par3, ev_exB, ev_exO, ev_exL, ev_some, ev_ex1, ev_exT, ev_add, ev_addL, ev_addT, ev_addTe, ev_addeT, ev_addee, ev_sub, ev_mul, ev_mulL, ev_mulT, ev_fdiv, ev_mod, ev_cmp, ev_toInt, ev_toIntB, ev_i2, ev_i1, ev_neg, ev_slV, ev_sl, ev_slL, ev_slT, seq_en, seq_lv, seq_tup, seq_lvD, lst_lv, lst_lvD, lstD_lvD, ev_tuple, ev_list, ev_lenT, ev_lenL, ev_len, ev_lenV, ev_ixT, ev_ixL, ev_fst, ev_snd, at_0, at_1, at_2, at_3, ev_ix, ev_ixV, ev_gTp, ev_gTp2, ev_gsC, ev_gsN, ev_dput, ev_disp, ev_pr0, ev_pr1, wLc_eq, sFor_eq,
  wC, wNil, wCons, wTup, wLst, qTup, wOp, wUn, wCall, wT, wNotT, wAndT, wOrT, wAndV, wOrV, wNotV, wIf, wChain, sNil, sSeq, sBrk, sCnt, sExp, sRet, sRetN, sIf, gNm, gLs, sAsg, sPar, sPar3, sAug, gSb, wIt, wRng1, wRng2, wMt, wMt0, wNo, wPart, wSl, wRev, wStar, wEnum, wZipS, wZipN, wYes, wLstR1, wTru, wIsi, List.set_cons_zero, List.set_cons_succ, wipeD, List.length_cons, List.length_nil, true_and, and_true, if_true, if_false, Bool.false_eq_true, enumD_map, Nat.zero_le, ev_qF, ev_qT, DL.envOf, List.map_cons, List.map_nil, List.cons_append, List.nil_append, List.replicate])
theorem law_A (ns : List Int) (E : EndsD) (hE : ∀ (H : Hands) (row : Row) (led : List Row) (s : Src) (v2 v6 v9 v10 v11 v12 v13 v14 v15 v16 v17 v18 v19 : Option D), Good H → row.length ≤ 6 → (∀ x ∈ row, x ∈ namesOf H) → (∀ r, r ∈ led ↔ Exch H row r) → led.length ≤ 46656 →
      R_law_14 E [some (scrD ns), some (.ob 1), v2, some (en H), some (en (namesOf H)), some (en row), v6, some (.lv (led.map en)), some (en (lookTold H row)), v9, v10, v11, v12, v13, v14, v15, v16, v17, v18, v19] (hs s [])) :
    ∀ (o : List (Option D)) (s : Src), o.length = 18 → (sSeq T_law_5 R_law_6) E ([some (scrD ns), some (.ob 1)] ++ o) (hs s []) := by
  intro o s ho
  obtain ⟨v2, v3, v4, v5, v6, v7, v8, v9, v10, v11, v12, v13, v14, v15, v16, v17, v18, v19, rfl⟩ : ∃ v2 v3 v4 v5 v6 v7 v8 v9 v10 v11 v12 v13 v14 v15 v16 v17 v18 v19, o = [v2, v3, v4, v5, v6, v7, v8, v9, v10, v11, v12, v13, v14, v15, v16, v17, v18, v19] := by
    match o, ho with
    | [v2, v3, v4, v5, v6, v7, v8, v9, v10, v11, v12, v13, v14, v15, v16, v17, v18, v19], _ => exact ⟨_, _, _, _, _, _, _, _, _, _, _, _, _, _, _, _, _, _, rfl⟩
  unfold T_law_5 R_law_6 T_law_6 R_law_7 T_law_7
  boot_fact
  refine r_hands s [] _ fun H s1 hH => ?_
  have G := good_all H hH
  have hb := G.hb
  have n2 := G.n2
  have n3 := G.n3
  have n4 := G.n4
  boot_fact
  refine r_names (by omega) _ _ ?_
  refine r_pick 7 (by decide) s1 _ _ fun k s2 k0 k1 => ?_
  obtain ⟨k, rfl⟩ := Int.eq_ofNat_of_zero_le k0
  have hk : k ≤ 6 := by omega
  refine ⟨_, rfl, by show -2 ^ 62 ≤ (k : Int); omega, by show (k : Int) < 2 ^ 62; omega, ?_⟩
  show lcB (fun x => some (rngL 0 ((k : Int)).toNat)) _ _ _ _ _ _ _
  rw [rng0]
  refine lcB_ind _ (fun i acc h => ∃ (row : Row) (s' : Src), acc = row.map en ∧ row.length = i ∧ (∀ x ∈ row, x ∈ namesOf H) ∧ h = hs s' []) (by rw [List.length_map, List.length_range]; exact szl (by omega)) ⟨[], s2, rfl, rfl, by simp, rfl⟩ (fun _ _ _ _ => rfl) ?_ ?_
  · rintro i acc h d hd ⟨row, s', rfl, rfl, hx, rfl⟩ K1 K0 k1' k0'
    boot_fact
    refine r_of (by decide) (namesOf H) G.nn (by omega) _ (.inl rfl) s' [] _ fun x s2 hx2 => ?_
    exact k1' _ _ ⟨row ++ [x], s2, by rw [List.map_append]; rfl, by simp, fun y hy => (List.mem_append.mp hy).elim (hx y) (fun z => by rw [List.mem_singleton.mp z]; exact hx2), rfl⟩
  rintro acc h ⟨row, s3, rfl, hl, hr2, rfl⟩
  rw [List.length_map, List.length_range] at hl
  have hr1 : row.length ≤ 6 := by omega
  boot_fact
  unfold R_law_8 T_law_8 R_law_9 T_law_9 R_law_10 T_law_10
  boot_fact
  have er : D.tup (List.map en row) = en row := rfl
  rw [er]
  refine r_led hb row hr1 _ _ fun led nd hled ll => ?_
  refine r_lookW hb (by omega) row (by omega) _ _ ?_
  rw [lookW_eq G hr2]
  refine ⟨by decide, ⟨_, rfl⟩, ?_⟩
  have inRow : ∀ r ∈ led, r.length = row.length ∧ ∀ x ∈ r, x ∈ namesOf H := fun r hr => by
    have e := (hled r).mp hr
    exact ⟨e.len, fun x hx => hr2 x (exch_mem e x hx)⟩
  refine lcB_pure led en (isPut H) en rfl (szl (by omega)) (fun r hr K1 K0 kk => ?_) ?_
  · boot_fact
    refine r_is_put hb r (by have := (inRow r hr).1; omega) _ _ ⟨_, rfl, kk⟩
  obtain ⟨t1, t2, t3⟩ := exch_told G.n0 (fun x k h => handOf_lt h) row
  have eDue : led.filter (isPut H) = [toldRow H row] := filter_one nd ((hled _).mpr t1) fun r hr => ⟨fun h => t3 r ((hled r).mp hr) h, fun h => by rw [h]; exact t2⟩
  rw [eDue]
  boot_fact
  refine i_eq (α := Nat) (a := 1) (b := 1) (by decide) ⟨_, rfl, ?_⟩
  rw [if_neg (by simp)]
  have szNames : Sz 16 [64] (en (namesOf H)) := sz_row G (by omega) fun x hx => hx
  refine r_names_of (by omega) _ _ (i_repr 16 [64] szNames (by decide) (by decide) (i_repr 16 [64] szNames (by decide) (by decide) (i_eqS ⟨_, rfl, ?_⟩)))
  rw [if_neg (by simp)]
  unfold R_law_11 T_law_11 R_law_12 T_law_12
  boot_fact
  refine r_look_told hb row (by omega) _ _ (r_told_row hb row (by omega) _ _ (r_rol_look G (by omega) hr2 _ _ ?_))
  have tm := told_mem (H := H) G.n0 _ row (Nat.le_refl _)
  have tl : (toldRow H row).length ≤ 16 := by rw [t1.len]; omega
  have tn : ∀ x ∈ toldRow H row, x ∈ namesOf H := fun x hx => hr2 x (exch_mem t1 x hx)
  have szL : ∀ l : List D, l = [en (lookTold H row), en (toldRow H row), en (toldRow H row)] → Sz 16 [8, 16, 16] (D.lv l) := by
    rintro l rfl
    refine ⟨by show 3 ≤ 8; decide, fun d hd => ?_⟩
    simp only [List.mem_cons, List.not_mem_nil, or_false] at hd
    rcases hd with rfl | rfl | rfl
    · exact sz_list (by have := G.n3; unfold lookTold; simp; omega) fun l hl => by
        obtain ⟨k, _, rfl⟩ := List.mem_map.mp hl
        exact sz_row G (by have := List.length_filter_le (seen H k) row; unfold lookOf; omega) fun x hx => hr2 x (List.mem_filter.mp hx).1
    · exact sz_row G tl tn
    · exact sz_row G tl tn
  refine ⟨by decide, ?_⟩
  refine i_reprD 16 [8, 16, 16] (szL _ rfl) (by decide) (by decide) ⟨by decide, i_reprD 16 [8, 16, 16] (szL _ rfl) (by decide) (by decide) (i_eqS ⟨_, rfl, ?_⟩)⟩
  rw [if_neg (by
    have e : D.lv [en (lookTold H row), en (toldRow H row), en (some (toldRow H row))] = D.lv [en (lookTold H row), en (toldRow H row), en (toldRow H row)] := rfl
    rw [e]; simp)]
  unfold R_law_13 T_law_13
  boot_fact
  refine ⟨by decide, by decide, ?_⟩
  refine lcB_ind _ (fun i acc h => ∃ (ones : List Row) (s' : Src), acc = ones.map en ∧ (∀ r ∈ ones, Exch H row r) ∧ h = hs s' []) (by show 4 ≤ sizeLine; decide) ⟨[], s3, rfl, by simp, rfl⟩ (fun _ _ _ _ => rfl) ?_ ?_
  · rintro i acc h d hd ⟨ones, s', rfl, hx, rfl⟩ K1 K0 k1' k0'
    boot_fact
    refine r_of (by decide) led (List.length_pos_of_mem ((hled row).mpr .refl)) (by omega) _ (.inr rfl) s' [] _ fun x s2 hx2 => ?_
    exact k1' _ _ ⟨ones ++ [x], s2, by rw [List.map_append]; rfl, fun y hy => (List.mem_append.mp hy).elim (hx y) (fun z => by rw [List.mem_singleton.mp z]; exact (hled x).mp hx2), rfl⟩
  rintro acc h ⟨ones, s4, rfl, hx, rfl⟩
  refine forB_ind (ones.map en) (fun i env h => ∃ v10, env = [some (scrD ns), some (D.ob 1), v2, some (en H), some (en (namesOf H)), some (en row), v6, some (D.lv (List.map en led)), some (en (lookTold H row)), some (D.lv [en (toldRow H row)]), v10,
      some (D.lv [en (lookTold H row), en (toldRow H row), en (some (toldRow H row))]), v12, v13, v14, v15, v16, v17, v18, v19] ∧ h = hs s4 []) ⟨_, rfl, rfl⟩ (fun _ _ _ _ => rfl) ?_ ?_
  · rintro i env h d hd ⟨v10, rfl, rfl⟩ N kk
    rw [List.getElem?_map] at hd
    obtain ⟨one, ho1, rfl⟩ := Option.map_eq_some_iff.mp hd
    have eo := hx one (List.mem_of_getElem? ho1)
    have lo := eo.len
    have no : ∀ x ∈ one, x ∈ namesOf H := fun x hx => hr2 x (exch_mem eo x hx)
    have el := exch_looks eo
    have et : toldRow H one = toldRow H row := (told_iff G.n0 one row).mpr el
    unfold T_law_1 T_law_2
    boot_fact
    have zt := r_told_row hb one (by omega)
    rw [et] at zt
    have zl := r_look_told hb one (by omega)
    rw [el] at zl
    refine zt _ _ (zl _ _ ⟨by decide, ?_⟩)
    have sz2 : Sz 16 [8, 16, 16] (D.lv [en (toldRow H row), en (lookTold H row)]) := by
      have z := szL _ rfl
      refine ⟨by show 2 ≤ 8; decide, fun d hd => z.2 d ?_⟩
      revert hd; simp; rintro (rfl | rfl) <;> simp
    refine i_reprD 16 [8, 16, 16] sz2 (by decide) (by decide) ⟨by decide, i_reprD 16 [8, 16, 16] sz2 (by decide) (by decide) (i_eqS ⟨_, rfl, ?_⟩)⟩
    rw [if_neg (by simp)]
    refine r_are_alike hb row one (by omega) (by omega) _ _ ⟨true, by rw [decide_eq_true el.symm], _, rfl, ?_⟩
    rw [if_neg (by simp)]
    have w := r_is_row hb one (by omega)
    have f : isRow H one = true := by
      unfold isRow
      refine decide_eq_true fun x hx => ?_
      by_cases hn : handOf H x = none
      · exact .inl ((G.pub x (no x hx)).mpr hn)
      · exact .inr hn
    rw [f] at w
    refine w _ _ ⟨true, rfl, _, rfl, ?_⟩
    rw [if_neg (by simp)]
    exact kk _ _ ⟨_, rfl, rfl⟩
  · rintro env h ⟨v10, rfl, rfl⟩
    exact hE H row led s4 _ _ _ _ _ _ _ _ _ _ _ _ _ G hr1 hr2 hled ll
theorem law_B (ns : List Int) (E : EndsD) (H : Hands) (row : Row) (led : List Row) (G : Good H) (hr1 : row.length ≤ 6) (hr2 : ∀ x ∈ row, x ∈ namesOf H) (hled : ∀ r, r ∈ led ↔ Exch H row r) (ll : led.length ≤ 46656)
    (hE : ∀ (s : Src) (v2 v6 v7 v9 v10 v11 v12 v13 v14 v15 v16 v17 v18 v19 : Option D), R_law_17 E [some (scrD ns), some (.ob 1), v2, some (en H), some (en (namesOf H)), some (en row), v6, v7, some (en (lookTold H row)), v9, v10, v11, v12, v13, v14, v15, v16, v17, v18, v19] (hs s [])) :
    ∀ (s : Src) (v2 v6 v9 v10 v11 v12 v13 v14 v15 v16 v17 v18 v19 : Option D), R_law_14 E [some (scrD ns), some (.ob 1), v2, some (en H), some (en (namesOf H)), some (en row), v6, some (.lv (led.map en)), some (en (lookTold H row)), v9, v10, v11, v12, v13, v14, v15, v16, v17, v18, v19] (hs s []) := by
  intro s v2 v6 v9 v10 v11 v12 v13 v14 v15 v16 v17 v18 v19
  have hb := G.hb
  have n4 := G.n4
  unfold R_law_14 T_law_14 R_law_15 T_law_15
  boot_fact
  refine lcB_map row en en rfl (szl (by omega)) (fun x hx K1 q => ?_) ?_
  · boot_fact
    exact q
  refine r_pick 2 (by decide) s [] _ fun k s2 k0 k1 => ?_
  obtain ⟨k, rfl⟩ := Int.eq_ofNat_of_zero_le k0
  boot_fact
  refine ⟨by omega, by omega, ?_⟩
  have e2 : (1 : Int) + (k : Int) = ((1 + k : Nat) : Int) := by omega
  rw [e2, rng0]
  refine forB_ind _ (fun i env h => ∃ (other : Row) (s' : Src) (v6 v12 : Option D), env = [some (scrD ns), some (D.ob 1), v2, some (en H), some (en (namesOf H)), some (en row), v6, some (D.lv (List.map en led)), some (en (lookTold H row)), v9, v10, v11, v12, some (D.lv (List.map en other)), v14, v15, v16, v17, v18, v19] ∧
      h = hs s' [] ∧ other.length ≤ 6 ∧ ∀ x ∈ other, x ∈ namesOf H) ⟨row, s2, v6, v12, rfl, rfl, hr1, hr2⟩ (fun _ _ _ _ => rfl) ?_ ?_
  · rintro i env h d hd ⟨other, s3, v6, v12, rfl, rfl, ho1, ho2⟩ N kk
    unfold T_law_3 T_law_4
    boot_fact
    have em : (if ((List.map (en : OkS → D) other).length : Int) > 1 then ((List.map (en : OkS → D) other).length : Int) else 1) = ((max 1 other.length : Nat) : Int) := by
      rw [List.length_map]; split <;> omega
    rw [em]
    refine r_pick _ (by omega) s3 [] _ fun j s4 j0 j1 => ?_
    obtain ⟨j, rfl⟩ := Int.eq_ofNat_of_zero_le j0
    have hj : j < max 1 other.length := by omega
    boot_fact
    have c1 : cutD (other.map en) none (some (j : Int)) = (other.take j).map (en : OkS → D) := by rw [cut_take, List.map_take]
    have c2 : cutD (other.map en) (some ((j : Int) + 1)) none = (other.drop (j + 1)).map (en : OkS → D) := by
      rw [show ((j : Int) + 1) = ((j + 1 : Nat) : Int) by omega, cut_drop, List.map_drop]
    have c3 : cutD (other.map en) (some (j : Int)) (some ((j : Int) + 1)) = ((other.drop j).take 1).map (en : OkS → D) := by
      rw [show ((j : Int) + 1) = ((j + 1 : Nat) : Int) by omega, cut_nat, show j + 1 - j = 1 by omega, List.map_take, List.map_drop]
    show ((cutD (other.map en) none (some (j : Int))).length + (cutD (other.map en) (some ((j : Int) + 1)) none).length ≤ sizeLine ∧ _)
    rw [c1, c2, c3]
    refine ⟨by simp only [List.length_map, List.length_take, List.length_drop]; exact szl (by omega), ?_⟩
    refine r_of (by decide) (namesOf H) G.nn (by omega) _ (.inl rfl) s4 [] _ fun x s5 hx => ?_
    boot_fact
    have hlen1 : ((other.drop j).take 1).length ≤ 1 := by rw [List.length_take]; omega
    refine ⟨by decide, by simp only [List.length_map]; exact szl (by omega), ?_⟩
    have e3 : D.lv (((other.drop j).take 1).map en ++ [en x]) = D.lv (((other.drop j).take 1 ++ [x]).map en) := by rw [List.map_append]; rfl
    rw [e3]
    refine r_of (by decide) ((other.drop j).take 1 ++ [x]) (by simp) (by simp; omega) _ (.inr rfl) s5 [] _ fun y s6 hy => ?_
    have yn : y ∈ namesOf H := by
      rcases List.mem_append.mp hy with hy | hy
      · exact ho2 y (List.mem_of_mem_drop (List.mem_of_mem_take hy))
      · rw [List.mem_singleton.mp hy]; exact hx
    refine ⟨by decide, ?_⟩
    boot_fact
    refine ⟨by simp only [List.length_map, List.length_append, List.length_take, List.length_drop]; exact szl (by omega), ?_⟩
    refine kk _ _ ⟨other.take j ++ other.drop (j + 1) ++ [y], s6, some (.int (j : Int)), some d, ?_, rfl, ?_, fun z hz => ?_⟩
    · have e4 : ((other.take j).map (en : OkS → D) ++ (other.drop (j + 1)).map en ++ [en y]) = (other.take j ++ other.drop (j + 1) ++ [y]).map en := by simp
      rw [e4]
    · simp only [List.length_append, List.length_take, List.length_drop, List.length_cons, List.length_nil]; omega
    · rcases List.mem_append.mp hz with hz | hz
      · rcases List.mem_append.mp hz with hz | hz
        · exact ho2 z (List.mem_of_mem_take hz)
        · exact ho2 z (List.mem_of_mem_drop hz)
      · rw [List.mem_singleton.mp hz]; exact yn
  · rintro env h ⟨other, s3, v6, v12, rfl, rfl, ho1, ho2⟩
    unfold R_law_16 T_law_16
    boot_fact
    have eo : D.tup (List.map en other) = en other := rfl
    rw [eo]
    refine r_are_alike hb row other (by omega) (by omega) _ _ (i_reprD 16 [] sz_bl (by decide) (by decide) (i_inVd (by decide) ?_))
    have ei : ∀ i1 : Decidable (other ∈ led), @decide (other ∈ led) i1 = decide (lookTold H row = lookTold H other) := fun i1 => by rw [decide_eq_decide, hled]; exact exch_iff G.n0 (fun x k h => handOf_lt h) row other
    simp only [Bool.false_eq_true, if_false]
    rw [ei]
    refine i_reprD 16 [] sz_bl (by decide) (by decide) (i_eqS ⟨_, rfl, ?_⟩)
    rw [if_neg (by simp)]
    exact hE s3 _ _ _ _ _ _ _ _ _ _ _ _ _ _
theorem law_C (ns : List Int) (E : EndsD) (H : Hands) (row : Row) (G : Good H) (hr1 : row.length ≤ 6) (hr2 : ∀ x ∈ row, x ∈ namesOf H)
    (hE : ∀ (s : Src) (v2 v6 v7 v9 v10 v11 v12 v13 v14 v15 v16 v17 v18 v19 : Option D), R_law_23 E [some (scrD ns), some (.ob 1), v2, some (en H), some (en (namesOf H)), some (en row), v6, v7, some (en (lookTold H row)), v9, v10, v11, v12, v13, v14, v15, v16, v17, v18, v19] (hs s [])) :
    ∀ (s : Src) (v2 v6 v7 v9 v10 v11 v12 v13 v14 v15 v16 v17 v18 v19 : Option D), R_law_17 E [some (scrD ns), some (.ob 1), v2, some (en H), some (en (namesOf H)), some (en row), v6, v7, some (en (lookTold H row)), v9, v10, v11, v12, v13, v14, v15, v16, v17, v18, v19] (hs s []) := by
  intro s v2 v6 v7 v9 v10 v11 v12 v13 v14 v15 v16 v17 v18 v19
  have hb := G.hb
  have n2 := G.n2
  have n3 := G.n3
  have n4 := G.n4
  unfold R_law_17 T_law_17
  boot_fact
  refine r_pick _ (by omega) s [] _ fun k s2 k0 k1 => ?_
  obtain ⟨k, rfl⟩ := Int.eq_ofNat_of_zero_le k0
  have hk : k < H.1.length := by omega
  refine r_of (by decide) (namesOf H) G.nn (by omega) _ (.inl rfl) s2 [] _ fun name s3 hn => ?_
  boot_fact
  unfold R_law_18 T_law_18 R_law_19 T_law_19
  boot_fact
  show S_look_of [en H, en row, .int (k : Int)] _ _
  refine r_look_of hb row (by omega) k _ _ (r_hand_of hb name _ _ ?_)
  boot_fact
  show S_is_seen [en H, en name, .int (k : Int)] _ _
  refine r_is_seen hb name k _ _ ?_
  boot_fact
  have own_at : L2.atI (List.map en H.1) (k : Int) = some (en H.1[k]) := by rw [at_nat, List.getElem?_map, List.getElem?_eq_getElem hk]; rfl
  have look_at : L2.atI (List.map en (lookTold H row)) (k : Int) = some (en (lookOf H row k)) := by
    rw [at_nat, List.getElem?_map]; unfold lookTold; rw [List.getElem?_map, List.getElem?_range hk]; rfl
  have own_get : (H.1[k]?).getD [] = H.1[k] := by rw [List.getElem?_eq_getElem hk]; rfl
  have names_len : H.1[k].length + H.2.length ≤ 8 := by
    have : (namesOf H).length = H.1.flatten.length + H.2.length := by unfold namesOf; rw [List.length_append]
    have h2 : H.1[k].length ≤ H.1.flatten.length := by
      have e := flat_take (xs := H.1) (i := k) (y := H.1[k]) (List.getElem?_eq_getElem hk)
      have l := flat_le (xs := H.1) (i := k + 1)
      rw [e, List.length_append] at l; omega
    omega
  have lkn : ∀ x ∈ lookOf H row k, x ∈ namesOf H := fun x hx => hr2 x (List.mem_filter.mp hx).1
  have lkl : (lookOf H row k).length ≤ 6 := by have := List.length_filter_le (seen H k) row; unfold lookOf; omega
  have sz3 : Sz 16 [8, 16] (D.lv [en (lookOf H row k), en (handOf H name), D.bl (seen H k name)]) := by
    refine ⟨by show 3 ≤ 8; decide, fun d hd => ?_⟩
    simp only [List.mem_cons, List.not_mem_nil, or_false] at hd
    rcases hd with rfl | rfl | rfl
    · exact sz_row G (by omega) lkn
    · exact sz_opt fun j hj => by have := handOf_lt hj; omega
    · exact sz_bl
  refine ⟨by decide, i_reprD 16 [8, 16] sz3 (by decide) (by decide) ⟨_, look_at, r_owner hb name _ _ ⟨_, own_at, ?_⟩⟩⟩
  boot_fact
  refine ⟨by rw [List.length_map, List.length_map]; exact szl (by omega), ?_⟩
  have e5 : D.tup (List.map en H.1[k] ++ List.map en H.2) = en (H.1[k] ++ H.2) := by show _ = D.tup (List.map en (H.1[k] ++ H.2)); rw [List.map_append]
  rw [e5]
  refine i_in ?_
  have es : ∀ i1 : Decidable (name ∈ H.1[k] ++ H.2), @decide (name ∈ H.1[k] ++ H.2) i1 = seen H k name := fun i1 => by
    rw [seen_iff G hn hk, own_get, decide_eq_decide]
  simp only [Bool.false_eq_true, if_false]
  rw [es]
  refine ⟨by decide, i_reprD 16 [8, 16] sz3 (by decide) (by decide) (i_eqS ⟨_, rfl, ?_⟩)⟩
  rw [if_neg (by simp)]
  unfold R_law_20 T_law_20 R_law_21 T_law_21
  boot_fact
  have ln : (lookTold H row).length = H.1.length := by unfold lookTold; simp
  refine ⟨_, look_at, by decide, ?_⟩
  show rAdd false (en (lookOf H row k)) (D.tup [en name]) _ _
  boot_fact
  have c1 : cutD ((lookTold H row).map en) none (some (k : Int)) = ((lookTold H row).take k).map (en : Row → D) := by rw [cut_take, List.map_take]
  have c2 : cutD ((lookTold H row).map en) (some ((k : Int) + 1)) none = ((lookTold H row).drop (k + 1)).map (en : Row → D) := by
    rw [show ((k : Int) + 1) = ((k + 1 : Nat) : Int) by omega, cut_drop, List.map_drop]
  have eLate : D.tup (cutD ((lookTold H row).map en) none (some (k : Int)) ++ [D.tup ((lookOf H row k).map en ++ [en name])] ++ cutD ((lookTold H row).map en) (some ((k : Int) + 1)) none) = en ((lookTold H row).take k ++ (lookOf H row k ++ [name]) :: (lookTold H row).drop (k + 1)) := by
    rw [c1, c2]
    show _ = D.tup (((lookTold H row).take k ++ (lookOf H row k ++ [name]) :: (lookTold H row).drop (k + 1)).map en)
    have e6 : D.tup ((lookOf H row k).map en ++ [en name]) = en (lookOf H row k ++ [name]) := by show _ = D.tup ((lookOf H row k ++ [name]).map en); rw [List.map_append]; rfl
    rw [e6]; simp
  rw [eLate]
  refine ⟨by rw [List.length_map]; exact szl (by omega), by decide, by rw [c1]; simp only [List.length_map, List.length_take]; exact szl (by omega), by rw [c1, c2]; simp only [List.length_map, List.length_take, List.length_drop, List.length_append, List.length_cons, List.length_nil]; exact szl (by omega), ?_⟩
  refine ⟨_, own_at, i_in ⟨_, rfl, ?_⟩⟩
  simp only [Bool.false_eq_true, if_false]
  have owk := G.own name hn k hk
  rw [own_get] at owk
  have lateAt : ∀ j, j < H.1.length → ((lookTold H row).take k ++ (lookOf H row k ++ [name]) :: (lookTold H row).drop (k + 1))[j]? = some (if j = k then lookOf H row k ++ [name] else lookOf H row j) := by
    intro j hj
    have lt : ((lookTold H row).take k).length = k := by rw [List.length_take, ln]; omega
    have lj : (lookTold H row)[j]? = some (lookOf H row j) := by unfold lookTold; rw [List.getElem?_map, List.getElem?_range hj]; rfl
    by_cases h1 : j < k
    · rw [List.getElem?_append_left (by omega), List.getElem?_take_of_lt h1, lj, if_neg (by omega)]
    · rw [List.getElem?_append_right (by omega), lt]
      by_cases h2 : j = k
      · subst h2; rw [Nat.sub_self, if_pos rfl]; rfl
      · obtain ⟨d, rfl⟩ : ∃ d, j = k + 1 + d := ⟨j - (k + 1), by omega⟩
        rw [show k + 1 + d - k = d + 1 by omega, List.getElem?_cons_succ, List.getElem?_drop, lj, if_neg h2]
  have lateLen : ((lookTold H row).take k ++ (lookOf H row k ++ [name]) :: (lookTold H row).drop (k + 1)).length = H.1.length := by
    rw [List.length_append, List.length_cons, List.length_take, List.length_drop, ln]; omega
  revert lateAt lateLen
  generalize ((lookTold H row).take k ++ (lookOf H row k ++ [name]) :: (lookTold H row).drop (k + 1)) = late
  intro lateAt lateLen
  have lateLook : ∀ j, j < H.1.length → late[j]? = some (if j = k then lookOf H row k ++ [name] else lookOf H row j) := lateAt
  have lookSnoc : ∀ j, lookOf H (row ++ [name]) j = lookOf H row j ++ (if seen H j name = true then [name] else []) := fun j => by
    unfold lookOf
    rw [List.filter_append]
    congr 1
    by_cases h : seen H j name = true
    · rw [if_pos h, List.filter_cons_of_pos h]; rfl
    · rw [if_neg h, List.filter_cons_of_neg h]; rfl
  have rn2 : ∀ x ∈ row ++ [name], x ∈ namesOf H := fun x hx => (List.mem_append.mp hx).elim (hr2 x) fun z => by rw [List.mem_singleton.mp z]; exact hn
  unfold R_law_22 T_law_22
  by_cases ho : name ∈ H.1[k]
  · rw [if_pos (decide_eq_true ho)]
    have hk1 := owk.mp ho
    have e : late = lookTold H (row ++ [name]) := by
      refine List.ext_getElem? fun j => ?_
      by_cases hj : j < H.1.length
      · rw [lateLook j hj]
        unfold lookTold
        rw [List.getElem?_map, List.getElem?_range hj]
        show _ = some (lookOf H (row ++ [name]) j)
        rw [lookSnoc j, seen_own (by rw [hk1]; simp), hk1]
        by_cases h : j = k
        · subst h; simp
        · rw [if_neg h, if_neg (by simp; exact fun z => h z.symm)]; simp
      · rw [List.getElem?_eq_none (by omega), List.getElem?_eq_none (by unfold lookTold; simp; omega)]
    rw [e]
    boot_fact
    refine r_rol_look G (by rw [List.length_append]; simp; omega) rn2 _ _ (i_isN ?_)
    refine i_eq (α := Bool) (a := false) (b := true) (by decide) ⟨_, rfl, ?_⟩
    rw [if_neg (by simp)]
    exact hE s3 _ _ _ _ _ _ _ _ _ _ _ _ _ _
  · rw [if_neg (by simpa using ho)]
    have hnk : handOf H name ≠ some k := fun z => ho (owk.mpr z)
    have lateMem : ∀ l ∈ late, l.length ≤ 7 := fun l hl => by
      obtain ⟨j, hj, e⟩ := List.getElem_of_mem hl
      have z := lateLook j (by omega)
      rw [List.getElem?_eq_getElem hj, e] at z
      have y := Option.some.inj z
      rw [y]
      by_cases h : j = k
      · rw [if_pos h, List.length_append]; simp; omega
      · rw [if_neg h]; have := List.length_filter_le (seen H j) row; unfold lookOf; omega
    have isNone : Runs S_row_of_look [en H, en late] (.non) := by
      have w := r_are_rows hb late (by omega) (fun l hl => by have := lateMem l hl; omega)
      cases ha : areRows H late with
      | false => rw [ha] at w; exact r_rol_no w
      | true =>
        have hnone : handOf H name = none := by
          unfold areRows at ha
          rw [Bool.and_eq_true, Bool.and_eq_true, List.all_eq_true, List.all_eq_true] at ha
          have z := lateLook k hk
          rw [if_pos rfl] at z
          have lk : k < late.length := by omega
          have hz : (late[k], k) ∈ late.zipIdx := by
            rw [List.mem_zipIdx_iff_getElem?]
            exact List.getElem?_eq_getElem lk
          have y := of_decide_eq_true (ha.2.2 _ hz)
          rw [List.getElem?_eq_getElem lk] at z
          have z := Option.some.inj z
          rw [z] at y
          have mem : name ∈ lookOf H (lookOf H row k ++ [name]) k := by rw [y]; simp
          have sn := (List.mem_filter.mp mem).2
          unfold seen at sn
          rcases of_decide_eq_true sn with q | q
          · exact q
          · exact absurd q hnk
        obtain ⟨r0, rest, e⟩ : ∃ r0 rest, late = r0 :: rest := by
          cases h : late with
          | nil => rw [h] at lateLen; simp at lateLen; omega
          | cons a b => exact ⟨a, b, rfl⟩
        have pubsL : ∀ j, pubs H (lookOf H row j) = pubs H row := fun j => by
          rw [pubs_filter, pubs_filter]
          unfold lookOf
          rw [List.filter_filter]
          refine List.filter_congr fun x _ => ?_
          by_cases hx : handOf H x = none
          · rw [seen_pub hx, decide_eq_true hx]; rfl
          · rw [decide_eq_false hx]; rfl
        have pubsK : pubs H (lookOf H row k ++ [name]) = pubs H row ++ [name] := by
          rw [pubs_filter, List.filter_append, ← pubs_filter, pubsL, List.filter_cons_of_pos (by simp [hnone])]; rfl
        have z := r_rol hb r0 rest (by rw [e] at lateLen; simp at lateLen; omega) (fun l hl => by have := lateMem l (by rw [e]; exact hl); omega) (by rw [← e]; exact ha)
        have hc : ¬ ∀ l ∈ rest, (stretch H l).2 = (stretch H r0).2 := fun hc => by
          have all : ∀ j, j < H.1.length → ∀ l, late[j]? = some l → pubs H l = pubs H r0 := fun j hj l hl => by
            have m : l ∈ late := List.mem_of_getElem? hl
            rw [e] at m
            rcases List.mem_cons.mp m with rfl | m
            · rfl
            · have := hc l m
              rw [stretch_eq, stretch_eq] at this
              exact this
          have a1 := all k hk _ (by rw [lateLook k hk, if_pos rfl])
          obtain ⟨j, hj, hjk⟩ : ∃ j, j < H.1.length ∧ j ≠ k := by
            by_cases h : k = 0
            · exact ⟨1, by omega, by omega⟩
            · exact ⟨0, by omega, fun z => h z.symm⟩
          have a2 := all j hj _ (by rw [lateLook j hj, if_neg hjk])
          rw [pubsK] at a1
          rw [pubsL] at a2
          have := congrArg List.length (a1.trans a2.symm)
          simp at this
        rw [if_neg hc, ← e] at z
        exact z
    have fin1 : ∀ b : Bool, b = false → R_law_22 E [some (scrD ns), some (D.ob 1), v2, some (en H), some (en (namesOf H)), some (en row), v6, v7, some (en (lookTold H row)), v9, v10, some (D.lv [en (lookOf H row k), en (handOf H name), D.bl (seen H k name)]), v12, v13, some (en name), some (D.int (k : Int)), some (en late), some (D.bl b), v18, v19] (hs s3 []) := by
      rintro b rfl
      unfold R_law_22 T_law_22
      boot_fact
      refine isNone _ _ ?_
      show isD false (en (none : Option Row)) .non _ _
      refine i_isN ?_
      refine i_eq (α := Bool) (a := true) (b := false) (by decide) ⟨_, rfl, ?_⟩
      rw [if_neg (by simp)]
      exact hE s3 _ _ _ _ _ _ _ _ _ _ _ _ _ _
    refine i_in ⟨_, rfl, ?_⟩
    simp only [Bool.false_eq_true, if_false]
    by_cases hp : name ∈ H.2
    · rw [if_pos (decide_eq_true hp)]
      rw [ln]
      refine i_eq (α := Nat) (a := H.1.length) (b := 1) (by decide) ?_
      simp only [Bool.false_eq_true, if_false]
      exact fin1 _ (decide_eq_false (by omega))
    · rw [if_neg (by simpa using hp)]
      exact fin1 false rfl
theorem r_are_rows_gen {H : Hands} (ds : List D) (f : D → Bool) (hl : ds.length = H.1.length) (h64 : H.1.length ≤ 64) (hf : ∀ d ∈ ds, Runs S_is_row [en H, d] (.bl (f d))) (ha : ds.all f = false) : Runs S_are_rows [en H, .tup ds] (.bl false) := by
  intro h Q q
  refine ⟨rfl, ?_⟩
  unfold B_are_rows T_are_rows_1
  boot_fact
  refine ⟨_, _, rfl, kTT, _, rfl, ?_⟩
  simp only [Bool.not_true, Bool.false_eq_true, if_false]
  refine i_eq (α := Nat) (a := ds.length) (b := H.1.length) (by decide) ?_
  refine ⟨_, rfl, ?_⟩
  rw [if_neg (by simp [hl])]
  refine lcB_map ds id (fun d => .bl (f d)) (by rw [List.map_id]) (szl (by omega)) (fun d hm K1 kk => ?_) ?_
  · boot_fact
    exact hf d hm _ _ kk
  · boot_fact
    refine i_all (bs := ds.map f) (by rw [List.map_map]; rfl) ?_
    refine ⟨_, rfl, ?_⟩
    rw [List.all_map, if_pos (by show (!ds.all f) = true; rw [ha]; rfl)]
    exact fin_gd0 trivial q
theorem cut_last (xs : List D) (h : xs ≠ []) : cutD xs none (some (-1)) = xs.take (xs.length - 1) := by
  unfold cutD
  rw [HT.sIx_none, List.drop_zero, Nat.sub_zero]
  congr 1
  show (if (-1 : Int) < 0 then ((-1 : Int) + (xs.length : Int)).toNat else min (-1 : Int).toNat xs.length) = _
  have : 0 < xs.length := List.length_pos_iff.mpr h
  rw [if_pos (by decide)]; omega
theorem law_D (ns : List Int) (E : EndsD) (H : Hands) (row : Row) (G : Good H) (hr1 : row.length ≤ 6) (hr2 : ∀ x ∈ row, x ∈ namesOf H)
    (hE : ∀ (o : List (Option D)) (s : Src), o.length = 18 → E.nx ([some (scrD ns), some (.ob 1)] ++ o) (hs s [])) :
    ∀ (s : Src) (v2 v6 v7 v9 v10 v11 v12 v13 v14 v15 v16 v17 v18 v19 : Option D), R_law_23 E [some (scrD ns), some (.ob 1), v2, some (en H), some (en (namesOf H)), some (en row), v6, v7, some (en (lookTold H row)), v9, v10, v11, v12, v13, v14, v15, v16, v17, v18, v19] (hs s []) := by
  intro s v2 v6 v7 v9 v10 v11 v12 v13 v14 v15 v16 v17 v18 v19
  have hb := G.hb
  have n2 := G.n2
  have n3 := G.n3
  unfold R_law_23 T_law_23 R_law_24 T_law_24 R_law_25 T_law_25 T_law_26
  boot_fact
  have ln : (lookTold H row).length = H.1.length := by unfold lookTold; simp
  refine ⟨by decide, by rw [List.length_map]; exact szl (by omega), ?_⟩
  refine lcB_map (lookTold H row) en (fun r => .lv (r.map en)) rfl (szl (by omega)) (fun r hr K1 q => ?_) ?_
  · boot_fact
    exact q
  have lookRows : ∀ r ∈ lookTold H row, r.length ≤ 1000 := fun r hr => by
    unfold lookTold at hr
    obtain ⟨k, _, rfl⟩ := List.mem_map.mp hr
    have := List.length_filter_le (seen H k) row
    unfold lookOf; omega
  have rol : ∀ d ∈ [D.tup (cutD (List.map en (lookTold H row)) none (some (-1))), D.lv (List.map en (lookTold H row)), D.non, D.tup (List.map en (lookTold H row) ++ [D.tup []]), D.tup ((lookTold H row).map fun r => D.lv (r.map en))], Runs S_row_of_look [en H, d] .non := by
    intro d hd
    simp only [List.mem_cons, List.not_mem_nil, or_false] at hd
    rcases hd with rfl | rfl | rfl | rfl | rfl
    · have e : D.tup (cutD (List.map en (lookTold H row)) none (some (-1))) = en ((lookTold H row).take (H.1.length - 1)) := by
        rw [cut_last _ (fun z => by
          have h1 := congrArg List.length z
          rw [List.length_map, ln] at h1
          have h0 : H.1.length = 0 := h1
          omega), List.length_map, ln, ← List.map_take]; rfl
      rw [e]
      have w := r_are_rows hb ((lookTold H row).take (H.1.length - 1)) (by simp; omega) (fun r hr => lookRows r (List.mem_of_mem_take hr))
      have f : areRows H ((lookTold H row).take (H.1.length - 1)) = false := by
        unfold areRows
        rw [decide_eq_false (by rw [List.length_take, ln]; omega), Bool.false_and]
      rw [f] at w
      exact r_rol_no w
    · exact r_rol_no (r_are_rows_not (fun _ => rfl) kLT)
    · exact r_rol_no (r_are_rows_not (fun _ => rfl) kNT)
    · have e : D.tup (List.map en (lookTold H row) ++ [D.tup []]) = en (lookTold H row ++ [[]]) := by
        show _ = D.tup (List.map en (lookTold H row ++ [[]]))
        rw [List.map_append]; rfl
      rw [e]
      have w := r_are_rows hb (lookTold H row ++ [[]]) (by simp; omega) (fun r hr => by
        rcases List.mem_append.mp hr with hr | hr
        · exact lookRows r hr
        · rw [List.mem_singleton.mp hr]; simp)
      have f : areRows H (lookTold H row ++ [[]]) = false := by
        unfold areRows
        rw [decide_eq_false (by rw [List.length_append, ln]; simp), Bool.false_and]
      rw [f] at w
      exact r_rol_no w
    · refine r_rol_no (r_are_rows_gen _ (fun _ => false) (by rw [List.length_map, ln]) (by omega) (fun d hd => ?_) ?_)
      · obtain ⟨r, _, rfl⟩ := List.mem_map.mp hd
        exact r_is_row_not (fun _ => rfl) kLT
      · rw [List.all_eq_false]
        have : 0 < ((lookTold H row).map fun r => D.lv (r.map (en : OkS → D))).length := by rw [List.length_map, ln]; omega
        exact ⟨_, List.getElem_mem this, by simp⟩
  have gN : ∀ n, Gd 60 (D.lv (List.replicate n D.non)) := fun n d hd => by rw [(List.mem_replicate.mp hd).2]; trivial
  have gF : ∀ n, Gd 60 (D.lv (List.replicate n (D.bl false))) := fun n d hd => by rw [(List.mem_replicate.mp hd).2]; trivial
  refine ⟨by decide, ?_⟩
  revert rol
  generalize hod : [D.tup (cutD (List.map en (lookTold H row)) none (some (-1))), D.lv (List.map en (lookTold H row)), D.non, D.tup (List.map en (lookTold H row) ++ [D.tup []]), D.tup ((lookTold H row).map fun r => D.lv (r.map en))] = od
  intro rol
  have odl : od.length = 5 := by rw [← hod]; rfl
  refine lcB_map od id (fun _ => D.non) (by rw [List.map_id]) (by rw [odl]; decide) (fun d hd K1 q => ?_) ?_
  · boot_fact
    exact rol d hd _ _ q
  have e5 : od.map (fun _ => D.non) = List.replicate 5 D.non := by rw [List.map_const', odl]
  have e6 : (List.replicate (Int.toNat 5) [D.non]).flatten = List.replicate 5 D.non := rep_one 5 D.non
  rw [e5, e6]
  refine ⟨by decide, by decide, by decide, by decide, i_eqD (gN 5) (gN 5) ⟨_, rfl, ?_⟩⟩
  rw [if_neg (by simp [eqD_refl])]
  clear rol hod e5 odl
  refine ⟨by decide, by rw [List.length_map]; exact szl (by omega), by decide, by rw [List.length_map]; exact szl (by omega), by decide, ?_⟩
  have irow : ∀ d ∈ [D.tup (List.map en row ++ [D.str "z"]), D.lv (List.map en row), D.non, D.tup (List.map en row ++ [D.int 1]), D.str "a"], Runs S_is_row [en H, d] (.bl false) := by
    intro d hd
    simp only [List.mem_cons, List.not_mem_nil, or_false] at hd
    rcases hd with rfl | rfl | rfl | rfl | rfl
    · have e : D.tup (List.map en row ++ [D.str "z"]) = en (row ++ [cz]) := by
        show _ = D.tup (List.map en (row ++ [cz]))
        rw [List.map_append]; rfl
      rw [e]
      have w := r_is_row hb (row ++ [cz]) (by simp; omega)
      have f : isRow H (row ++ [cz]) = false := by
        unfold isRow
        refine decide_eq_false fun z => ?_
        rcases z cz (by simp) with z | z
        · exact G.noz.1 z
        · exact z G.noz.2
      rw [f] at w; exact w
    · exact r_is_row_not (fun _ => rfl) kLT
    · exact r_is_row_not (fun _ => rfl) kNT
    · refine r_is_row_bad _ (fun d => match d with | .str _ => true | _ => false) (by simp; omega) (fun h d hd => ?_) (by simp)
      rcases List.mem_append.mp hd with hd | hd
      · obtain ⟨x, _, rfl⟩ := List.mem_map.mp hd
        exact ⟨"str", rfl, kSS⟩
      · rw [List.mem_singleton.mp hd]
        exact ⟨"int", rfl, kIS⟩
    · exact r_is_row_not (t := "str") (fun _ => rfl) kST
  revert irow
  generalize hod : [D.tup (List.map en row ++ [D.str "z"]), D.lv (List.map en row), D.non, D.tup (List.map en row ++ [D.int 1]), D.str "a"] = od2
  intro irow
  have odl : od2.length = 5 := by rw [← hod]; rfl
  refine lcB_map od2 id (fun _ => D.bl false) (by rw [List.map_id]) (by rw [odl]; decide) (fun d hd K1 q => ?_) ?_
  · boot_fact
    exact irow d hd _ _ q
  have e7 : od2.map (fun _ => D.bl false) = List.replicate 5 (D.bl false) := by rw [List.map_const', odl]
  have e8 : (List.replicate (Int.toNat 5) [D.bl false]).flatten = List.replicate 5 (D.bl false) := rep_one 5 (D.bl false)
  rw [e7, e8]
  refine ⟨by decide, by decide, by decide, by decide, i_eqD (gF 5) (gF 5) ⟨_, rfl, ?_⟩⟩
  rw [if_neg (by simp [eqD_refl])]
  exact hE [v2, some (en H), some (en (namesOf H)), some (en row), v6, v7, some (en (lookTold H row)), v9, v10, v11, v12, v13, v14, v15, v16, v17, _, v19] s rfl
theorem law_true : ∀ ns : List Int, ns.length ≤ 63 → S_law [scrD ns] [] fun d _ => d = .bl true := by
  intro ns hl
  refine ⟨rfl, ?_⟩
  unfold B_law T_law_27 R_law_28 T_law_28 T_law_29
  boot_fact
  refine r_source ns hl _ fun s0 => ?_
  boot_fact
  refine ⟨by decide, by decide, ?_⟩
  refine forB_ind _ (fun i env h => ∃ (o : List (Option D)) (s : Src), o.length = 18 ∧ env = [some (scrD ns), some (.ob 1)] ++ o ∧ h = hs s []) ⟨_, s0, rfl, rfl, rfl⟩ (fun _ _ _ _ => rfl) ?_ ?_
  · rintro i env h d hd ⟨o, s, ho, rfl, rfl⟩ N k
    obtain ⟨v2, o, rfl⟩ : ∃ v2 o', o = v2 :: o' := by
      cases o with
      | nil => cases ho
      | cons a b => exact ⟨a, b, rfl⟩
    refine law_A ns _ (fun H row led s w2 w6 w9 w10 w11 w12 w13 w14 w15 w16 w17 w18 w19 G hr1 hr2 hled ll => ?_) (some d :: o) s ho
    refine law_B ns _ H row led G hr1 hr2 hled ll (fun s w2 w6 w7 w9 w10 w11 w12 w13 w14 w15 w16 w17 w18 w19 => ?_) s _ _ _ _ _ _ _ _ _ _ _ _ _
    refine law_C ns _ H row G hr1 hr2 (fun s w2 w6 w7 w9 w10 w11 w12 w13 w14 w15 w16 w17 w18 w19 => ?_) s _ _ _ _ _ _ _ _ _ _ _ _ _ _
    exact law_D ns _ H row G hr1 hr2 (fun o s ho => k _ _ ⟨o, s, ho, rfl, rfl⟩) s _ _ _ _ _ _ _ _ _ _ _ _ _ _
  · rintro env h ⟨o, s, ho, rfl, rfl⟩
    boot_fact
    exact fin_gd (h := []) (ls := hs s []) (Q := fun d _ => d = D.bl true) trivial rfl
end Lw
open PySem PySem.W PyProof.Rows
set_option maxHeartbeats 0
theorem PySem.Challenge.cw_leastteams_k08_told_rows_by_own_exchange_holds : PySem.Challenge.rw_leastteams_k08_told_rows_by_own_exchange.Holds := by
  w_on; o_law; k_head; (case hw => w_witness2)
  k_fill
  refine DL.walk_ofG (l := PySem.Challenge.rw_leastteams_k08_told_rows_by_own_exchange) (n := 63) (k := 6) (S := Lw.S_law) (x := "script") rfl (by decide) rfl ⟨rfl, by decide, by decide⟩ (fun w h Y => PySem.W.kIn_of Y) ?F Lw.law_true
  case F =>
    intro w mg fa h KX G hmg
    obtain ⟨f__law_source, fd__law_source, D__law_source⟩ : ∃ f fd, DL.DefAt _ mg "_law_source" Lw.s__law_source ["script"] f fd := by
      refine' ⟨_, _, DL.defAt KX G ?a ?l ?c ?k ?b⟩
      (case a => k_is); (case l => k_is); (case c => k_is); (case k => k_is)
      (case b => exact fun _ _ _ _ _ _ us hl => match us, hl with | [_], _ => rfl)
    obtain ⟨f__law_pick, fd__law_pick, D__law_pick⟩ : ∃ f fd, DL.DefAt _ mg "_law_pick" Lw.s__law_pick ["source", "many"] f fd := by
      refine' ⟨_, _, DL.defAt KX G ?a ?l ?c ?k ?b⟩
      (case a => k_is); (case l => k_is); (case c => k_is); (case k => k_is)
      (case b => exact fun _ _ _ _ _ _ us hl => match us, hl with | [_, _], _ => rfl)
    obtain ⟨f__law_of, fd__law_of, D__law_of⟩ : ∃ f fd, DL.DefAt _ mg "_law_of" Lw.s__law_of ["source", "some"] f fd := by
      refine' ⟨_, _, DL.defAt KX G ?a ?l ?c ?k ?b⟩
      (case a => k_is); (case l => k_is); (case c => k_is); (case k => k_is)
      (case b => exact fun _ _ _ _ _ _ us hl => match us, hl with | [_, _], _ => rfl)
    obtain ⟨f__law_hands, fd__law_hands, D__law_hands⟩ : ∃ f fd, DL.DefAt _ mg "_law_hands" Lw.s__law_hands ["source"] f fd := by
      refine' ⟨_, _, DL.defAt KX G ?a ?l ?c ?k ?b⟩
      (case a => k_is); (case l => k_is); (case c => k_is); (case k => k_is)
      (case b => exact fun _ _ _ _ _ _ us hl => match us, hl with | [_], _ => rfl)
    obtain ⟨f__law_names, fd__law_names, D__law_names⟩ : ∃ f fd, DL.DefAt _ mg "_law_names" Lw.s__law_names ["hands"] f fd := by
      refine' ⟨_, _, DL.defAt KX G ?a ?l ?c ?k ?b⟩
      (case a => k_is); (case l => k_is); (case c => k_is); (case k => k_is)
      (case b => exact fun _ _ _ _ _ _ us hl => match us, hl with | [_], _ => rfl)
    obtain ⟨f__law_owner, fd__law_owner, D__law_owner⟩ : ∃ f fd, DL.DefAt _ mg "_law_owner" Lw.s__law_owner ["hands", "name"] f fd := by
      refine' ⟨_, _, DL.defAt KX G ?a ?l ?c ?k ?b⟩
      (case a => k_is); (case l => k_is); (case c => k_is); (case k => k_is)
      (case b => exact fun _ _ _ _ _ _ us hl => match us, hl with | [_, _], _ => rfl)
    obtain ⟨f__law_led, fd__law_led, D__law_led⟩ : ∃ f fd, DL.DefAt _ mg "_law_led" Lw.s__law_led ["hands", "row"] f fd := by
      refine' ⟨_, _, DL.defAt KX G ?a ?l ?c ?k ?b⟩
      (case a => k_is); (case l => k_is); (case c => k_is); (case k => k_is)
      (case b => exact fun _ _ _ _ _ _ us hl => match us, hl with | [_, _], _ => rfl)
    obtain ⟨f__law_look, fd__law_look, D__law_look⟩ : ∃ f fd, DL.DefAt _ mg "_law_look" Lw.s__law_look ["hands", "row"] f fd := by
      refine' ⟨_, _, DL.defAt KX G ?a ?l ?c ?k ?b⟩
      (case a => k_is); (case l => k_is); (case c => k_is); (case k => k_is)
      (case b => exact fun _ _ _ _ _ _ us hl => match us, hl with | [_, _], _ => rfl)
    obtain ⟨f_hand_of, fd_hand_of, D_hand_of⟩ : ∃ f fd, DL.DefAt _ mg "hand_of" Lw.s_hand_of ["hands", "name"] f fd := by
      refine' ⟨_, _, DL.defAt KX G ?a ?l ?c ?k ?b⟩
      (case a => k_is); (case l => k_is); (case c => k_is); (case k => k_is)
      (case b => exact fun _ _ _ _ _ _ us hl => match us, hl with | [_, _], _ => rfl)
    obtain ⟨f_is_seen, fd_is_seen, D_is_seen⟩ : ∃ f fd, DL.DefAt _ mg "is_seen" Lw.s_is_seen ["hands", "name", "hand"] f fd := by
      refine' ⟨_, _, DL.defAt KX G ?a ?l ?c ?k ?b⟩
      (case a => k_is); (case l => k_is); (case c => k_is); (case k => k_is)
      (case b => exact fun _ _ _ _ _ _ us hl => match us, hl with | [_, _, _], _ => rfl)
    obtain ⟨f_look_of, fd_look_of, D_look_of⟩ : ∃ f fd, DL.DefAt _ mg "look_of" Lw.s_look_of ["hands", "row", "hand"] f fd := by
      refine' ⟨_, _, DL.defAt KX G ?a ?l ?c ?k ?b⟩
      (case a => k_is); (case l => k_is); (case c => k_is); (case k => k_is)
      (case b => exact fun _ _ _ _ _ _ us hl => match us, hl with | [_, _, _], _ => rfl)
    obtain ⟨f_look_told, fd_look_told, D_look_told⟩ : ∃ f fd, DL.DefAt _ mg "look_told" Lw.s_look_told ["hands", "row"] f fd := by
      refine' ⟨_, _, DL.defAt KX G ?a ?l ?c ?k ?b⟩
      (case a => k_is); (case l => k_is); (case c => k_is); (case k => k_is)
      (case b => exact fun _ _ _ _ _ _ us hl => match us, hl with | [_, _], _ => rfl)
    obtain ⟨f_stretches, fd_stretches, D_stretches⟩ : ∃ f fd, DL.DefAt _ mg "stretches" Lw.s_stretches ["hands", "row"] f fd := by
      refine' ⟨_, _, DL.defAt KX G ?a ?l ?c ?k ?b⟩
      (case a => k_is); (case l => k_is); (case c => k_is); (case k => k_is)
      (case b => exact fun _ _ _ _ _ _ us hl => match us, hl with | [_, _], _ => rfl)
    obtain ⟨f_stretch_told, fd_stretch_told, D_stretch_told⟩ : ∃ f fd, DL.DefAt _ mg "stretch_told" Lw.s_stretch_told ["hands", "part"] f fd := by
      refine' ⟨_, _, DL.defAt KX G ?a ?l ?c ?k ?b⟩
      (case a => k_is); (case l => k_is); (case c => k_is); (case k => k_is)
      (case b => exact fun _ _ _ _ _ _ us hl => match us, hl with | [_, _], _ => rfl)
    obtain ⟨f_told_row, fd_told_row, D_told_row⟩ : ∃ f fd, DL.DefAt _ mg "told_row" Lw.s_told_row ["hands", "row"] f fd := by
      refine' ⟨_, _, DL.defAt KX G ?a ?l ?c ?k ?b⟩
      (case a => k_is); (case l => k_is); (case c => k_is); (case k => k_is)
      (case b => exact fun _ _ _ _ _ _ us hl => match us, hl with | [_, _], _ => rfl)
    obtain ⟨f_is_row, fd_is_row, D_is_row⟩ : ∃ f fd, DL.DefAt _ mg "is_row" Lw.s_is_row ["hands", "value"] f fd := by
      refine' ⟨_, _, DL.defAt KX G ?a ?l ?c ?k ?b⟩
      (case a => k_is); (case l => k_is); (case c => k_is); (case k => k_is)
      (case b => exact fun _ _ _ _ _ _ us hl => match us, hl with | [_, _], _ => rfl)
    obtain ⟨f_are_rows, fd_are_rows, D_are_rows⟩ : ∃ f fd, DL.DefAt _ mg "are_rows" Lw.s_are_rows ["hands", "value"] f fd := by
      refine' ⟨_, _, DL.defAt KX G ?a ?l ?c ?k ?b⟩
      (case a => k_is); (case l => k_is); (case c => k_is); (case k => k_is)
      (case b => exact fun _ _ _ _ _ _ us hl => match us, hl with | [_, _], _ => rfl)
    obtain ⟨f_row_of_look, fd_row_of_look, D_row_of_look⟩ : ∃ f fd, DL.DefAt _ mg "row_of_look" Lw.s_row_of_look ["hands", "value"] f fd := by
      refine' ⟨_, _, DL.defAt KX G ?a ?l ?c ?k ?b⟩
      (case a => k_is); (case l => k_is); (case c => k_is); (case k => k_is)
      (case b => exact fun _ _ _ _ _ _ us hl => match us, hl with | [_, _], _ => rfl)
    obtain ⟨f__law_is_put, fd__law_is_put, D__law_is_put⟩ : ∃ f fd, DL.DefAt _ mg "_law_is_put" Lw.s__law_is_put ["hands", "row"] f fd := by
      refine' ⟨_, _, DL.defAt KX G ?a ?l ?c ?k ?b⟩
      (case a => k_is); (case l => k_is); (case c => k_is); (case k => k_is)
      (case b => exact fun _ _ _ _ _ _ us hl => match us, hl with | [_, _], _ => rfl)
    obtain ⟨f_are_alike, fd_are_alike, D_are_alike⟩ : ∃ f fd, DL.DefAt _ mg "are_alike" Lw.s_are_alike ["hands", "one", "other"] f fd := by
      refine' ⟨_, _, DL.defAt KX G ?a ?l ?c ?k ?b⟩
      (case a => k_is); (case l => k_is); (case c => k_is); (case k => k_is)
      (case b => exact fun _ _ _ _ _ _ us hl => match us, hl with | [_, _, _], _ => rfl)
    obtain ⟨f_names_of, fd_names_of, D_names_of⟩ : ∃ f fd, DL.DefAt _ mg "names_of" Lw.s_names_of ["hands"] f fd := by
      refine' ⟨_, _, DL.defAt KX G ?a ?l ?c ?k ?b⟩
      (case a => k_is); (case l => k_is); (case c => k_is); (case k => k_is)
      (case b => exact fun _ _ _ _ _ _ us hl => match us, hl with | [_], _ => rfl)
    obtain ⟨f_law, fd_law, D_law⟩ : ∃ f fd, DL.DefAt _ mg "law" Lw.s_law ["script"] f fd := by
      refine' ⟨_, _, DL.defAt KX G ?a ?l ?c ?k ?b⟩
      (case a => k_is); (case l => k_is); (case c => k_is); (case k => k_is)
      (case b => exact fun _ _ _ _ _ _ us hl => match us, hl with | [_], _ => rfl)
    have b_int : mg "int" = none := by
      refine PySem.W.mg_none_of KX G ?z
      (case z => k_is)
    have b_abs : mg "abs" = none := by
      refine PySem.W.mg_none_of KX G ?z
      (case z => k_is)
    have b_len : mg "len" = none := by
      refine PySem.W.mg_none_of KX G ?z
      (case z => k_is)
    have b_max : mg "max" = none := by
      refine PySem.W.mg_none_of KX G ?z
      (case z => k_is)
    have b_range : mg "range" = none := by
      refine PySem.W.mg_none_of KX G ?z
      (case z => k_is)
    have b_min : mg "min" = none := by
      refine PySem.W.mg_none_of KX G ?z
      (case z => k_is)
    have b_tuple : mg "tuple" = none := by
      refine PySem.W.mg_none_of KX G ?z
      (case z => k_is)
    have b_enumerate : mg "enumerate" = none := by
      refine PySem.W.mg_none_of KX G ?z
      (case z => k_is)
    have b_zip : mg "zip" = none := by
      refine PySem.W.mg_none_of KX G ?z
      (case z => k_is)
    have b_isinstance : mg "isinstance" = none := by
      refine PySem.W.mg_none_of KX G ?z
      (case z => k_is)
    have b_str : mg "str" = none := by
      refine PySem.W.mg_none_of KX G ?z
      (case z => k_is)
    have b_all : mg "all" = none := by
      refine PySem.W.mg_none_of KX G ?z
      (case z => k_is)
    have b_repr : mg "repr" = none := by
      refine PySem.W.mg_none_of KX G ?z
      (case z => k_is)
    have b_list : mg "list" = none := by
      refine PySem.W.mg_none_of KX G ?z
      (case z => k_is)
    cases hmg.symm.trans D_law.at_
    exact ⟨fd_law, fun s u => D_law.bt s [u] rfl, fun base _ _ => Lw.all_ok D__law_source D__law_pick D__law_of D__law_hands D__law_names D__law_owner D__law_led D__law_look D_hand_of D_is_seen D_look_of D_look_told D_stretches D_stretch_told D_told_row D_is_row D_are_rows D_row_of_look D__law_is_put D_are_alike D_names_of D_law b_int b_abs b_len b_max b_range b_min b_tuple b_enumerate b_zip b_isinstance b_str b_all b_repr b_list⟩
