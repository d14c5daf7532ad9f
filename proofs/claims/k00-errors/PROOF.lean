import PyProof.Rows.All
import Wide.All
import OpenK.AllK
import Wide.FinOn
import HandS.ForMost
import HandS.ForExc
import HandS.CallSlots
import HandS.ExcInit
import HandS.TupAny
import HandS.TupLe
import HandS.TupMul
import HandS.Style
import HandS.Wide
import HandS.IsInst
import HandS.Deep
import HandS.TupLen
import HandS.AnyAll
import KE.DataCmp
import PyProof.ReprRoads
import HandS.SetKeys
import HandS.Conv
import HandS.RaiseMore
import HandS.Zip
import KE.GoesMore
import HandS.DictComp
import HandS.Small
import HandS.ExcValue
import HandS.ExcField
import HandS.ExcIs
import KE.KExcIs
import PySem.Challenge.RW_notednames_k00_errors
set_option Elab.async false
set_option linter.all false
set_option maxRecDepth 100000
set_option maxHeartbeats 4000000
namespace Z
open PySem PySem.Spec PyProof.Rows L2

/-! values as trees, an own heap of cells -/
inductive D where
  | non | bl (b : Bool) | int (i : Int) | str (x : Str) | tup (xs : List D) | ref (n : Nat) | glo (x : Str) | ty (n : String) | fl (xs : List D) | sl (xs : List D) | kt (xs : List D) | exc (C : Str) (ns : List Str) (ds : List D)
inductive Cell where
  | lst (xs : List D) | dic (kvs : List (D × D)) | ins (C : Str) (fs : List (Str × D))
abbrev M := List Cell
abbrev Rho := List (Option D)
structure Xn where
  cls : Str
  fs : List (Str × D)
inductive R (α : Type) where
  | ok (a : α) (m : M) | err (x : Xn) (m : M) | bad
/-- what the names of the module stand for; addresses that no value may stand for -/
abbrev G := (Str → Option Value) × List Addr
def R.bind {α β : Type} : R α → (α → M → R β) → R β
  | .ok a m, k => k a m
  | .err x m, _ => .err x m
  | .bad, _ => .bad
abbrev EF := Rho → M → R D
abbrev TF := Rho → M → R Bool
abbrev AF := Rho → M → R (List D)
abbrev FF := List D → M → R D
inductive Fl where
  | nx (ρ : Rho) | rt (d : D) | bk (ρ : Rho) | ct (ρ : Rho) | er (x : Xn) (ρ : Rho)
abbrev SF := Rho → M → Option (Fl × M)

/-- a tuple of the written part -/
def SqC (K : PySem.W.Frag) (a : Addr) (xs : List V) : Prop := ∃ (o : Obj) (its : Array Value) (n : Nat), K.lookup a = some o ∧ o.cls = .type "tuple" ∧ o.data = .seq its n ∧ its.size ≤ sizeLine ∧ Vals xs its.toList
theorem SqC.sq {K : PySem.W.Frag} {H : Hp} {a : Addr} {xs : List V} (h : SqC K a xs) : SqT K H a xs := .inr h
/-- a list that is read alone: locked, or of the written part -/
def SqF (K : PySem.W.Frag) (H : Hp) (a : Addr) (xs : List V) : Prop := (∃ o, H a = some (.frz o (.lst xs))) ∨
    ∃ (o : Obj) (its : Array Value) (n : Nat), K.lookup a = some o ∧ o.cls = .type "list" ∧ o.dict = none ∧ o.data = .seq its n ∧ its.size ≤ sizeLine ∧ Vals xs its.toList
theorem SqF.sq {K : PySem.W.Frag} {H : Hp} {a : Addr} {xs : List V} (h : SqF K H a xs) : SqL K H a xs := by
  rcases h with ⟨o, h⟩ | h
  · exact .inl (.inr ⟨o, h⟩)
  · exact .inr h
section
variable (K : PySem.W.Frag) (mg : G) (ι : List Addr) (H : Hp)
mutual
inductive Rep : D → V → Prop
  | non : Rep .non .non
  | bl (b : Bool) : Rep (.bl b) (.bl b)
  | int (i : Int) : Rep (.int i) (.int i)
  | str (x : Str) : Rep (.str x) (.str x)
  | tup {xs : List D} {a : Addr} {vs : List V} : H a = some (.tup vs) → RepL xs vs → Rep (.tup xs) (.ref a)
  | ref {n : Nat} {a : Addr} : ι[n]? = some a → Rep (.ref n) (.ref a)
  | glo {x : Str} {a : Addr} : mg.1 x = some (.ref a) → Rep (.glo x) (.ref a)
  | ty (n : String) : Rep (.ty n) (.ty n)
  | fl {xs : List D} {a : Addr} {vs : List V} : SqF K H a vs → RepL xs vs → Rep (.fl xs) (.ref a)
  | sl {xs : List D} {a : Addr} {vs : List V} : a ∉ ι ++ mg.2 → H a = some (.lst vs) → RepL xs vs → Rep (.sl xs) (.ref a)
  | kt {xs : List D} {a : Addr} {vs : List V} : SqC K a vs → RepL xs vs → Rep (.kt xs) (.ref a)
  | exc {C : Str} {ns : List Str} {ds : List D} {vs : List V} {a CA dx : Addr} : mg.1 C = some (.ref CA) → a ∉ ι → dx ∉ ι → H a = some (exo a CA (some dx)) → H dx = some (exd dx (ns.zip vs)) → RepL ds vs → Rep (.exc C ns ds) (.ref a)
  | ex0 {C : Str} {a CA : Addr} : mg.1 C = some (.ref CA) → a ∉ ι → H a = some (exo a CA none) → Rep (.exc C [] []) (.ref a)
inductive RepL : List D → List V → Prop
  | nil : RepL [] []
  | cons {d : D} {v : V} {ds : List D} {vs : List V} : Rep d v → RepL ds vs → RepL (d :: ds) (v :: vs)
end
end

def keyOf : D → Option Key
  | .int i => some (.inl i)
  | .str x => some (.inr x)
  | _ => none
def keysOf : List D → Option (List Key)
  | [] => some []
  | d :: ds => match keyOf d, keysOf ds with
    | some k, some ks => some (k :: ks)
    | _, _ => none
def keyT : D → Option (List Key)
  | .tup ds => keysOf ds
  | _ => none

section
variable (K : PySem.W.Frag) (mg : G) (ι : List Addr) (H : Hp)
abbrev RepK : List (D × D) → List (Key × V) → Prop := Paired fun (p : D × D) (q : Key × V) => keyOf p.1 = some q.1 ∧ Rep K mg ι H p.2 q.2
abbrev RepT : List (D × D) → List (List Key × V) → Prop := Paired fun (p : D × D) (q : List Key × V) => keyT p.1 = some q.1 ∧ Rep K mg ι H p.2 q.2
abbrev RepF : List (Str × D) → List (Str × V) → Prop := Paired fun (p : Str × D) (q : Str × V) => p.1 = q.1 ∧ Rep K mg ι H p.2 q.2
inductive CellRep : Addr → Cell → Prop
  | lst {a : Addr} {xs : List D} {vs : List V} : H a = some (.lst vs) → RepL K mg ι H xs vs → CellRep a (.lst xs)
  | dK {a : Addr} {kvs : List (D × D)} {ws : List (Key × V)} : H a = some (.dK ws) → RepK K mg ι H kvs ws → CellRep a (.dic kvs)
  | dT {a : Addr} {kvs : List (D × D)} {ws : List (List Key × V)} : H a = some (.dT ws) → RepT K mg ι H kvs ws → CellRep a (.dic kvs)
  | ins {a : Addr} {C : Str} {CA dx : Addr} {fs : List (Str × D)} {ws : List (Str × V)} : mg.1 C = some (.ref CA) → H a = some (.ins CA dx ws) → RepF K mg ι H fs ws → CellRep a (.ins C fs)
structure HR (m : M) : Prop where
  len : ι.length = m.length
  nd : ι.Nodup
  fd : ∀ a ∈ mg.2, H a ≠ none
  at' : ∀ (n : Nat) (a : Addr) (c : Cell), ι[n]? = some a → m[n]? = some c → CellRep K mg ι H a c
def EnvR (ρ : Rho) (σ : L2.St) : Prop := ρ.length = σ.length ∧ ∀ (i : Nat) d, ρ[i]? = some (some d) → ∃ v, σ[i]? = some (some v) ∧ Rep K mg ι H d v
/-- an exception of an own class -/
def XRep (x : Xn) (cls : Value) (dd : Option Addr) : Prop := ∃ C, mg.1 x.cls = some (.ref C) ∧ cls = .ref C ∧
  ((x.fs = [] ∧ dd = none) ∨ ∃ d ws, dd = some d ∧ H d = some (.xd ws) ∧ RepF K mg ι H x.fs ws)
end
structure Ext (ι : List Addr) (H : Hp) (ι' : List Addr) (H' : Hp) : Prop where
  pre : ∃ t, ι' = ι ++ t ∧ ∀ a ∈ t, H a = none
  tup : ∀ a vs, H a = some (.tup vs) → H' a = some (.tup vs)
  frz : ∀ a o u, H a = some (.frz o u) → H' a = some (.frz o u)
  fr : ∀ a o, a ∉ ι → H a = some o → H' a = some o
  dom : ∀ a, H a ≠ none → H' a ≠ none

theorem Ext.refl {ι : List Addr} {H : Hp} : Ext ι H ι H := ⟨⟨[], by simp, by simp⟩, fun _ _ h => h, fun _ _ _ h => h, fun _ _ _ h => h, fun _ h => h⟩
theorem Ext.trans {ι ι1 ι2 : List Addr} {H H1 H2 : Hp} (a : Ext ι H ι1 H1) (b : Ext ι1 H1 ι2 H2) : Ext ι H ι2 H2 := by
  obtain ⟨t1, e1, n1⟩ := a.pre
  obtain ⟨t2, e2, n2⟩ := b.pre
  refine ⟨⟨t1 ++ t2, by rw [e2, e1, List.append_assoc], fun x hx => ?_⟩, fun x vs h => b.tup x vs (a.tup x vs h), fun x o u h => b.frz x o u (a.frz x o u h), fun x o hx h => ?_, fun x h => b.dom x (a.dom x h)⟩
  · rcases List.mem_append.mp hx with h | h
    · exact n1 x h
    · have h1 := n2 x h
      cases q : H x with
      | none => rfl
      | some o => exact absurd h1 (a.dom x (by rw [q]; simp))
  · have h1 := a.fr x o hx h
    refine b.fr x o ?_ h1
    rw [e1]
    intro hm
    rcases List.mem_append.mp hm with h2 | h2
    · exact hx h2
    · rw [n1 x h2] at h; cases h

section
variable {K : PySem.W.Frag} {mg : G} {ι ι' : List Addr} {H H' : Hp}
theorem Ext.get (e : Ext ι H ι' H') {n : Nat} {a : Addr} (h : ι[n]? = some a) : ι'[n]? = some a := by
  obtain ⟨t, rfl, _⟩ := e.pre
  rw [List.getElem?_append_left (List.getElem?_eq_some_iff.mp h).1]
  exact h
theorem Ext.sqF (e : Ext ι H ι' H') {a : Addr} {vs : List V} (h : SqF K H a vs) : SqF K H' a vs := by
  rcases h with ⟨o, h⟩ | h
  · exact .inl ⟨o, e.frz _ _ _ h⟩
  · exact .inr h
theorem Ext.outF (e : Ext ι H ι' H') {a : Addr} {o : HO} {F : List Addr} (n : a ∉ ι ++ F) (h : H a = some o) : a ∉ ι' ++ F := by
  obtain ⟨t, rfl, ht⟩ := e.pre
  intro hm
  rcases List.mem_append.mp hm with h1 | h1
  · rcases List.mem_append.mp h1 with h2 | h2
    · exact n (List.mem_append_left _ h2)
    · rw [ht a h2] at h; cases h
  · exact n (List.mem_append_right _ h1)
theorem Ext.out (e : Ext ι H ι' H') {a : Addr} {o : HO} (n : a ∉ ι) (h : H a = some o) : a ∉ ι' := by
  obtain ⟨t, rfl, ht⟩ := e.pre
  intro hm
  rcases List.mem_append.mp hm with h1 | h1
  · exact n h1
  · rw [ht a h1] at h; cases h
mutual
theorem Rep.mono (e : Ext ι H ι' H') : ∀ {d : D} {v : V}, Rep K mg ι H d v → Rep K mg ι' H' d v
  | _, _, .non => .non
  | _, _, .bl b => .bl b
  | _, _, .int i => .int i
  | _, _, .str x => .str x
  | _, _, .tup h r => .tup (e.tup _ _ h) (RepL.mono e r)
  | _, _, .ref h => .ref (e.get h)
  | _, _, .glo h => .glo h
  | _, _, .ty n => .ty n
  | _, _, .fl h r => .fl (e.sqF h) (RepL.mono e r)
  | _, _, .sl n h r => .sl (e.outF n h) (e.fr _ _ (fun q => n (List.mem_append_left _ q)) h) (RepL.mono e r)
  | _, _, .exc c na nd ha hd r => .exc c (e.out na ha) (e.out nd hd) (e.fr _ _ na ha) (e.fr _ _ nd hd) (RepL.mono e r)
  | _, _, .ex0 c na ha => .ex0 c (e.out na ha) (e.fr _ _ na ha)
  | _, _, .kt h r => .kt h (RepL.mono e r)
theorem RepL.mono (e : Ext ι H ι' H') : ∀ {ds : List D} {vs : List V}, RepL K mg ι H ds vs → RepL K mg ι' H' ds vs
  | _, _, .nil => .nil
  | _, _, .cons h r => .cons (Rep.mono e h) (RepL.mono e r)
end
theorem paired_mono {α β : Type} {F G : α → β → Prop} (h : ∀ a b, F a b → G a b) : ∀ {l₁ : List α} {l₂ : List β}, Paired F l₁ l₂ → Paired G l₁ l₂
  | _, _, .nil => .nil
  | _, _, .cons r t => .cons (h _ _ r) (paired_mono h t)
theorem EnvR.mono {ρ : Rho} {σ : L2.St} (e : Ext ι H ι' H') (h : EnvR K mg ι H ρ σ) : EnvR K mg ι' H' ρ σ :=
  ⟨h.1, fun i d hi => let ⟨v, h1, h2⟩ := h.2 i d hi; ⟨v, h1, h2.mono e⟩⟩
theorem EnvR.set {ρ : Rho} {σ : L2.St} {d : D} {v : V} (h : EnvR K mg ι H ρ σ) (i : Nat) (r : Rep K mg ι H d v) : EnvR K mg ι H (ρ.set i (some d)) (σ.set i (some v)) := by
  refine ⟨by simp [h.1], fun j d' hj => ?_⟩
  by_cases e : i = j
  · subst e
    have hl : i < ρ.length := by
      have := (List.getElem?_eq_some_iff.mp hj).1
      simpa using this
    rw [List.getElem?_set_self hl] at hj
    cases hj
    exact ⟨v, List.getElem?_set_self (by rw [← h.1]; exact hl), r⟩
  · rw [List.getElem?_set_ne e] at hj
    obtain ⟨v', h1, h2⟩ := h.2 j d' hj
    exact ⟨v', by rw [List.getElem?_set_ne e]; exact h1, h2⟩
theorem RepL.length : ∀ {ds : List D} {vs : List V}, RepL K mg ι H ds vs → ds.length = vs.length
  | _, _, .nil => rfl
  | _, _, .cons _ r => by simp [RepL.length r]
theorem RepL.get : ∀ {ds : List D} {vs : List V} {i : Nat} {d : D}, RepL K mg ι H ds vs → ds[i]? = some d → ∃ v, vs[i]? = some v ∧ Rep K mg ι H d v
  | _, _, _, _, .nil, h => by simp at h
  | _, _, 0, _, .cons r _, h => by simp at h; subst h; exact ⟨_, rfl, r⟩
  | _, _, i + 1, d, .cons _ t, h => by
    obtain ⟨v, h1, h2⟩ := RepL.get (i := i) (d := d) t (by simpa using h)
    exact ⟨v, by simpa using h1, h2⟩
theorem RepL.append : ∀ {ds es : List D} {vs us : List V}, RepL K mg ι H ds vs → RepL K mg ι H es us → RepL K mg ι H (ds ++ es) (vs ++ us)
  | _, _, _, _, .nil, s => s
  | _, _, _, _, .cons r t, s => .cons r (RepL.append t s)
theorem RepL.take : ∀ (n : Nat) {ds : List D} {vs : List V}, RepL K mg ι H ds vs → RepL K mg ι H (ds.take n) (vs.take n)
  | 0, _, _, _ => by simp; exact .nil
  | n + 1, _, _, .nil => .nil
  | n + 1, _, _, .cons r t => .cons r (RepL.take n t)
theorem RepL.drop : ∀ (n : Nat) {ds : List D} {vs : List V}, RepL K mg ι H ds vs → RepL K mg ι H (ds.drop n) (vs.drop n)
  | 0, _, _, h => h
  | n + 1, _, _, .nil => .nil
  | n + 1, _, _, .cons r t => RepL.drop n t
theorem RepL.eraseIdx : ∀ (n : Nat) {ds : List D} {vs : List V}, RepL K mg ι H ds vs → RepL K mg ι H (ds.eraseIdx n) (vs.eraseIdx n)
  | _, _, _, .nil => .nil
  | 0, _, _, .cons r t => t
  | n + 1, _, _, .cons r t => .cons r (RepL.eraseIdx n t)
theorem RepL.setAt {d : D} {v : V} (q : Rep K mg ι H d v) : ∀ (n : Nat) {ds : List D} {vs : List V}, RepL K mg ι H ds vs → RepL K mg ι H (ds.set n d) (vs.set n v)
  | _, _, _, .nil => .nil
  | 0, _, _, .cons r t => .cons q t
  | n + 1, _, _, .cons r t => .cons r (RepL.setAt q n t)
theorem RepL.rev : ∀ {ds : List D} {vs : List V}, RepL K mg ι H ds vs → RepL K mg ι H ds.reverse vs.reverse
  | _, _, .nil => .nil
  | _, _, .cons r t => by rw [List.reverse_cons, List.reverse_cons]; exact (RepL.rev t).append (.cons r .nil)

/-- a cell under a growth that leaves its own object -/
theorem CellRep.mono {a : Addr} {c : Cell} (e : Ext ι H ι' H') (he : ∀ o, H a = some o → H' a = some o) (h : CellRep K mg ι H a c) : CellRep K mg ι' H' a c := by
  cases h with
  | lst h r => exact .lst (he _ h) (r.mono e)
  | dK h r => exact .dK (he _ h) (paired_mono (fun _ _ ⟨x, y⟩ => ⟨x, y.mono e⟩) r)
  | dT h r => exact .dT (he _ h) (paired_mono (fun _ _ ⟨x, y⟩ => ⟨x, y.mono e⟩) r)
  | ins hc h r => exact .ins hc (he _ h) (paired_mono (fun _ _ ⟨x, y⟩ => ⟨x, y.mono e⟩) r)
theorem CellRep.there {a : Addr} {c : Cell} (h : CellRep K mg ι H a c) : ∃ o, H a = some o := by
  cases h with
  | lst h r => exact ⟨_, h⟩
  | dK h r => exact ⟨_, h⟩
  | dT h r => exact ⟨_, h⟩
  | ins hc h r => exact ⟨_, h⟩
/-- an address of a cell that is written is tracked -/
theorem HR.lt {m : M} (h : HR K mg ι H m) {n : Nat} {a : Addr} (e : ι[n]? = some a) : ∃ c, m[n]? = some c ∧ CellRep K mg ι H a c := by
  have hn : n < m.length := by rw [← h.len]; exact (List.getElem?_eq_some_iff.mp e).1
  exact ⟨m[n], List.getElem?_eq_getElem hn, h.at' n a _ e (List.getElem?_eq_getElem hn)⟩

/-- nothing but new objects: a new untracked-by-us object at p -/
theorem Ext.side {p : Addr} {o : HO} (hp : H p = none) : Ext ι H ι (upd H p o) :=
  ⟨⟨[], by simp, by simp⟩, fun a vs h => by rw [upd_ne (ne_of_none h hp)]; exact h, fun a o u h => by rw [upd_ne (ne_of_none h hp)]; exact h, fun a o _ h => by rw [upd_ne (ne_of_none h hp)]; exact h,
    fun a h => by
      by_cases e : a = p
      · subst e; exact absurd hp h
      · rw [upd_ne e]; exact h⟩
/-- a new cell at p -/
theorem Ext.cell {p : Addr} {o : HO} (hp : H p = none) : Ext ι H (ι ++ [p]) (upd H p o) :=
  ⟨⟨[p], rfl, fun a h => by rw [List.mem_singleton.mp h]; exact hp⟩, (Ext.side (ι := ι) hp).tup, (Ext.side (ι := ι) hp).frz, (Ext.side (ι := ι) hp).fr, (Ext.side (ι := ι) hp).dom⟩
theorem HR.mem {m : M} (h : HR K mg ι H m) {a : Addr} (ha : a ∈ ι) : ∃ o, H a = some o := by
  obtain ⟨n, hn⟩ := List.getElem?_of_mem ha
  obtain ⟨c, _, hc⟩ := h.lt hn
  exact hc.there
/-- a new object beside the cells -/
theorem HR.side {m : M} (h : HR K mg ι H m) {p : Addr} {o : HO} (hp : H p = none) : HR K mg ι (upd H p o) m :=
  ⟨h.len, h.nd, fun a ha q => (Ext.side (ι := ι) hp).dom a (h.fd a ha) q, fun n a c h1 h2 => (h.at' n a c h1 h2).mono (Ext.side hp) fun o' e => by rw [upd_ne (ne_of_none e hp)]; exact e⟩
/-- a new cell -/
theorem HR.cell {m : M} (h : HR K mg ι H m) {p : Addr} {o : HO} {c : Cell} (hp : H p = none) (hc : CellRep K mg (ι ++ [p]) (upd H p o) p c) : HR K mg (ι ++ [p]) (upd H p o) (m ++ [c]) := by
  refine ⟨by simp [h.len], ?_, fun a ha q => (Ext.side (ι := ι) hp).dom a (h.fd a ha) q, fun n a c' h1 h2 => ?_⟩
  · rw [List.nodup_append]
    refine ⟨h.nd, by simp, fun x hx y hy e => ?_⟩
    rw [List.mem_singleton.mp hy] at e
    subst e
    obtain ⟨o, q⟩ := h.mem hx
    rw [hp] at q; cases q
  · by_cases hn : n < ι.length
    · rw [List.getElem?_append_left hn] at h1
      rw [List.getElem?_append_left (by rw [← h.len]; exact hn)] at h2
      exact (h.at' n a c' h1 h2).mono (Ext.cell hp) fun o' e => by rw [upd_ne (ne_of_none e hp)]; exact e
    · rw [List.getElem?_append_right (by omega)] at h1
      rw [List.getElem?_append_right (by rw [← h.len]; omega)] at h2
      have z : n - ι.length = 0 := by
        cases q : n - ι.length with
        | zero => rfl
        | succ k => rw [q] at h1; simp at h1
      rw [z] at h1
      rw [← h.len, z] at h2
      simp at h1 h2
      subst h1; subst h2
      exact hc
/-- a cell is written -/
theorem Ext.write {m : M} (h : HR K mg ι H m) {n : Nat} {a : Addr} {o : HO} (ha : ι[n]? = some a) (nt : ∀ vs, H a ≠ some (.tup vs)) (nf : ∀ ob u, H a ≠ some (.frz ob u)) : Ext ι H ι (upd H a o) :=
  ⟨⟨[], by simp, by simp⟩, fun b vs q => by rw [upd_ne (fun e : b = a => nt vs (by rw [← e]; exact q))]; exact q, fun b ob u q => by rw [upd_ne (fun e : b = a => nf ob u (by rw [← e]; exact q))]; exact q,
    fun b o hb q => by rw [upd_ne (fun e : b = a => hb (by rw [e]; exact List.mem_of_getElem? ha))]; exact q, fun b q => by
      by_cases e : b = a
      · subst e; rw [upd_same]; simp
      · rw [upd_ne e]; exact q⟩
theorem CellRep.notup {a : Addr} {c : Cell} (h : CellRep K mg ι H a c) : (∀ vs, H a ≠ some (.tup vs)) ∧ ∀ ob u, H a ≠ some (.frz ob u) := by
  cases h with
  | lst h r => exact ⟨fun vs q => (by rw [h] at q; cases q), fun ob u q => (by rw [h] at q; cases q)⟩
  | dK h r => exact ⟨fun vs q => (by rw [h] at q; cases q), fun ob u q => (by rw [h] at q; cases q)⟩
  | dT h r => exact ⟨fun vs q => (by rw [h] at q; cases q), fun ob u q => (by rw [h] at q; cases q)⟩
  | ins hc h r => exact ⟨fun vs q => (by rw [h] at q; cases q), fun ob u q => (by rw [h] at q; cases q)⟩
theorem HR.write {m : M} (h : HR K mg ι H m) {n : Nat} {a : Addr} {o : HO} {c : Cell} (ha : ι[n]? = some a) (e : Ext ι H ι (upd H a o)) (hc : CellRep K mg ι (upd H a o) a c) : HR K mg ι (upd H a o) (m.set n c) := by
  refine ⟨by simp [h.len], h.nd, fun a ha => e.dom a (h.fd a ha), fun k b c' h1 h2 => ?_⟩
  by_cases q : n = k
  · subst q
    have hl : n < m.length := by rw [← h.len]; exact (List.getElem?_eq_some_iff.mp ha).1
    rw [List.getElem?_set_self hl] at h2
    cases h2
    rw [ha] at h1; cases h1
    exact hc
  · rw [List.getElem?_set_ne q] at h2
    refine (h.at' k b c' h1 h2).mono e fun o' z => ?_
    rw [upd_ne]
    · exact z
    · rintro rfl
      obtain ⟨i1, e1⟩ := List.getElem?_eq_some_iff.mp ha
      obtain ⟨i2, e2⟩ := List.getElem?_eq_some_iff.mp h1
      exact q ((List.getElem_inj h.nd).mp (e1.trans e2.symm))
end
section
variable {K : PySem.W.Frag} {mg : G} {ι : List Addr} {H : Hp} {F' : List Addr}
theorem outGrow {ι : List Addr} {F F' : List Addr} {a : Addr} {o : HO} {H : Hp} (hF : ∀ a ∈ F', a ∈ F ∨ H a = none) (h : a ∉ ι ++ F) (ha : H a = some o) : a ∉ ι ++ F' := fun q => by
  rcases List.mem_append.mp q with q | q
  · exact h (List.mem_append_left _ q)
  · rcases hF a q with q | q
    · exact h (List.mem_append_right _ q)
    · rw [ha] at q; cases q
/-! values of a heap where new addresses are kept apart that it does not have -/
mutual
theorem Rep.grow (hF : ∀ a ∈ F', a ∈ mg.2 ∨ H a = none) : ∀ {d : D} {v : V}, Rep K mg ι H d v → Rep K (mg.1, F') ι H d v
  | _, _, .non => .non
  | _, _, .bl b => .bl b
  | _, _, .int i => .int i
  | _, _, .str x => .str x
  | _, _, .tup h r => .tup h (RepL.grow hF r)
  | _, _, .ref h => .ref h
  | _, _, .glo h => .glo h
  | _, _, .ty n => .ty n
  | _, _, .fl h r => .fl h (RepL.grow hF r)
  | _, _, .sl n h r => .sl (outGrow hF n h) h (RepL.grow hF r)
  | _, _, .exc c na nd ha hd r => .exc c na nd ha hd (RepL.grow hF r)
  | _, _, .ex0 c na ha => .ex0 c na ha
  | _, _, .kt h r => .kt h (RepL.grow hF r)
theorem RepL.grow (hF : ∀ a ∈ F', a ∈ mg.2 ∨ H a = none) : ∀ {ds : List D} {vs : List V}, RepL K mg ι H ds vs → RepL K (mg.1, F') ι H ds vs
  | _, _, .nil => .nil
  | _, _, .cons h r => .cons (Rep.grow hF h) (RepL.grow hF r)
end
theorem CellRep.grow (hF : ∀ a ∈ F', a ∈ mg.2 ∨ H a = none) {a : Addr} {c : Cell} (h : CellRep K mg ι H a c) : CellRep K (mg.1, F') ι H a c := by
  cases h with
  | lst h r => exact .lst h (r.grow hF)
  | dK h r => exact .dK h (paired_mono (fun _ _ ⟨x, y⟩ => ⟨x, y.grow hF⟩) r)
  | dT h r => exact .dT h (paired_mono (fun _ _ ⟨x, y⟩ => ⟨x, y.grow hF⟩) r)
  | ins hc h r => exact .ins hc h (paired_mono (fun _ _ ⟨x, y⟩ => ⟨x, y.grow hF⟩) r)
theorem HR.grow {m : M} (hF : ∀ a ∈ F', a ∈ mg.2 ∨ H a = none) (hd : ∀ a ∈ F', H a ≠ none) (h : HR K mg ι H m) : HR K (mg.1, F') ι H m :=
  ⟨h.len, h.nd, hd, fun n a c h1 h2 => (h.at' n a c h1 h2).grow hF⟩
theorem EnvR.grow {ρ : Rho} {σ : L2.St} (hF : ∀ a ∈ F', a ∈ mg.2 ∨ H a = none) (h : EnvR K mg ι H ρ σ) : EnvR K (mg.1, F') ι H ρ σ :=
  ⟨h.1, fun i d hi => let ⟨v, h1, h2⟩ := h.2 i d hi; ⟨v, h1, h2.grow hF⟩⟩
end
end Z

namespace Z
open PySem PySem.Spec PyProof.Rows L2

section
variable (K : PySem.W.Frag) (mg : G)
abbrev Relt (α β : Type) := List Addr → Hp → α → β → Prop
abbrev relE : Relt D V := fun ι H => Rep K mg ι H
abbrev relA : Relt (List D) (List V) := fun ι H => RepL K mg ι H
abbrev relT : Relt Bool Bool := fun _ _ a b => a = b
def Post {α β : Type} (rel : Relt α β) (E : XK) (ι : List Addr) (H : Hp) (Q : β → Hp → Prop) : R α → Prop
  | .ok a m => ∀ ι' H' b, Ext ι H ι' H' → HR K mg ι' H' m → rel ι' H' a b → Q b H'
  | .err x m => ∀ ι' H' cls dd, Ext ι H ι' H' → HR K mg ι' H' m → XRep K mg ι' H' x cls dd → E cls dd H'
  | .bad => False
end
section
variable {K : PySem.W.Frag} {mg : G} {α β γ δ : Type} {rel : Relt α β} {rel2 : Relt γ δ} {E : XK} {ι ι' : List Addr} {H H' : Hp}
theorem Post.shift {Q : β → Hp → Prop} (e : Ext ι H ι' H') : ∀ {r : R α}, Post K mg rel E ι H Q r → Post K mg rel E ι' H' Q r
  | .ok a m, h => fun ι2 H2 b e2 h1 h2 => h ι2 H2 b (e.trans e2) h1 h2
  | .err x m, h => fun ι2 H2 c d e2 h1 h2 => h ι2 H2 c d (e.trans e2) h1 h2
  | .bad, h => h
theorem Post.seq {Q : δ → Hp → Prop} {Q1 : β → Hp → Prop} {r : R α} {k : α → M → R γ} (h : Post K mg rel2 E ι H Q (r.bind k))
    (hk : ∀ a m ι1 H1 b, r = .ok a m → Ext ι H ι1 H1 → HR K mg ι1 H1 m → rel ι1 H1 a b → Post K mg rel2 E ι1 H1 Q (k a m) → Q1 b H1) : Post K mg rel E ι H Q1 r := by
  cases r with
  | ok a m =>
    intro ι1 H1 b e h1 h2
    exact hk a m ι1 H1 b rfl e h1 h2 (Post.shift e h)
  | err x m => exact h
  | bad => exact h
theorem Post.okI {Q : β → Hp → Prop} {a : α} {m : M} {b : β} (h : Post K mg rel E ι H Q (.ok a m)) (h1 : HR K mg ι H m) (h2 : rel ι H a b) : Q b H := h ι H b .refl h1 h2
end

def PE.imp {X : Cx} {e : Expr} {t t' : TE} (h : PE X e t) (i : ∀ σ H Q, t' σ H Q → t σ H Q) : PE X e t' := ⟨fun pins s σ H Q I q => h.run pins s σ H Q I (i _ _ _ q)⟩
def PT.imp {X : Cx} {e : Expr} {t t' : TT} (h : PT X e t) (i : ∀ σ H Q, t' σ H Q → t σ H Q) : PT X e t' := ⟨fun pins s σ H Q I q => h.run pins s σ H Q I (i _ _ _ q)⟩
def PA.imp {X : Cx} {e : List Expr} {t t' : TA} (h : PA X e t) (i : ∀ σ H Q, t' σ H Q → t σ H Q) : PA X e t' := ⟨fun pos pins s σ H Q I q => h.run pos pins s σ H Q I (i _ _ _ q)⟩
def PS.imp {X : Cx} {e : Stmt} {t t' : TS} (h : PS X e t) (i : ∀ D σ H, t' D σ H → t D σ H) : PS X e t' := ⟨fun pins s σ H D I q => h.run pins s σ H D I (i _ _ _ q)⟩
def PSs.imp {X : Cx} {e : List Stmt} {t t' : TS} (h : PSs X e t) (i : ∀ D σ H, t' D σ H → t D σ H) : PSs X e t' := ⟨fun pins s σ H D I q => h.run pins s σ H D I (i _ _ _ q)⟩

section
variable (K : PySem.W.Frag) (mg : Str → Option Value) (W : WX)
def tE (f : EF) : TE := fun σ H Q => ∃ F ι ρ m, EnvR K (mg, F) ι H ρ σ ∧ HR K (mg, F) ι H m ∧ Post K (mg, F) (relE K (mg, F)) (fun c d H' => W c d σ H') ι H Q (f ρ m)
def tA (f : AF) : TA := fun σ H Q => ∃ F ι ρ m, EnvR K (mg, F) ι H ρ σ ∧ HR K (mg, F) ι H m ∧ Post K (mg, F) (relA K (mg, F)) (fun c d H' => W c d σ H') ι H Q (f ρ m)
def tT (f : TF) : TT := fun σ H Q => ∃ F ι ρ m, EnvR K (mg, F) ι H ρ σ ∧ HR K (mg, F) ι H m ∧ Post K (mg, F) relT (fun c d H' => W c d σ H') ι H Q (f ρ m)
end
section
variable (K : PySem.W.Frag) (mg : G) (W : WX)
def PostS (D : Ends) (ι : List Addr) (H : Hp) : Option (Fl × M) → Prop
  | none => False
  | some (.nx ρ, m) => ∀ ι' H' σ', Ext ι H ι' H' → HR K mg ι' H' m → EnvR K mg ι' H' ρ σ' → D.nx σ' H'
  | some (.rt d, m) => ∀ ι' H' v, Ext ι H ι' H' → HR K mg ι' H' m → Rep K mg ι' H' d v → D.rt v H'
  | some (.bk ρ, m) => ∀ ι' H' σ', Ext ι H ι' H' → HR K mg ι' H' m → EnvR K mg ι' H' ρ σ' → D.bk σ' H'
  | some (.ct ρ, m) => ∀ ι' H' σ', Ext ι H ι' H' → HR K mg ι' H' m → EnvR K mg ι' H' ρ σ' → D.ct σ' H'
  | some (.er x ρ, m) => ∀ ι' H' σ' cls dd, Ext ι H ι' H' → HR K mg ι' H' m → EnvR K mg ι' H' ρ σ' → XRep K mg ι' H' x cls dd → W cls dd σ' H'
end
section
variable (K : PySem.W.Frag) (mg : Str → Option Value) (W : WX)
def tS (g : SF) : TS := fun D σ H => ∃ F ι ρ m, EnvR K (mg, F) ι H ρ σ ∧ HR K (mg, F) ι H m ∧ PostS K (mg, F) W D ι H (g ρ m)
end
theorem PostS.shift {K : PySem.W.Frag} {mg : G} {W : WX} {D : Ends} {ι ι' : List Addr} {H H' : Hp} (e : Ext ι H ι' H') : ∀ {r : Option (Fl × M)}, PostS K mg W D ι H r → PostS K mg W D ι' H' r
  | none, h => h
  | some (.nx ρ, m), h => fun a b c d => h a b c (e.trans d)
  | some (.rt d, m), h => fun a b c d => h a b c (e.trans d)
  | some (.bk ρ, m), h => fun a b c d => h a b c (e.trans d)
  | some (.ct ρ, m), h => fun a b c d => h a b c (e.trans d)
  | some (.er x ρ, m), h => fun a b c c' c'' d => h a b c c' c'' (e.trans d)

abbrev ZE (X : Cx) (W : WX) (e : Expr) (f : EF) : Prop := PE X e (tE X.K X.mg W f)
abbrev ZA (X : Cx) (W : WX) (e : List Expr) (f : AF) : Prop := PA X e (tA X.K X.mg W f)
abbrev ZT (X : Cx) (W : WX) (e : Expr) (f : TF) : Prop := PT X e (tT X.K X.mg W f)
abbrev ZS (X : Cx) (W : WX) (e : Stmt) (g : SF) : Prop := PS X e (tS X.K X.mg W g)
abbrev ZB (X : Cx) (W : WX) (e : List Stmt) (g : SF) : Prop := PSs X e (tS X.K X.mg W g)

/-! ### the evaluator's parts -/
def eCon (d : D) : EF := fun _ m => .ok d m
def eVar (i : Nat) : EF := fun ρ m => match ρ[i]? with
  | some (some d) => .ok d m
  | _ => .bad
def aNil : AF := fun _ m => .ok [] m
def aCons (f : EF) (a : AF) : AF := fun ρ m => (f ρ m).bind fun d m1 => (a ρ m1).bind fun ds m2 => .ok (d :: ds) m2
abbrev line : Nat := 16777216
def eTup (a : AF) : EF := fun ρ m => (a ρ m).bind fun ds m1 => if ds.length ≤ line then .ok (.tup ds) m1 else .bad
def eLst (a : AF) : EF := fun ρ m => (a ρ m).bind fun ds m1 => if ds.length ≤ line then .ok (.ref m1.length) (m1 ++ [.lst ds]) else .bad
def eLstS (a : AF) : EF := fun ρ m => (a ρ m).bind fun ds m1 => if ds.length ≤ line then .ok (.sl ds) m1 else .bad
def eBin (g : D → D → M → R D) (f h : EF) : EF := fun ρ m => (f ρ m).bind fun x m1 => (h ρ m1).bind fun y m2 => g x y m2
def eUn (g : D → M → R D) (f : EF) : EF := fun ρ m => (f ρ m).bind fun x m1 => g x m1
def eBlt (g : List D → M → R D) (a : AF) : EF := fun ρ m => (a ρ m).bind fun ds m1 => g ds m1
def eMeth (g : D → List D → M → R D) (o : EF) (a : AF) : EF := fun ρ m => (o ρ m).bind fun x m1 => (a ρ m1).bind fun ds m2 => g x ds m2
def eIf (c : TF) (f h : EF) : EF := fun ρ m => (c ρ m).bind fun b m1 => if b = true then f ρ m1 else h ρ m1
def tVal (f : EF) : TF := fun ρ m => (f ρ m).bind fun d m1 => match d with
  | .bl b => .ok b m1
  | _ => .bad
/-- the truth of a value -/
def truth (m : M) : D → Option Bool
  | .non => some false
  | .bl b => some b
  | .int i => some (i != 0)
  | .str x => if x.length ≤ line then some ((x.length : Int) != 0) else none
  | .tup xs => some (!xs.isEmpty)
  | .fl xs => some (!xs.isEmpty)
  | .sl xs => some (!xs.isEmpty)
  | .kt xs => some (!xs.isEmpty)
  | .ref n => match m[n]? with
    | some (.lst xs) => some (!xs.isEmpty)
    | some (.dic kvs) => some (!kvs.isEmpty)
    | _ => none
  | _ => none
def tTru (f : EF) : TF := fun ρ m => (f ρ m).bind fun d m1 => match truth m1 d with
  | some b => .ok b m1
  | none => .bad
def tNotF (c : TF) : TF := fun ρ m => (c ρ m).bind fun b m1 => .ok (!b) m1
def tAndF (c d : TF) : TF := fun ρ m => (c ρ m).bind fun b m1 => if b = true then d ρ m1 else .ok false m1
def tOrF (c d : TF) : TF := fun ρ m => (c ρ m).bind fun b m1 => if b = true then .ok true m1 else d ρ m1
def eNot (f : EF) : EF := fun ρ m => (f ρ m).bind fun d m1 => match d with
  | .bl b => .ok (.bl (!b)) m1
  | _ => .bad
def eAnd (f h : EF) : EF := fun ρ m => (f ρ m).bind fun d m1 => match d with
  | .bl b => if b = true then h ρ m1 else .ok (.bl false) m1
  | _ => .bad
def eOr (f h : EF) : EF := fun ρ m => (f ρ m).bind fun d m1 => match d with
  | .bl b => if b = true then .ok (.bl true) m1 else h ρ m1
  | _ => .bad
/-- a chain of two comparisons -/
def eChain (g g' : D → D → M → R D) (f h k : EF) : EF := fun ρ m => (f ρ m).bind fun x m1 => (h ρ m1).bind fun y m2 => (g x y m2).bind fun z m3 => match z with
  | .bl b => if b = true then (k ρ m3).bind fun w m4 => g' y w m4 else .ok (.bl false) m3
  | _ => .bad

/-! ### their soundness -/
section
variable {X : Cx} {W : WX} {pos : Pos} {a b c : Expr} {f h k : EF}
theorem z_con {e : Expr} {v : V} {d : D} (he : PE X e (tC v)) (r : ∀ F ι H, Rep X.K (X.mg, F) ι H d v) : ZE X W e (eCon d) :=
  PE.imp he fun σ H Q ⟨F, ι, ρ, m, hρ, hm, hp⟩ => Post.okI hp hm (r F ι H)
theorem z_int {i : Int} {j : Nat} : ZE X W (.Constant (.int i) j pos) (eCon (.int i)) := z_con pe_int fun _ _ _ => .int i
theorem z_bl {i : Bool} {j : Nat} : ZE X W (.Constant (.bool i) j pos) (eCon (.bl i)) := z_con pe_bl fun _ _ _ => .bl i
theorem z_non {j : Nat} : ZE X W (.Constant .none j pos) (eCon .non) := z_con pe_non fun _ _ _ => .non
theorem z_str {x : Str} {j : Nat} : ZE X W (.Constant (.str x) j pos) (eCon (.str x)) := z_con pe_str fun _ _ _ => .str x
theorem z_vr {e : Expr} {i : Nat} (he : PE X e (tVar i)) : ZE X W e (eVar i) := by
  refine PE.imp he fun σ H Q ⟨F, ι, ρ, m, hρ, hm, hp⟩ => ?_
  unfold eVar at hp
  split at hp
  · rename_i d hd
    obtain ⟨v, h1, h2⟩ := hρ.2 i d hd
    exact ⟨v, h1, Post.okI hp hm h2⟩
  · exact hp.elim
theorem zv (i : Nat) {x : Str} (hN : X.N[i]? = some x := by rfl) (hv : Vis X.env.scope x := by first | exact Or.inl rfl | exact Or.inr (Or.inl rfl) | exact Or.inr (Or.inr rfl)) (hd : (x == ("__debug__" : Str)) = false := by decide)
    (hcd : (x == ("__classdict__" : Str)) = false := by decide) : ZE X W (.Name x pos) (eVar i) := z_vr (pe_var hN hv hd hcd)
/-- a def or a class as a value -/
theorem z_glo {x : Str} {A : Addr} (hg : Gl X x) (hm : X.mg x = some (.ref A)) (hd : (x == ("__debug__" : Str)) = false := by decide) : ZE X W (.Name x pos) (eCon (.glo x)) := z_con (pe_glob hg hm (v := .ref A) rfl hd) fun _ _ _ => .glo hm
/-- a constant of the module -/
def GCon (K : PySem.W.Frag) (mg : Str → Option Value) (x : Str) (d : D) : Prop := ∃ v u, mg x = some u ∧ RelV v u ∧ ∀ F ι H, Rep K (mg, F) ι H d v
theorem z_gcon {x : Str} {d : D} (hg : Gl X x) (hm : GCon X.K X.mg x d) (hd : (x == ("__debug__" : Str)) = false := by decide) : ZE X W (.Name x pos) (eCon d) := by
  obtain ⟨v, u, h1, h2, h3⟩ := hm
  exact z_con (pe_glob hg h1 h2 hd) h3

theorem za_nil : ZA X W [] aNil := PA.imp pa_nil fun σ H Q ⟨F, ι, ρ, m, hρ, hm, hp⟩ => Post.okI hp hm .nil
theorem za_cons {es : List Expr} {t : AF} (ha : ZE X W a f) (hr : ZA X W es t) (hs : starEach (a :: es) X.env = (false, eval a X.env) :: starEach es X.env := by rfl) : ZA X W (a :: es) (aCons f t) := by
  refine PA.imp (pa_cons ha hr hs) fun σ H Q ⟨F, ι, ρ, m, hρ, hm, hp⟩ => ⟨F, ι, ρ, m, hρ, hm, ?_⟩
  refine Post.seq hp fun d m1 ι1 H1 v _ e1 h1 r1 hp1 => ⟨F, ι1, ρ, m1, hρ.mono e1, h1, ?_⟩
  exact Post.seq hp1 fun ds m2 ι2 H2 vs _ e2 h2 r2 hp2 => Post.okI hp2 h2 (.cons (r1.mono e2) r2)
theorem line_eq : sizeLine = line := sizeLine_eq
theorem z_tup {es : List Expr} {t : AF} {x1 : Nat} (h : ZA X W es t) : ZE X W (.Tuple es x1 pos) (eTup t) := by
  refine PE.imp (pe_tup h) fun σ H Q ⟨F, ι, ρ, m, hρ, hm, hp⟩ => ⟨F, ι, ρ, m, hρ, hm, ?_⟩
  refine Post.seq hp fun ds m1 ι1 H1 vs _ e1 h1 r1 hp1 => ?_
  split at hp1
  · rename_i hl
    refine ⟨by rw [line_eq, ← r1.length]; exact hl, fun p hn => ?_⟩
    exact hp1 ι1 _ _ (Ext.side hn) (h1.side hn) (.tup upd_same (r1.mono (Ext.side hn)))
  · exact hp1.elim
theorem z_lst {es : List Expr} {t : AF} (h : ZA X W es t) : ZE X W (.List es pos) (eLst t) := by
  refine PE.imp (pe_lst h) fun σ H Q ⟨F, ι, ρ, m, hρ, hm, hp⟩ => ⟨F, ι, ρ, m, hρ, hm, ?_⟩
  refine Post.seq hp fun ds m1 ι1 H1 vs _ e1 h1 r1 hp1 => ?_
  split at hp1
  · rename_i hl
    refine ⟨by rw [line_eq, ← r1.length]; exact hl, fun p hn => ?_⟩
    refine hp1 (ι1 ++ [p]) _ _ (Ext.cell hn) (h1.cell hn (.lst upd_same (r1.mono (Ext.cell hn)))) (.ref ?_)
    rw [← h1.len]; simp
  · exact hp1.elim
/-- a list that nobody writes -/
theorem Post.newS {K : PySem.W.Frag} {mg : G} {ι : List Addr} {H : Hp} {m : M} {E : XK} {Q : VK} {xs : List D} {vs : List V} (hm : HR K mg ι H m) (r : RepL K mg ι H xs vs) (hp : Post K mg (relE K mg) E ι H Q (.ok (.sl xs) m)) {p : Addr} (hn : H p = none) : Q (.ref p) (upd H p (.lst vs)) :=
  hp ι _ _ (Ext.side hn) (hm.side hn) (.sl (fun hp => by
    rcases List.mem_append.mp hp with h1 | h1
    · obtain ⟨o, q⟩ := hm.mem h1
      rw [hn] at q
      cases q
    · exact hm.fd p h1 hn) upd_same (r.mono (Ext.side hn)))
theorem z_lstS {es : List Expr} {t : AF} (h : ZA X W es t) : ZE X W (.List es pos) (eLstS t) := by
  refine PE.imp (pe_lst h) fun σ H Q ⟨F, ι, ρ, m, hρ, hm, hp⟩ => ⟨F, ι, ρ, m, hρ, hm, ?_⟩
  refine Post.seq hp fun ds m1 ι1 H1 vs _ e1 h1 r1 hp1 => ?_
  split at hp1
  · rename_i hl
    exact ⟨by rw [line_eq, ← r1.length]; exact hl, fun p hn => hp1.newS h1 r1 hn⟩
  · exact hp1.elim
/-- an operation on two values -/
def Op2 (X : Cx) (r : R2) (g : D → D → M → R D) : Prop := ∀ (F : List Addr) (E : XK) (ι : List Addr) (H : Hp) (m : M) (x y : D) (v u : V) (Q : VK), HR X.K (X.mg, F) ι H m → Rep X.K (X.mg, F) ι H x v → Rep X.K (X.mg, F) ι H y u → Post X.K (X.mg, F) (relE X.K (X.mg, F)) E ι H Q (g x y m) → r v u H Q
theorem two {r : R2} {g : D → D → M → R D} (hz : Op2 X r g) {σ : L2.St} {H : Hp} {Q : VK} (q : tE X.K X.mg W (eBin g f h) σ H Q) : tOp r (tE X.K X.mg W f) (tE X.K X.mg W h) σ H Q := by
  obtain ⟨F, ι, ρ, m, hρ, hm, hp⟩ := q
  refine ⟨F, ι, ρ, m, hρ, hm, Post.seq hp fun d m1 ι1 H1 v _ e1 h1 r1 hp1 => ⟨F, ι1, ρ, m1, hρ.mono e1, h1, ?_⟩⟩
  exact Post.seq hp1 fun d2 m2 ι2 H2 v2 _ e2 h2 r2 hp2 => hz _ _ ι2 H2 m2 d d2 v v2 Q h2 (r1.mono e2) r2 hp2
theorem z_bin {op : Operator} {r : R2} {g : D → D → M → R D} (ho : OpR X (binaryOp op) r) (hz : Op2 X r g) (ha : ZE X W a f) (hb : ZE X W b h) : ZE X W (.BinOp a op b pos) (eBin g f h) :=
  PE.imp (pe_op ho ha hb) fun σ H Q q => two hz q
theorem z_cmp {op : CmpOp} {r : R2} {g : D → D → M → R D} (ho : OpR X (compareOp op) r) (hz : Op2 X r g) (ha : ZE X W a f) (hb : ZE X W b h) (hm : behindInMarks op b = false) : ZE X W (.Compare a [op] [b] pos) (eBin g f h) :=
  PE.imp (pe_cmpR ho ha hb hm) fun σ H Q q => two hz q
theorem zt_cmp {op : CmpOp} {r : R2} {g : D → D → M → R D} (ho : OpR X (compareOp op) r) (hz : Op2 X r g) (ha : ZE X W a f) (hb : ZE X W b h) (hm : behindInMarks op b = false) : ZT X W (.Compare a [op] [b] pos) (tVal (eBin g f h)) := by
  refine PT.imp (pt_cmpR ho ha hb hm) fun σ H Q ⟨F, ι, ρ, m, hρ, hm, hp⟩ => ?_
  show tOp r (tE X.K X.mg W f) (tE X.K X.mg W h) σ H (fun x H' => ∃ k, x = .bl k ∧ Q k H')
  refine two hz ⟨F, ι, ρ, m, hρ, hm, Post.seq hp fun d m1 ι1 H1 v _ e1 h1 r1 hp1 => ?_⟩
  cases r1 with
  | bl z => exact ⟨z, rfl, Post.okI hp1 h1 rfl⟩
  | _ => exact hp1.elim
theorem z_un {op : UnaryOp} {r : V → Hp → VK → Prop} {g : D → M → R D} (ho : UnR X (unaryOp op) r)
    (hz : ∀ (F : List Addr) (E : XK) (ι : List Addr) (H : Hp) (m : M) (x : D) (v : V) (Q : VK), HR X.K (X.mg, F) ι H m → Rep X.K (X.mg, F) ι H x v → Post X.K (X.mg, F) (relE X.K (X.mg, F)) E ι H Q (g x m) → r v H Q) (ha : ZE X W a f) : ZE X W (.UnaryOp op a pos) (eUn g f) := by
  refine PE.imp (pe_un ho ha) fun σ H Q ⟨F, ι, ρ, m, hρ, hm, hp⟩ => ⟨F, ι, ρ, m, hρ, hm, ?_⟩
  exact Post.seq hp fun d m1 ι1 H1 v _ e1 h1 r1 hp1 => hz _ _ ι1 H1 m1 d v Q h1 r1 hp1
/-- a built-in on values -/
def OpL (X : Cx) (r : List V → Hp → VK → Prop) (g : List D → M → R D) : Prop := ∀ (F : List Addr) (E : XK) (ι : List Addr) (H : Hp) (m : M) (xs : List D) (vs : List V) (Q : VK), HR X.K (X.mg, F) ι H m → RepL X.K (X.mg, F) ι H xs vs → Post X.K (X.mg, F) (relE X.K (X.mg, F)) E ι H Q (g xs m) → r vs H Q
theorem lotE {r : List V → Hp → VK → Prop} {g : List D → M → R D} {t : AF} (hz : OpL X r g) {σ : L2.St} {H : Hp} {Q : VK} (q : tE X.K X.mg W (eBlt g t) σ H Q) : tCB r (tA X.K X.mg W t) σ H Q := by
  obtain ⟨F, ι, ρ, m, hρ, hm, hp⟩ := q
  exact ⟨F, ι, ρ, m, hρ, hm, Post.seq hp fun d m1 ι1 H1 v _ e1 h1 r1 hp1 => hz _ _ ι1 H1 m1 d v Q h1 r1 hp1⟩
theorem z_blt {x : Str} {id : String} {r : List V → Hp → VK → Prop} {g : List D → M → R D} {t : AF} {e : Expr} {es : List Expr} {p : Pos} (hc : CallR X (.builtin id) r) (hz : OpL X r g) (hg : Gl X x) (hm : X.mg x = none) (hv : bootBuiltins x = some (.builtin id)) (ha : ZA X W (e :: es) t)
    (hn : x ≠ "__name__" := by decide) (hdb : (x == ("__debug__" : Str)) = false := by decide)
    (he : starEach (e :: es) X.env = (false, eval e X.env) :: starEach es X.env := by rfl) (hpl : (backTo pos (starEach es X.env)).any (·.1) = false := by rfl) : ZE X W (.Call (.Name x p) (e :: es) [] pos) (eBlt g t) :=
  PE.imp (pe_callB hc hg hm hv ha hn hdb he hpl) fun σ H Q q => lotE hz q
theorem z_bty {x : Str} {T : String} {r : List V → Hp → VK → Prop} {g : List D → M → R D} {t : AF} {e : Expr} {es : List Expr} {p : Pos} (hc : CallR X (.type T) r) (hz : OpL X r g) (hg : Gl X x) (hm : X.mg x = none) (hv : bootBuiltins x = some (.type T)) (ha : ZA X W (e :: es) t)
    (hn : x ≠ "__name__" := by decide) (hdb : (x == ("__debug__" : Str)) = false := by decide)
    (he : starEach (e :: es) X.env = (false, eval e X.env) :: starEach es X.env := by rfl) (hpl : (backTo pos (starEach es X.env)).any (·.1) = false := by rfl) : ZE X W (.Call (.Name x p) (e :: es) [] pos) (eBlt g t) :=
  PE.imp (pe_callTy hc hg hm hv ha hn hdb he hpl) fun σ H Q q => lotE hz q
theorem z_if {c : Expr} {tc : TF} (hc : ZT X W c tc) (ha : ZE X W a f) (hb : ZE X W b h) : ZE X W (.IfExp c a b pos) (eIf tc f h) := by
  refine PE.imp (pe_ifExp hc ha hb) fun σ H Q ⟨F, ι, ρ, m, hρ, hm, hp⟩ => ⟨F, ι, ρ, m, hρ, hm, ?_⟩
  refine Post.seq hp fun d m1 ι1 H1 v _ e1 h1 r1 hp1 => ?_
  cases r1
  cases d with
  | true => exact iteT ⟨F, ι1, ρ, m1, hρ.mono e1, h1, hp1⟩
  | false => exact iteF ⟨F, ι1, ρ, m1, hρ.mono e1, h1, hp1⟩
theorem z_not (ha : ZE X W a f) : ZE X W (.UnaryOp .Not a pos) (eNot f) := by
  refine PE.imp (pe_not ha) fun σ H Q ⟨F, ι, ρ, m, hρ, hm, hp⟩ => ⟨F, ι, ρ, m, hρ, hm, ?_⟩
  refine Post.seq hp fun d m1 ι1 H1 v _ e1 h1 r1 hp1 => ?_
  cases r1 with
  | bl z => exact ⟨z, rfl, Post.okI hp1 h1 (.bl _)⟩
  | _ => exact hp1.elim
theorem z_one {op : BoolOp} (ha : ZE X W a f) : ZE X W (.BoolOp op [a] pos) f := pe_one ha
theorem z_and {rest : List Expr} (ha : ZE X W a f) (hb : ZE X W (.BoolOp .And (b :: rest) pos) h) : ZE X W (.BoolOp .And (a :: b :: rest) pos) (eAnd f h) := by
  refine PE.imp (pe_and ha hb) fun σ H Q ⟨F, ι, ρ, m, hρ, hm, hp⟩ => ⟨F, ι, ρ, m, hρ, hm, ?_⟩
  refine Post.seq hp fun d m1 ι1 H1 v _ e1 h1 r1 hp1 => ?_
  cases r1 with
  | bl z =>
    refine ⟨z, rfl, ?_⟩
    cases z with
    | true => exact iteT ⟨F, ι1, ρ, m1, hρ.mono e1, h1, hp1⟩
    | false => exact iteF (Post.okI hp1 h1 (.bl _))
  | _ => exact hp1.elim
theorem z_or {rest : List Expr} (ha : ZE X W a f) (hb : ZE X W (.BoolOp .Or (b :: rest) pos) h) : ZE X W (.BoolOp .Or (a :: b :: rest) pos) (eOr f h) := by
  refine PE.imp (pe_or ha hb) fun σ H Q ⟨F, ι, ρ, m, hρ, hm, hp⟩ => ⟨F, ι, ρ, m, hρ, hm, ?_⟩
  refine Post.seq hp fun d m1 ι1 H1 v _ e1 h1 r1 hp1 => ?_
  cases r1 with
  | bl z =>
    refine ⟨z, rfl, ?_⟩
    cases z with
    | true => exact iteT (Post.okI hp1 h1 (.bl _))
    | false => exact iteF ⟨F, ι1, ρ, m1, hρ.mono e1, h1, hp1⟩
  | _ => exact hp1.elim
theorem z_chain {op op' : CmpOp} {r r' : R2} {g g' : D → D → M → R D} (ho : OpR X (compareOp op) r) (hz : Op2 X r g) (ho' : OpR X (compareOp op') r') (hz' : Op2 X r' g') (ha : ZE X W a f) (hb : ZE X W b h) (hc : ZE X W c k)
    (hm : lastMarks [op, op'] [b, c] = false := by with_unfolding_all rfl) : ZE X W (.Compare a [op, op'] [b, c] pos) (eChain g g' f h k) := by
  refine PE.imp (pe_chain ho ho' ha hb hc hm) fun σ H Q ⟨F, ι, ρ, m, hρ, hm, hp⟩ => ⟨F, ι, ρ, m, hρ, hm, ?_⟩
  refine Post.seq hp fun d m1 ι1 H1 v _ e1 h1 r1 hp1 => ⟨F, ι1, ρ, m1, hρ.mono e1, h1, ?_⟩
  refine Post.seq hp1 fun d2 m2 ι2 H2 v2 _ e2 h2 r2 hp2 => ?_
  refine hz _ _ ι2 H2 m2 d d2 v v2 _ h2 (r1.mono e2) r2 (Post.seq hp2 fun d3 m3 ι3 H3 v3 _ e3 h3 r3 hp3 => ?_)
  cases r3 with
  | bl z =>
    refine ⟨z, rfl, ?_⟩
    cases z with
    | true =>
      refine iteT ⟨F, ι3, ρ, m3, ((hρ.mono e1).mono e2).mono e3, h3, ?_⟩
      exact Post.seq hp3 fun d4 m4 ι4 H4 v4 _ e4 h4 r4 hp4 => hz' _ _ ι4 H4 m4 d2 d4 v2 v4 Q h4 ((r2.mono e3).mono e4) r4 hp4
    | false => exact iteF (Post.okI hp3 h3 (.bl _))
  | _ => exact hp3.elim
theorem zt_chain {op op' : CmpOp} {r r' : R2} {g g' : D → D → M → R D} (ho : OpR X (compareOp op) r) (hz : Op2 X r g) (ho' : OpR X (compareOp op') r') (hz' : Op2 X r' g') (ha : ZE X W a f) (hb : ZE X W b h) (hc : ZE X W c k)
    (hm : lastMarks [op, op'] [b, c] = false := by with_unfolding_all rfl) : ZT X W (.Compare a [op, op'] [b, c] pos) (tVal (eChain g g' f h k)) := by
  refine PT.imp (pt_chain ho ho' ha hb hc hm) fun σ H Q ⟨F, ι, ρ, m, hρ, hm, hp⟩ => ⟨F, ι, ρ, m, hρ, hm, ?_⟩
  unfold tVal eChain at hp
  have fin : ∀ {ι' H' m' d' v'} , HR X.K (X.mg, F) ι' H' m' → Rep X.K (X.mg, F) ι' H' d' v' → Post X.K (X.mg, F) relT (fun c d H' => W c d σ H') ι' H' Q (match d' with | .bl b => (.ok b m' : R Bool) | _ => .bad) → ∃ k, v' = .bl k ∧ Q k H' := by
    intro ι' H' m' d' v' h1 r1 hp1
    cases r1 with
    | bl z => exact ⟨z, rfl, Post.okI hp1 h1 rfl⟩
    | _ => exact hp1.elim
  have assoc : ∀ {α β γ : Type} (r : R α) (f : α → M → R β) (g : β → M → R γ), (r.bind f).bind g = r.bind fun a m => (f a m).bind g := by
    intro α β γ r f g
    cases r <;> rfl
  rw [assoc] at hp
  refine Post.seq hp fun d m1 ι1 H1 v _ e1 h1 r1 hp1 => ⟨F, ι1, ρ, m1, hρ.mono e1, h1, ?_⟩
  rw [assoc] at hp1
  refine Post.seq hp1 fun d2 m2 ι2 H2 v2 _ e2 h2 r2 hp2 => ?_
  rw [assoc] at hp2
  refine hz _ _ ι2 H2 m2 d d2 v v2 _ h2 (r1.mono e2) r2 (Post.seq hp2 fun d3 m3 ι3 H3 v3 _ e3 h3 r3 hp3 => ?_)
  cases r3 with
  | bl z =>
    refine ⟨z, rfl, ?_⟩
    cases z with
    | true =>
      refine iteT ⟨F, ι3, ρ, m3, ((hρ.mono e1).mono e2).mono e3, h3, ?_⟩
      have hp3' : Post X.K (X.mg, F) relT (fun c d H' => W c d σ H') ι3 H3 Q (((k ρ m3).bind fun w m4 => g' d2 w m4).bind fun d m1 => match d with | .bl b => (.ok b m1 : R Bool) | _ => .bad) := hp3
      rw [assoc] at hp3'
      exact Post.seq hp3' fun d4 m4 ι4 H4 v4 _ e4 h4 r4 hp4 => hz' _ _ ι4 H4 m4 d2 d4 v2 v4 _ h4 ((r2.mono e3).mono e4) r4 (Post.seq hp4 fun d5 m5 ι5 H5 v5 _ e5 h5 r5 hp5 => fin h5 r5 hp5)
    | false => exact iteF ⟨false, rfl, Post.okI (show Post X.K (X.mg, F) relT (fun c d H' => W c d σ H') ι3 H3 Q (.ok false m3) from hp3) h3 rfl⟩
  | _ => exact hp3.elim
/-! tests -/
theorem zt_val (ha : ZE X W a f) (he : ∀ whole, isTrue a X.env whole = (do let v ← whole; standAt a.pos; holding [v] (truthy v)) := by intro _; rfl) : ZT X W a (tVal f) := by
  refine PT.imp (pt_val ha he) fun σ H Q ⟨F, ι, ρ, m, hρ, hm, hp⟩ => ⟨F, ι, ρ, m, hρ, hm, ?_⟩
  refine Post.seq hp fun d m1 ι1 H1 v _ e1 h1 r1 hp1 => ?_
  cases r1 with
  | bl z => exact ⟨z, rfl, Post.okI hp1 h1 rfl⟩
  | _ => exact hp1.elim
theorem zt_not {c : TF} (ha : ZT X W a c) : ZT X W (.UnaryOp .Not a pos) (tNotF c) := by
  refine PT.imp (pt_not ha) fun σ H Q ⟨F, ι, ρ, m, hρ, hm, hp⟩ => ⟨F, ι, ρ, m, hρ, hm, ?_⟩
  refine Post.seq hp fun d m1 ι1 H1 v _ e1 h1 r1 hp1 => ?_
  cases r1
  exact Post.okI hp1 h1 rfl
end
end Z

namespace Z
open PySem PySem.Spec PyProof.Rows L2

/-! ### tests: and, or, truth -/
abbrev ZW (X : Cx) (W : WX) (e : Expr) (f : TF) : Prop := PW X e (tT X.K X.mg W f)
def PW.imp {X : Cx} {e : Expr} {t t' : TT} (h : PW X e t) (i : ∀ σ H Q, t' σ H Q → t σ H Q) : PW X e t' := ⟨fun wh pins s σ H Q I q => h.run wh pins s σ H Q I (i _ _ _ q)⟩
section
variable {X : Cx} {W : WX} {pos : Pos} {a b : Expr} {c d : TF}
theorem zw_and1 (ha : ZT X W a c) : ZW X W (.BoolOp .And [a] pos) c := pw_and1 ha
theorem zw_or1 (ha : ZT X W a c) : ZW X W (.BoolOp .Or [a] pos) c := pw_or1 ha
theorem zw_and {rest : List Expr} (ha : ZT X W a c) (hb : ZW X W (.BoolOp .And (b :: rest) pos) d) : ZW X W (.BoolOp .And (a :: b :: rest) pos) (tAndF c d) := by
  refine PW.imp (pw_and ha hb) fun σ H Q ⟨F, ι, ρ, m, hρ, hm, hp⟩ => ⟨F, ι, ρ, m, hρ, hm, ?_⟩
  refine Post.seq hp fun e m1 ι1 H1 v _ e1 h1 r1 hp1 => ?_
  cases r1
  cases e with
  | true => exact iteT ⟨F, ι1, ρ, m1, hρ.mono e1, h1, hp1⟩
  | false => exact iteF (Post.okI hp1 h1 rfl)
theorem zw_or {rest : List Expr} (ha : ZT X W a c) (hb : ZW X W (.BoolOp .Or (b :: rest) pos) d) : ZW X W (.BoolOp .Or (a :: b :: rest) pos) (tOrF c d) := by
  refine PW.imp (pw_or ha hb) fun σ H Q ⟨F, ι, ρ, m, hρ, hm, hp⟩ => ⟨F, ι, ρ, m, hρ, hm, ?_⟩
  refine Post.seq hp fun e m1 ι1 H1 v _ e1 h1 r1 hp1 => ?_
  cases r1
  cases e with
  | true => exact iteT (Post.okI hp1 h1 rfl)
  | false => exact iteF ⟨F, ι1, ρ, m1, hρ.mono e1, h1, hp1⟩
theorem zt_w (h : ZW X W a c) : ZT X W a c := h.pt
end

/-! ### statements -/
def R.stm {α : Type} (r : R α) (ρ : Rho) (k : α → M → Option (Fl × M)) : Option (Fl × M) := match r with
  | .ok a m => k a m
  | .err x m => some (.er x ρ, m)
  | .bad => none
section
variable {K : PySem.W.Frag} {mg : G} {α β : Type} {rel : Relt α β} {W : WX} {ι : List Addr} {H : Hp}
theorem Post.stm {D : Ends} {ρ : Rho} {σ : L2.St} {Q1 : β → Hp → Prop} {r : R α} {k : α → M → Option (Fl × M)} (h : PostS K mg W D ι H (r.stm ρ k)) (hρ : EnvR K mg ι H ρ σ)
    (hk : ∀ a m ι1 H1 b, r = .ok a m → Ext ι H ι1 H1 → HR K mg ι1 H1 m → rel ι1 H1 a b → PostS K mg W D ι1 H1 (k a m) → Q1 b H1) : Post K mg rel (fun c d H' => W c d σ H') ι H Q1 r := by
  cases r with
  | ok a m =>
    intro ι1 H1 b e h1 h2
    exact hk a m ι1 H1 b rfl e h1 h2 (PostS.shift e h)
  | err x m => exact fun ι' H' cls dd e h1 h2 => h ι' H' σ cls dd e h1 (hρ.mono e) h2
  | bad => exact h
end
def sSet (i : Nat) (f : EF) : SF := fun ρ m => (f ρ m).stm ρ fun d m1 => some (.nx (ρ.set i (some d)), m1)
def sExpr (f : EF) : SF := fun ρ m => (f ρ m).stm ρ fun _ m1 => some (.nx ρ, m1)
def sRet (f : EF) : SF := fun ρ m => (f ρ m).stm ρ fun d m1 => some (.rt d, m1)
def sRetN : SF := fun _ m => some (.rt .non, m)
def sIf (c : TF) (g h : SF) : SF := fun ρ m => (c ρ m).stm ρ fun b m1 => if b = true then g ρ m1 else h ρ m1
def sNil : SF := fun ρ m => some (.nx ρ, m)
def sBrk : SF := fun ρ m => some (.bk ρ, m)
def sCnt : SF := fun ρ m => some (.ct ρ, m)
def sSeq (g h : SF) : SF := fun ρ m => match g ρ m with
  | some (.nx ρ1, m1) => h ρ1 m1
  | r => r
section
variable {X : Cx} {W : WX} {pos : Pos} {e : Expr} {f : EF} {g h : SF} {st : Stmt} {sts : List Stmt}
theorem z_set {i : Nat} {x : Str} {pos' : Pos} (hN : X.N.Nodup) (hi : X.N[i]? = some x) (hx : Loc X.env.scope x) (he : ZE X W e f) (hs : swapsWith e (some (.Name x pos')) pos.line X.env = pure false := by rfl) (hf : X.fn x = true ∨ X.env.scope.names.lookup x = some .local := by first | exact .inl rfl | exact .inr rfl | assumption) :
    ZS X W (.Assign [.Name x pos'] e pos) (sSet i f) := by
  refine PS.imp (ps_set hN hi hx he hs hf) fun D σ H ⟨F, ι, ρ, m, hρ, hm, hp⟩ => ⟨F, ι, ρ, m, hρ, hm, ?_⟩
  exact Post.stm hp hρ fun d m1 ι1 H1 v _ e1 h1 r1 hp1 => hp1 ι1 H1 _ .refl h1 ((hρ.mono e1).set i r1)
theorem z_expr (he : ZE X W e f) (hs : swapsWith e none pos.line X.env = pure false := by rfl) : ZS X W (.Expr e pos) (sExpr f) := by
  refine PS.imp (ps_expr he hs) fun D σ H ⟨F, ι, ρ, m, hρ, hm, hp⟩ => ⟨F, ι, ρ, m, hρ, hm, ?_⟩
  exact Post.stm hp hρ fun d m1 ι1 H1 v _ e1 h1 r1 hp1 => hp1 ι1 H1 _ .refl h1 (hρ.mono e1)
theorem z_ret (he : ZE X W e f) : ZS X W (.Return (some e) pos) (sRet f) := by
  refine PS.imp (ps_ret he) fun D σ H ⟨F, ι, ρ, m, hρ, hm, hp⟩ => ⟨F, ι, ρ, m, hρ, hm, ?_⟩
  exact Post.stm hp hρ fun d m1 ι1 H1 v _ e1 h1 r1 hp1 => hp1 ι1 H1 _ .refl h1 r1
theorem z_retN : ZS X W (.Return none pos) sRetN := PS.imp ps_retN fun D σ H ⟨F, ι, ρ, m, hρ, hm, hp⟩ => hp ι H _ .refl hm .non
theorem z_sif {c : Expr} {tc : TF} {sa sb : List Stmt} (hc : ZT X W c tc) (ha : ZB X W sa g) (hb : ZB X W sb h) : ZS X W (.If c sa sb pos) (sIf tc g h) := by
  refine PS.imp (ps_if hc ha hb) fun D σ H ⟨F, ι, ρ, m, hρ, hm, hp⟩ => ⟨F, ι, ρ, m, hρ, hm, ?_⟩
  refine Post.stm hp hρ fun d m1 ι1 H1 v _ e1 h1 r1 hp1 => ?_
  cases r1
  cases d with
  | true => exact iteT ⟨F, ι1, ρ, m1, hρ.mono e1, h1, hp1⟩
  | false => exact iteF ⟨F, ι1, ρ, m1, hρ.mono e1, h1, hp1⟩
theorem z_pass : ZS X W (.Pass pos) sNil := PS.imp ps_pass fun D σ H ⟨F, ι, ρ, m, hρ, hm, hp⟩ => hp ι H _ .refl hm hρ
theorem z_brk : ZS X W (.Break pos) sBrk := PS.imp ps_break fun D σ H ⟨F, ι, ρ, m, hρ, hm, hp⟩ => hp ι H _ .refl hm hρ
theorem z_cnt : ZS X W (.Continue pos) sCnt := PS.imp ps_continue fun D σ H ⟨F, ι, ρ, m, hρ, hm, hp⟩ => hp ι H _ .refl hm hρ
theorem zs_nil : ZB X W [] sNil := PSs.imp pss_nil fun D σ H ⟨F, ι, ρ, m, hρ, hm, hp⟩ => hp ι H _ .refl hm hρ
theorem zs_one (h1 : ZS X W st g) : ZB X W [st] g := pss_one h1
theorem PostS.seq {K : PySem.W.Frag} {mg : G} {D : Ends} {ι : List Addr} {H : Hp} {g h : SF} {ρ : Rho} {m : M} (hp : PostS K mg W D ι H (sSeq g h ρ m)) : PostS K mg W { D with nx := tS K mg.1 W h D } ι H (g ρ m) := by
  unfold sSeq at hp
  match q : g ρ m with
  | none => rw [q] at hp; exact hp
  | some (.nx ρ1, m1) =>
    rw [q] at hp
    exact fun ι' H' σ' e1 h1 h2 => ⟨mg.2, ι', ρ1, m1, h2, h1, PostS.shift e1 hp⟩
  | some (.rt d, m1) => rw [q] at hp; exact hp
  | some (.bk ρ1, m1) => rw [q] at hp; exact hp
  | some (.ct ρ1, m1) => rw [q] at hp; exact hp
  | some (.er x ρ1, m1) => rw [q] at hp; exact hp
theorem zs_cons (h1 : ZS X W st g) (h2 : ZB X W sts h) : ZB X W (st :: sts) (sSeq g h) :=
  PSs.imp (pss_cons h1 h2) fun D σ H ⟨F, ι, ρ, m, hρ, hm, hp⟩ => ⟨F, ι, ρ, m, hρ, hm, hp.seq⟩
end

/-! ### targets -/
abbrev GF := D → Rho → M → Option (Rho × M)
abbrev GFs := List D → Rho → M → Option (Rho × M)
section
variable (K : PySem.W.Frag) (mg : G)
def PostG (ι : List Addr) (H : Hp) (Q : L2.St → Hp → Prop) : Option (Rho × M) → Prop
  | none => False
  | some (ρ, m) => ∀ ι' H' σ', Ext ι H ι' H' → HR K mg ι' H' m → EnvR K mg ι' H' ρ σ' → Q σ' H'
end
section
variable (K : PySem.W.Frag) (mg : Str → Option Value)
def tG (g : GF) : TG := fun v σ H Q => ∃ F ι ρ m d, EnvR K (mg, F) ι H ρ σ ∧ HR K (mg, F) ι H m ∧ Rep K (mg, F) ι H d v ∧ PostG K (mg, F) ι H Q (g d ρ m)
def tGs (g : GFs) : TGs := fun vs σ H Q => ∃ F ι ρ m ds, EnvR K (mg, F) ι H ρ σ ∧ HR K (mg, F) ι H m ∧ RepL K (mg, F) ι H ds vs ∧ PostG K (mg, F) ι H Q (g ds ρ m)
end
theorem PostG.shift {K : PySem.W.Frag} {mg : G} {ι ι' : List Addr} {H H' : Hp} {Q : L2.St → Hp → Prop} (e : Ext ι H ι' H') : ∀ {r : Option (Rho × M)}, PostG K mg ι H Q r → PostG K mg ι' H' Q r
  | none, h => h
  | some (ρ, m), h => fun a b c d => h a b c (e.trans d)
abbrev ZG (X : Cx) (e : Expr) (g : GF) : Prop := PG X e (tG X.K X.mg g)
abbrev ZGs (X : Cx) (e : List Expr) (g : GFs) : Prop := PGs X e (tGs X.K X.mg g)
def PG.imp {X : Cx} {e : Expr} {t t' : TG} (h : PG X e t) (i : ∀ v σ H Q, t' v σ H Q → t v σ H Q) : PG X e t' := ⟨fun pins s σ H v u Q I r q => h.run pins s σ H v u Q I r (i _ _ _ _ q)⟩
def PGs.imp {X : Cx} {e : List Expr} {t t' : TGs} (h : PGs X e t) (i : ∀ v σ H Q, t' v σ H Q → t v σ H Q) : PGs X e t' := ⟨fun pins s σ H v u Q I r q => h.run pins s σ H v u Q I r (i _ _ _ _ q)⟩
def gNm (i : Nat) : GF := fun d ρ m => some (ρ.set i (some d), m)
def gsNil : GFs := fun ds ρ m => match ds with
  | [] => some (ρ, m)
  | _ => none
def gsCons (g : GF) (h : GFs) : GFs := fun ds ρ m => match ds with
  | d :: r => (g d ρ m).bind fun p => h r p.1 p.2
  | [] => none
def gTp (n : Nat) (g : GFs) : GF := fun d ρ m => match d with
  | .tup ds => if ds.length = n then g ds ρ m else none
  | _ => none
section
variable {X : Cx} {pos : Pos}
theorem zg_name {i : Nat} {x : Str} (hN : X.N.Nodup) (hi : X.N[i]? = some x) (hx : Loc X.env.scope x) (hf : X.fn x = true ∨ X.env.scope.names.lookup x = some .local := by first | exact .inl rfl | exact .inr rfl | assumption) : ZG X (.Name x pos) (gNm i) :=
  PG.imp (pg_name hN hi hx hf) fun v σ H Q ⟨F, ι, ρ, m, d, hρ, hm, hd, hp⟩ => hp ι H _ .refl hm (hρ.set i hd)
theorem zgs_nil : ZGs X [] gsNil := PGs.imp pgs_nil fun vs σ H Q ⟨F, ι, ρ, m, ds, hρ, hm, hd, hp⟩ => by
  cases hd with
  | nil => exact ⟨rfl, hp ι H _ .refl hm hρ⟩
  | cons _ _ => exact hp.elim
theorem zgs_cons {e : Expr} {es : List Expr} {g : GF} {u : GFs} (h1 : ZG X e g) (h2 : ZGs X es u)
    (hs : (assignEach (e :: es) X.env).map (·.2) = assign e X.env :: (assignEach es X.env).map (·.2) := by rfl) : ZGs X (e :: es) (gsCons g u) := PGs.imp (pgs_cons h1 h2 hs) fun vs σ H Q ⟨F, ι, ρ, m, ds, hρ, hm, hd, hp⟩ => by
  cases hd with
  | nil => exact hp.elim
  | @cons d v ds vs r rs =>
    refine ⟨v, vs, rfl, F, ι, ρ, m, d, hρ, hm, r, ?_⟩
    have hp : PostG X.K (X.mg, F) ι H Q ((g d ρ m).bind fun p => u ds p.1 p.2) := hp
    cases q : g d ρ m with
    | none => rw [q] at hp; exact hp
    | some p =>
      rw [q] at hp
      exact fun ι' H' σ' e h1 h2 => ⟨F, ι', p.1, p.2, ds, h2, h1, rs.mono e, PostG.shift e hp⟩
theorem zg_tup {es : List Expr} {k : Nat} {g : GFs} {n : Nat} (hc : X.calm = true) (h : ZGs X es g)
    (hn : (assignEach es X.env).length = n := by rfl) (hst : (assignEach es X.env).findIdx? (·.1) = none := by rfl) : ZG X (.Tuple es k pos) (gTp n g) := PG.imp (pg_tup hc h hn hst) fun v σ H Q ⟨F, ι, ρ, m, d, hρ, hm, hd, hp⟩ => by
  cases hd with
  | tup hs hr =>
    have hp : PostG X.K (X.mg, F) ι H Q (if _ = n then _ else none) := hp
    split at hp
    · rename_i hl
      exact ⟨_, _, rfl, .of hs, by rw [← hr.length]; exact hl, F, ι, ρ, m, _, hρ, hm, hr, hp⟩
    · exact hp.elim
  | _ => exact hp.elim
end
def sAsg (f : EF) (g : GF) : SF := fun ρ m => (f ρ m).stm ρ fun d m1 => match g d ρ m1 with
  | some (ρ', m') => some (.nx ρ', m')
  | none => none
theorem z_asg {X : Cx} {W : WX} {tg e : Expr} {f : EF} {g : GF} {pos : Pos} (he : ZE X W e f) (hg : ZG X tg g) (hs : swapsWithSole [tg] e pos.line X.env = pure false := by rfl) (hw : swappedStores [tg] e X.env = pure none := by rfl)
    (h1 : (assignEach [tg] X.env).map (·.2) = [assign tg X.env] := by rfl) : ZS X W (.Assign [tg] e pos) (sAsg f g) := by
  refine PS.imp (ps_asg he hg hs hw h1) fun D σ H ⟨F, ι, ρ, m, hρ, hm, hp⟩ => ⟨F, ι, ρ, m, hρ, hm, ?_⟩
  refine Post.stm hp hρ fun d m1 ι1 H1 v _ e1 h1 r1 hp1 => ⟨F, ι1, ρ, m1, d, hρ.mono e1, h1, r1, ?_⟩
  cases q : g d ρ m1 with
  | none => rw [q] at hp1; exact hp1
  | some p => rw [q] at hp1; exact hp1
def sPar (i j : Nat) (a : AF) : SF := fun ρ m => (a ρ m).stm ρ fun ds m1 => match ds with
  | [x, y] => some (.nx ((ρ.set i (some x)).set j (some y)), m1)
  | _ => none
theorem z_par {X : Cx} {W : WX} {pos : Pos} {i j : Nat} {x y : Str} {a b : Expr} {ta : AF} {px py pt : Pos} {kt k2 pt2} (hc : X.calm = true) (hN : X.N.Nodup) (hi : X.N[i]? = some x) (hj : X.N[j]? = some y) (hij : i ≠ j)
    (hx : X.env.scope.names.lookup x = some .local) (hy : X.env.scope.names.lookup y = some .local) (ha : ZA X W [a, b] ta)
    (hw : swappedStores [.Tuple [.Name x px, .Name y py] kt pt] (.Tuple [a, b] k2 pt2) X.env = pure (some [x, y]))
    (hs : swapsWithSole [.Tuple [.Name x px, .Name y py] kt pt] (.Tuple [a, b] k2 pt2) pos.line X.env = pure false := by rfl) :
    ZS X W (.Assign [.Tuple [.Name x px, .Name y py] kt pt] (.Tuple [a, b] k2 pt2) pos) (sPar i j ta) := by
  refine PS.imp (ps_par hc hN hi hj hij hx hy ha hw hs) fun D σ H ⟨F, ι, ρ, m, hρ, hm, hp⟩ => ⟨F, ι, ρ, m, hρ, hm, ?_⟩
  refine Post.stm hp hρ fun ds m1 ι1 H1 vs _ e1 h1 r1 hp1 => ?_
  match ds, vs, r1, hp1 with
  | [x, y], [v, w], .cons rx (.cons ry .nil), hp1 => exact ⟨v, w, rfl, hp1 ι1 H1 _ .refl h1 (((hρ.mono e1).set i rx).set j ry)⟩
def sAug (i : Nat) (g : D → D → M → R D) (f : EF) : SF := fun ρ m => match ρ[i]? with
  | some (some x) => (f ρ m).stm ρ fun y m1 => (g x y m1).stm ρ fun z m2 => some (.nx (ρ.set i (some z)), m2)
  | _ => none
theorem z_aug {X : Cx} {W : WX} {pos : Pos} {i : Nat} {x : Str} {e : Expr} {f : EF} {op : Operator} {r : R2} {g : D → D → M → R D} {pos' : Pos} (hN : X.N.Nodup) (hi : X.N[i]? = some x) (hx : Loc X.env.scope x) (he : ZE X W e f) (ho : OpR X (inplaceOp op) r) (hz : Op2 X r g)
    (hf : X.fn x = true ∨ X.env.scope.names.lookup x = some .local := by first | exact .inl rfl | exact .inr rfl | assumption) : ZS X W (.AugAssign (.Name x pos') op e pos) (sAug i g f) := by
  have ho' : PIp X op r := fun pins s σ H x y v u Q I rx ry q => ho pins s σ H x y v u Q I rx ry q
  refine PS.imp (ps_aug hN hi hx he ho' hf) fun D σ H ⟨F, ι, ρ, m, hρ, hm, hp⟩ => ?_
  unfold sAug at hp
  split at hp
  · rename_i d hd
    obtain ⟨v, hv, rv⟩ := hρ.2 i d hd
    refine ⟨v, hv, F, ι, ρ, m, hρ, hm, ?_⟩
    refine Post.stm hp hρ fun y m1 ι1 H1 vy _ e1 h1 r1 hp1 => ?_
    refine hz F (fun c d H' => W c d σ H') ι1 H1 m1 d y v vy _ h1 (rv.mono e1) r1 ?_
    exact Post.stm hp1 (hρ.mono e1) fun z m2 ι2 H2 vz _ e2 h2 r2 hp2 => hp2 ι2 H2 _ .refl h2 (((hρ.mono e1).mono e2).set i r2)
  · exact hp.elim

/-! ### loops -/
/-- what a loop walks: how many turns at most, the item at turn i -/
structure Itz where
  fuel : Nat
  nxt : Nat → M → Option (Option D)
def itD (ds : List D) : Itz := ⟨ds.length + 1, fun i _ => some ds[i]?⟩
abbrev IF := Rho → M → R Itz
section
variable (K : PySem.W.Frag) (mg : G)
def relI : Relt Itz It := fun ι H z J => ∀ i F' ι' H' m', (∀ a ∈ F', a ∈ mg.2 ∨ H a = none) → Ext ι H ι' H' → HR K (mg.1, F') ι' H' m' →
  (z.nxt i m' = some none → J.stop i H') ∧
  ∀ d, z.nxt i m' = some (some d) → J.go i H' ∧ ∀ x H'', J.yld i H' x H'' → Ext ι' H' ι' H'' ∧ HR K (mg.1, F') ι' H'' m' ∧ Rep K (mg.1, F') ι' H'' d x
end
section
variable (K : PySem.W.Frag) (mg : Str → Option Value)
def tI (W : WX) (f : IF) : TI := fun σ H R' => ∃ F ι ρ m, EnvR K (mg, F) ι H ρ σ ∧ HR K (mg, F) ι H m ∧ Post K (mg, F) (relI K (mg, F)) (fun c d H' => W c d σ H') ι H R' (f ρ m)
end
def PI.imp {X : Cx} {tg e : Expr} {t t' : TI} (h : PI X tg e t) (i : ∀ σ H Q, t' σ H Q → t σ H Q) : PI X tg e t' := ⟨fun pins s σ H Q I q => h.run pins s σ H Q I (i _ _ _ q)⟩
abbrev ZI (X : Cx) (W : WX) (tg e : Expr) (f : IF) : Prop := PI X tg e (tI X.K X.mg W f)
def forN (nxt : Nat → M → Option (Option D)) (body : D → SF) : Nat → Nat → SF
  | 0, _, _, _ => none
  | fuel + 1, i, ρ, m => match nxt i m with
    | none => none
    | some none => some (.nx ρ, m)
    | some (some d) => match body d ρ m with
      | some (.nx ρ1, m1) => forN nxt body fuel (i + 1) ρ1 m1
      | some (.ct ρ1, m1) => forN nxt body fuel (i + 1) ρ1 m1
      | some (.bk ρ1, m1) => some (.nx ρ1, m1)
      | some (.rt d, m1) => some (.rt d, m1)
      | some (.er x ρ1, m1) => some (.er x ρ1, m1)
      | none => none
def gThen (g : GF) (body : SF) : D → SF := fun d ρ m => match g d ρ m with
  | some (ρ1, m1) => body ρ1 m1
  | none => none
def sFor (it : IF) (g : GF) (body : SF) : SF := fun ρ m => (it ρ m).stm ρ fun z m1 => forN z.nxt (gThen g body) z.fuel 0 ρ m1
theorem z_for {X : Cx} {W : WX} {tg iter : Expr} {sts : List Stmt} {f : IF} {g : GF} {body : SF} {pos : Pos} (hp : PassesOwn (model X.prog X.w) X.A X.env X.xe) (hc : X.calm = true) (hi : ZI X W tg iter f) (hg : ZG X tg g) (hb : ZB X W sts body)
    (hs : ∀ x, foldedSetIterable iter X.env x = pure x := by intro _; rfl) : ZS X W (.For tg iter sts [] pos) (sFor f g body) := by
  refine PS.imp (ps_for hp hc hi hg hb hs) fun D σ H ⟨F, ι, ρ, m, hρ, hm, hq⟩ => ⟨F, ι, ρ, m, hρ, hm, ?_⟩
  refine Post.stm hq hρ fun z m1 ι1 H1 J _ e1 h1 r1 hq1 => ?_
  refine ⟨fun i n σ H => ∃ ι' ρ' m', Ext ι1 H1 ι' H ∧ EnvR X.K (X.mg, F) ι' H ρ' σ ∧ HR X.K (X.mg, F) ι' H m' ∧ PostS X.K (X.mg, F) W D ι' H (forN z.nxt (gThen g body) n i ρ' m'), ⟨z.fuel, ι1, ρ, m1, .refl, hρ.mono e1, h1, hq1⟩, ?_⟩
  rintro i n σ2 H2 ⟨ι2, ρ2, m2, e2, hρ2, h2, hq2⟩
  obtain ⟨rs, rg⟩ := r1 i F ι2 H2 m2 (fun _ q => .inl q) e2 h2
  cases n with
  | zero => exact hq2.elim
  | succ n =>
    unfold forN at hq2
    match q : z.nxt i m2 with
    | none => rw [q] at hq2; exact hq2.elim
    | some none =>
      rw [q] at hq2
      exact .inl ⟨rs q, hq2 ι2 H2 _ .refl h2 hρ2⟩
    | some (some d) =>
      rw [q] at hq2
      obtain ⟨hgo, hy⟩ := rg d q
      refine .inr ⟨hgo, fun σ' H' => ∃ ι' ρ' m', Ext ι1 H1 ι' H' ∧ EnvR X.K (X.mg, F) ι' H' ρ' σ' ∧ HR X.K (X.mg, F) ι' H' m' ∧ PostS X.K (X.mg, F) W D ι' H' (forN z.nxt (gThen g body) n (i + 1) ρ' m'), fun σ' H' hN => ⟨n, Nat.lt_succ_self n, hN⟩, fun x H3 hx => ?_⟩
      obtain ⟨e3, h3, r3⟩ := hy x H3 hx
      refine ⟨F, ι2, ρ2, m2, d, hρ2.mono e3, h3, r3, ?_⟩
      dsimp only at hq2
      cases qg : g d ρ2 m2 with
      | none =>
        rw [show gThen g body d ρ2 m2 = none by unfold gThen; rw [qg]] at hq2
        exact hq2.elim
      | some p =>
        obtain ⟨ρ4, m4⟩ := p
        rw [show gThen g body d ρ2 m2 = body ρ4 m4 by unfold gThen; rw [qg]] at hq2
        show PostG X.K (X.mg, F) ι2 H3 _ (some (ρ4, m4))
        intro ι4 H4 σ4 e4 h4 hρ4
        refine ⟨F, ι4, ρ4, m4, hρ4, h4, ?_⟩
        have hq2 := PostS.shift (e3.trans e4) hq2
        have e5 : Ext ι1 H1 ι4 H4 := e2.trans (e3.trans e4)
        match qb : body ρ4 m4 with
        | none => rw [qb] at hq2; exact hq2
        | some (.nx ρ5, m5) =>
          rw [qb] at hq2
          exact fun ι6 H6 σ6 e6 h6 hρ6 => ⟨ι6, ρ5, m5, e5.trans e6, hρ6, h6, PostS.shift e6 hq2⟩
        | some (.ct ρ5, m5) =>
          rw [qb] at hq2
          exact fun ι6 H6 σ6 e6 h6 hρ6 => ⟨ι6, ρ5, m5, e5.trans e6, hρ6, h6, PostS.shift e6 hq2⟩
        | some (.bk ρ5, m5) => rw [qb] at hq2; exact hq2
        | some (.rt d5, m5) => rw [qb] at hq2; exact hq2
        | some (.er x5 ρ5, m5) => rw [qb] at hq2; exact hq2
def whileN (c : TF) (body : SF) : Nat → SF
  | 0, _, _ => none
  | n + 1, ρ, m => (c ρ m).stm ρ fun b m1 => if b = true then (match body ρ m1 with
      | some (.nx ρ1, m2) => whileN c body n ρ1 m2
      | some (.ct ρ1, m2) => whileN c body n ρ1 m2
      | some (.bk ρ1, m2) => some (.nx ρ1, m2)
      | some (.rt d, m2) => some (.rt d, m2)
      | some (.er x ρ1, m2) => some (.er x ρ1, m2)
      | none => none) else some (.nx ρ, m1)
theorem z_while {X : Cx} {W : WX} {c : Expr} {sts : List Stmt} {tc : TF} {body : SF} {pos : Pos} (n : Nat) (hp : PassesOwn (model X.prog X.w) X.A X.env X.xe) (hc : ZT X W c tc) (hb : ZB X W sts body) : ZS X W (.While c sts [] pos) (whileN tc body n) := by
  refine PS.imp (ps_while hp hc hb) fun D σ H ⟨F, ι, ρ, m, hρ, hm, hq⟩ => ?_
  refine ⟨fun n σ H => ∃ ι' ρ' m', EnvR X.K (X.mg, F) ι' H ρ' σ ∧ HR X.K (X.mg, F) ι' H m' ∧ PostS X.K (X.mg, F) W D ι' H (whileN tc body n ρ' m'), ⟨n, ι, ρ, m, hρ, hm, hq⟩, ?_⟩
  rintro n σ2 H2 ⟨ι2, ρ2, m2, hρ2, h2, hq2⟩
  cases n with
  | zero => exact hq2.elim
  | succ n =>
    unfold whileN at hq2
    refine ⟨F, ι2, ρ2, m2, hρ2, h2, Post.stm hq2 hρ2 fun b m3 ι3 H3 v _ e3 h3 r3 hq3 => ?_⟩
    cases r3
    cases b with
    | false => exact iteF (hq3 ι3 H3 _ .refl h3 (hρ2.mono e3))
    | true =>
      refine iteT ⟨fun σ' H' => ∃ ι' ρ' m', EnvR X.K (X.mg, F) ι' H' ρ' σ' ∧ HR X.K (X.mg, F) ι' H' m' ∧ PostS X.K (X.mg, F) W D ι' H' (whileN tc body n ρ' m'), fun σ' H' hN => ⟨n, Nat.lt_succ_self n, hN⟩, F, ι3, ρ2, m3, hρ2.mono e3, h3, ?_⟩
      rw [if_pos rfl] at hq3
      match qb : body ρ2 m3 with
      | none => rw [qb] at hq3; exact hq3
      | some (.nx ρ5, m5) =>
        rw [qb] at hq3
        exact fun ι6 H6 σ6 e6 h6 hρ6 => ⟨ι6, ρ5, m5, hρ6, h6, PostS.shift e6 hq3⟩
      | some (.ct ρ5, m5) =>
        rw [qb] at hq3
        exact fun ι6 H6 σ6 e6 h6 hρ6 => ⟨ι6, ρ5, m5, hρ6, h6, PostS.shift e6 hq3⟩
      | some (.bk ρ5, m5) => rw [qb] at hq3; exact hq3
      | some (.rt d5, m5) => rw [qb] at hq3; exact hq3
      | some (.er x5 ρ5, m5) => rw [qb] at hq3; exact hq3

/-! ### defs and their calls -/
def fnF (np ns : Nat) (b : SF) : FF := fun ds m => if ds.length = np then (match b (ds.map some ++ List.replicate (ns - np) none) m with
  | some (.nx _, m1) => .ok .non m1
  | some (.rt d, m1) => .ok d m1
  | some (.er x _, m1) => .err x m1
  | _ => .bad) else .bad
def spZ (K : PySem.W.Frag) (mg : Str → Option Value) (np : Nat) (g : FF) : Sp := fun vs H Q E => vs.length = np ∧ ∃ F ι ds m, RepL K (mg, F) ι H ds vs ∧ HR K (mg, F) ι H m ∧ Post K (mg, F) (relE K (mg, F)) E ι H Q (g ds m)
/-- a def of the text computes g, wherever no guard is up -/
structure ZF (P : Program) (w : World) (K : PySem.W.Frag) (mg : Str → Option Value) (base : Heap) (k : Nat) (f : Addr) (fd : FuncData) (ps : List Str) (g : FF) : Prop where
  run : ∀ (A : Around) (outer : List Env) (s : Shared) (H : Hp) (args : Args) (us : List Value) (vs : List V) (Q : VK) (E : XK), Room k A → A.guards = some [] → Env0 P w K mg base A outer s H →
    BindsTo s fd args (ps.zip us) → Vals vs us → spZ K mg ps.length g vs H Q E → codeAny (model P w) A (.call (.ref f) args) (CR (L2.CX P w) outer P w H s Q E) s
theorem ZF.mono {P : Program} {w : World} {K : PySem.W.Frag} {mg : Str → Option Value} {base : Heap} {j k : Nat} {f : Addr} {fd : FuncData} {ps : List Str} {g : FF} (F : ZF P w K mg base j f fd ps g) (h : j ≤ k) : ZF P w K mg base k f fd ps g :=
  ⟨fun A outer s H args us vs Q E hr => F.run A outer s H args us vs Q E (hr.mono h)⟩
theorem envStart {K : PySem.W.Frag} {mg : G} {ι : List Addr} {H : Hp} {ds : List D} {vs : List V} {N : List Str} (r : RepL K mg ι H ds vs) : EnvR K mg ι H (ds.map some ++ List.replicate (N.length - ds.length) none) (L2.start N vs) := by
  unfold L2.start
  refine ⟨by simp [r.length], fun i d hi => ?_⟩
  by_cases q : i < ds.length
  · rw [List.getElem?_append_left (by simpa using q), List.getElem?_map] at hi
    cases e : ds[i]? with
    | none => rw [e] at hi; cases hi
    | some d' =>
      rw [e] at hi; cases hi
      obtain ⟨v, h1, h2⟩ := r.get e
      refine ⟨v, ?_, h2⟩
      rw [List.getElem?_append_left (by simpa [r.length] using q), List.getElem?_map, h1]
      rfl
  · rw [List.getElem?_append_right (by simpa using Nat.le_of_not_lt q), List.getElem?_replicate] at hi
    split at hi <;> cases hi
theorem zf_of {P : Program} {w : World} {K : PySem.W.Frag} {mg : Str → Option Value} {base : Heap} {x qual : Str} {st : Stmt} {f : Addr} {fd : FuncData} {N ps : List Str} {k : Nat} {b : SF} (T : Fun K x qual st f fd) (S : FnScope N ps (defScope st))
    (hbody : ∀ (cdv : Value) (A : Around) (outer : List Env) (s : Shared) (H : Hp) (E : XK), Room k (A.deeper (envOfC qual (defScope st) s.heap.objs.size f cdv)) → A.guards = some [] →
      ZB (cxOf (L2.CX P w) P w K mg base N qual (defScope st) f cdv A outer s H E) (fun c d _ H' => E c d H') (defBody st) b) : ZF P w K mg base (k + 1) f fd ps (fnF ps.length N.length b) := by
  obtain ⟨oc, od, kV, doc, pm, an, cdv, ct, osl, rfl, lk, hcd⟩ := T.ex
  refine ⟨fun A outer s H args us vs Q E hr hg e0 hb r ⟨hl, F, ι, ds, m, rr, hm, hp⟩ => ?_⟩
  have hlen : ds.length = ps.length := rr.length.trans hl
  have KX : K.In s.heap := e0.mod.kin.keeps fun b o e => (e0.bs b o e).1
  have lim : s.heap.NoLimit := e0.mod.nolimit.keeps fun b o e => (e0.bs b o e).1
  refine codeAny_call_function hr.depth (KX _ _ lk) rfl S.co S.gen rfl (PySem.W.codeRec_of KX hcd) (hb _ _ _ _ ?_)
  refine wpAny_newFunctionEnv_cells S.kind (fun y hy => ?_) fun env he s1 x => ?_
  · rcases S.par y.1 (List.of_mem_zip hy).1 with q | q
    · exact .inl q
    · exact .inr ⟨q, PySem.W.cellsFrom_some _ _ _ (.inl q)⟩
  subst he
  refine ⟨lim.keeps x.toInCall.keep, codeAny_func ?_⟩
  have I := inv_start (CX := L2.CX P w) (E := E) S hr.hd e0 hl r x
  have start : tS K mg (fun c d _ H' => E c d H') b { nx := fun _ H' => Q .non H', rt := Q } (L2.start N vs) H := by
    refine ⟨F, ι, _, m, envStart rr, hm, ?_⟩
    unfold fnF at hp
    rw [if_pos hlen] at hp
    rw [hlen]
    match q : b (ds.map some ++ List.replicate (N.length - ps.length) none) m with
    | none => rw [q] at hp; exact hp
    | some (.nx ρ1, m1) => rw [q] at hp; exact fun ι' H' σ' e1 h1 h2 => hp ι' H' _ e1 h1 .non
    | some (.rt d, m1) => rw [q] at hp; exact hp
    | some (.bk ρ1, m1) => rw [q] at hp; exact hp.elim
    | some (.ct ρ1, m1) => rw [q] at hp; exact hp.elim
    | some (.er z ρ1, m1) => rw [q] at hp; exact fun ι' H' σ' cls dd e1 h1 h2 h3 => hp ι' H' cls dd e1 h1 h3
  refine wpAny_mono ((hbody cdv A outer s H E (hr.deeper _) hg).run [] s1 _ H _ I start) (fun fl s' hs => ?_) fun _ _ z => z
  cases fl with
  | ret u =>
    obtain ⟨v, σ', H', J, rv, q⟩ := hs
    exact ⟨v, H', J.os, J.bare, J.base, J.hok, rv, q⟩
  | next =>
    obtain ⟨σ', H', J, q⟩ := hs
    exact ⟨V.non, H', J.os, J.bare, J.base, J.hok, rfl, q⟩
  | brk => exact (hs.elim fun _ z => z.elim fun _ z => z.2).elim
  | cont => exact (hs.elim fun _ z => z.elim fun _ z => z.2).elim
/-- a def's own context lets out what its caller wishes -/
theorem takesF {P : Program} {w : World} {K : PySem.W.Frag} {mg : Str → Option Value} {base : Heap} {N : List Str} {qual : Str} {scope : Scope} {f : Addr} {cd : Value} {A : Around} {outer : List Env} {s : Shared} {H : Hp} {E : XK} :
    Takes (cxOf (L2.CX P w) P w K mg base N qual scope f cd A outer s H E) (fun c d _ H' => E c d H') := takes_of rfl rfl rfl rfl
theorem passF {P : Program} {w : World} {K : PySem.W.Frag} {mg : Str → Option Value} {base : Heap} {N : List Str} {qual : Str} {scope : Scope} {f : Addr} {cd : Value} {A : Around} {outer : List Env} {s : Shared} {H : Hp} {E : XK} :
    PassesOwn (model (cxOf (L2.CX P w) P w K mg base N qual scope f cd A outer s H E).prog (cxOf (L2.CX P w) P w K mg base N qual scope f cd A outer s H E).w) (cxOf (L2.CX P w) P w K mg base N qual scope f cd A outer s H E).A (cxOf (L2.CX P w) P w K mg base N qual scope f cd A outer s H E).env (cxOf (L2.CX P w) P w K mg base N qual scope f cd A outer s H E).xe := passes_of rfl
section
variable {X : Cx} {W : WX} {pos p : Pos} {k : Nat} {f : Addr} {fd : FuncData} {ps : List Str} {x : Str} {e : Expr} {es : List Expr} {t : AF} {g : FF}
/-- the callee runs -/
theorem zrun {pins : List (Addr × Obj)} {σ : L2.St} {H : Hp} {s : Shared} {Q : VK} {us : List Value} {vs : List V} {ι : List Addr} {ds : List D} {m : M} {kw : List (Str × Value)} {ws : List Value} {F : List Addr} (Z0 : ZF X.prog X.w X.K X.mg X.base k f fd ps g) (hr : Room k X.A) (hgd : X.A.guards = some []) (tk : Takes X W)
    (I : Inv X pins σ H s) (hb : BindsTo s fd ⟨us, kw⟩ (ps.zip ws)) (r : Vals vs ws) (hl : vs.length = ps.length) (rr : RepL X.K (X.mg, F) ι H ds vs) (hm : HR X.K (X.mg, F) ι H m) (h : Post X.K (X.mg, F) (relE X.K (X.mg, F)) (fun c d H' => W c d σ H') ι H Q (g ds m)) :
    wpAny (model X.prog X.w) X.A (call (.ref f) us kw) (EP X pins σ Q) X.xe s := by
  refine wpAny_call (codeAny_mono (Z0.run X.A X.stack s H ⟨us, kw⟩ ws vs Q (fun c d H' => W c d σ H') hr hgd I.env0 hb r ⟨hl, F, ι, ds, m, rr, hm, h⟩) fun res s' hq => ?_)
  cases res with
  | error e => exact passAt tk σ pins H s e s' I hq
  | ok fl =>
    cases fl with
    | ret u => exact I.after hq
    | next => cases hq
    | brk => cases hq
    | cont => cases hq
/-- a call of a def: the arguments as many as the parameters -/
theorem z_call (Z0 : ZF X.prog X.w X.K X.mg X.base k f fd ps g) (hgl : ∀ ds m, ds.length ≠ ps.length → g ds m = .bad) (hr : Room k X.A) (hgd : X.A.guards = some []) (hg : Gl X x) (hm : X.mg x = some (.ref f)) (hk : PySem.W.keepIn X.K (.ref f) = true) (hb : Binds X.K fd ps []) (tk : Takes X W)
    (ha : ZA X W (e :: es) t) (hdb : (x == ("__debug__" : Str)) = false := by decide) (he : starEach (e :: es) X.env = (false, eval e X.env) :: starEach es X.env := by rfl) (hpl : (backTo pos (starEach es X.env)).any (·.1) = false := by rfl) :
    ZE X W (.Call (.Name x p) (e :: es) [] pos) (eBlt g t) := by
  refine ⟨fun pins s σ H Q I ⟨F, ι, ρ, m, hρ, hm', hp⟩ => ?_⟩
  refine wpAny_Call_Name_kw (ld_glob I hg hm ?_ hdb)
  have hA : tA X.K X.mg W t σ H fun vs H1 => ∃ ι1 ds m1, HR X.K (X.mg, F) ι1 H1 m1 ∧ RepL X.K (X.mg, F) ι1 H1 ds vs ∧ Post X.K (X.mg, F) (relE X.K (X.mg, F)) (fun c d H' => W c d σ H') ι1 H1 Q (g ds m1) :=
    ⟨F, ι, ρ, m, hρ, hm', Post.seq hp fun ds m1 ι1 H1 vs _ e1 h1 r1 hp1 => ⟨ι1, ds, m1, h1, r1, hp1⟩⟩
  refine PySem.W.callWith_K (h₀ := X.base) I.ok.mod.kin hk (thn (ha.run pos pins s σ H _ I hA) fun us s1 ⟨vs, H1, I1, r, ι1, ds, m1, h1, r1, hp1⟩ => ⟨I1.kIn, ?_⟩) he hpl
  by_cases hl : ds.length = ps.length
  · have hv : vs.length = ps.length := r1.length.symm.trans hl
    have hb' := hb s1 us I1.kIn (by rw [List.append_nil, ← r.length]; exact hv)
    rw [List.append_nil] at hb'
    exact zrun Z0 hr hgd tk I1 hb' r hv r1 h1 hp1
  · rw [hgl ds m1 hl] at hp1
    exact hp1.elim
end
theorem fnF_len {np ns : Nat} {b : SF} {ds : List D} {m : M} (h : ds.length ≠ np) : fnF np ns b ds m = .bad := if_neg h
end Z

namespace Z
open PySem PySem.Spec PyProof.Rows L2

/-! ### values as plain data -/
def toPs (f : D → Option PyData) : List D → Option (List PyData)
  | [] => some []
  | d :: ds => match f d, toPs f ds with
    | some p, some ps => some (p :: ps)
    | _, _ => none
def toP : Nat → M → D → Option PyData
  | 0, _, _ => none
  | n + 1, m, d => match d with
    | .non => some .none
    | .bl b => some (.bool b)
    | .int i => some (.int i)
    | .str x => some (.str x)
    | .tup xs => (toPs (toP n m) xs).map .tuple
    | .fl xs => (toPs (toP n m) xs).map .list
    | .sl xs => (toPs (toP n m) xs).map .list
    | .kt xs => (toPs (toP n m) xs).map .tuple
    | .ref a => match m[a]? with
      | some (.lst xs) => (toPs (toP n m) xs).map .list
      | _ => none
    | _ => none
abbrev deepest : Nat := 24
section
variable {K : PySem.W.Frag} {mg : G} {ι : List Addr} {H : Hp} {m : M}
theorem dpAll {f : D → Option PyData} (hf : ∀ d p v, f d = some p → Rep K mg ι H d v → Dp K H v p) : ∀ {ds : List D} {ps : List PyData} {vs : List V}, toPs f ds = some ps → RepL K mg ι H ds vs → DpAll K H vs ps
  | [], ps, _, h, .nil => by cases h; exact .nil
  | d :: ds, ps, _, h, .cons r rs => by
    unfold toPs at h
    split at h
    · rename_i p qs h1 h2
      cases h
      exact .cons (hf _ _ _ h1 r) (dpAll hf h2 rs)
    · cases h
theorem dp_of (hm : HR K mg ι H m) : ∀ (n : Nat) (d : D) (p : PyData) (v : V), toP n m d = some p → Rep K mg ι H d v → Dp K H v p
  | 0, _, _, _, h, _ => by cases h
  | n + 1, d, p, v, h, r => by
    cases r with
    | non => cases h; exact .non
    | bl b => cases h; exact .bl b
    | int i => cases h; exact .int i
    | str x => cases h; exact .str x
    | tup hs hr =>
      obtain ⟨ps, h1, rfl⟩ := Option.map_eq_some_iff.mp (show Option.map PyData.tuple _ = some p from h)
      exact .tup (.of hs) (dpAll (dp_of hm n) h1 hr)
    | fl hs hr =>
      obtain ⟨ps, h1, rfl⟩ := Option.map_eq_some_iff.mp (show Option.map PyData.list _ = some p from h)
      exact .lst hs.sq (dpAll (dp_of hm n) h1 hr)
    | sl _ hs hr =>
      obtain ⟨ps, h1, rfl⟩ := Option.map_eq_some_iff.mp (show Option.map PyData.list _ = some p from h)
      exact .lst (.of hs) (dpAll (dp_of hm n) h1 hr)
    | kt hs hr =>
      obtain ⟨ps, h1, rfl⟩ := Option.map_eq_some_iff.mp (show Option.map PyData.tuple _ = some p from h)
      exact .tup hs.sq (dpAll (dp_of hm n) h1 hr)
    | @ref a ad e =>
      obtain ⟨c, hc, cr⟩ := hm.lt e
      have h : (match m[a]? with | some (.lst xs) => (toPs (toP n m) xs).map PyData.list | _ => none) = some p := h
      rw [hc] at h
      cases cr with
      | lst hl hr =>
        obtain ⟨ps, h1, rfl⟩ := Option.map_eq_some_iff.mp (show Option.map PyData.list _ = some p from h)
        exact .lst (.inl (.inl hl)) (dpAll (dp_of hm n) h1 hr)
      | dK _ _ => cases h
      | dT _ _ => cases h
      | ins _ _ _ => cases h
    | glo _ => cases h
    | ty _ => cases h
    | exc _ _ _ _ _ _ => cases h
    | ex0 _ _ _ => cases h
end
/-! ### operations -/
def oEq (x y : D) (m : M) : R D := match toP deepest m x, toP deepest m y with
  | some p, some q => if (SeqAt.shaped p && SeqAt.shaped q) = true then .ok (.bl (PyData.eqv p q)) m else .bad
  | _, _ => .bad
def oNe (x y : D) (m : M) : R D := match toP deepest m x, toP deepest m y with
  | some p, some q => if (SeqAt.shaped p && SeqAt.shaped q) = true then .ok (.bl (!PyData.eqv p q)) m else .bad
  | _, _ => .bad
def notNone : PyData → Bool
  | .none => false
  | _ => true
theorem notNone_ne {p : PyData} (h : notNone p = true) : p ≠ .none := fun e => by subst e; cases h
/-- an order: on ints by i, on data by g -/
def oOrdP (g : PyData → PyData → Bool) (x y : D) (m : M) : R D := match toP deepest m x, toP deepest m y with
  | some p, some q => if (PySem.W.alike p q && notNone p && decide (p.depth ≤ 64)) = true then .ok (.bl (g p q)) m else .bad
  | _, _ => .bad
def oOrd (i : Int → Int → Bool) (g : PyData → PyData → Bool) (x y : D) (m : M) : R D := match x, y with
  | .int a, .int b => .ok (.bl (i a b)) m
  | .tup a, y => oOrdP g (.tup a) y m
  | .str a, y => oOrdP g (.str a) y m
  | .ref a, y => oOrdP g (.ref a) y m
  | _, _ => .bad
def oLt : D → D → M → R D := oOrd (fun a b => decide (a < b)) (fun p q => PySem.W.dataLt p q)
def oLe : D → D → M → R D := oOrd (fun a b => decide (a ≤ b)) (fun p q => !PySem.W.dataLt q p)
def oGt : D → D → M → R D := oOrd (fun a b => decide (b < a)) (fun p q => PySem.W.dataLt q p)
def oGe : D → D → M → R D := oOrd (fun a b => decide (b ≤ a)) (fun p q => !PySem.W.dataLt p q)
section
variable {X : Cx}
abbrev Un64 (X : Cx) : Prop := X.A.units + 64 < cLine
theorem op2_eq : Op2 X (rEqD X.K) oEq := fun F E ι H m x y v u Q hm rx ry hp => by
  unfold oEq at hp
  split at hp
  · rename_i p q h1 h2
    split at hp
    · rename_i hs
      rw [Bool.and_eq_true] at hs
      exact ⟨p, q, dp_of hm _ _ _ _ h1 rx, dp_of hm _ _ _ _ h2 ry, hs.1, hs.2, hp.okI hm (.bl _)⟩
    · exact hp.elim
  · exact hp.elim
theorem op2_ne : Op2 X (rNeD X.K) oNe := fun F E ι H m x y v u Q hm rx ry hp => by
  unfold oNe at hp
  split at hp
  · rename_i p q h1 h2
    split at hp
    · rename_i hs
      rw [Bool.and_eq_true] at hs
      exact ⟨p, q, dp_of hm _ _ _ _ h1 rx, dp_of hm _ _ _ _ h2 ry, hs.1, hs.2, hp.okI hm (.bl _)⟩
    · exact hp.elim
  · exact hp.elim
/-- an order's reading -/
def rOrd (K : PySem.W.Frag) (i : Int → Int → Bool) (g : PyData → PyData → Bool) : R2 := fun x y H Q => (∃ a b, x = .int a ∧ y = .int b ∧ Q (.bl (i a b)) H) ∨
  ∃ p q, Dp K H x p ∧ Dp K H y q ∧ PySem.W.alike p q = true ∧ p ≠ .none ∧ p.depth ≤ 64 ∧ Q (.bl (g p q)) H
theorem op2_ordP {i : Int → Int → Bool} {g : PyData → PyData → Bool} : Op2 X (rOrd X.K i g) (oOrdP g) := fun F E ι H m x y v u Q hm rx ry hp => by
  unfold oOrdP at hp
  split at hp
  · rename_i p q h1 h2
    split at hp
    · rename_i hs
      rw [Bool.and_eq_true, Bool.and_eq_true] at hs
      exact .inr ⟨p, q, dp_of hm _ _ _ _ h1 rx, dp_of hm _ _ _ _ h2 ry, hs.1.1, notNone_ne hs.1.2, of_decide_eq_true hs.2, hp.okI hm (.bl _)⟩
    · exact hp.elim
  · exact hp.elim
theorem op2_ord {i : Int → Int → Bool} {g : PyData → PyData → Bool} : Op2 X (rOrd X.K i g) (oOrd i g) := fun F E ι H m x y v u Q hm rx ry hp => by
  unfold oOrd at hp
  split at hp
  · cases rx; cases ry
    exact .inl ⟨_, _, rfl, rfl, hp.okI hm (.bl _)⟩
  · exact op2_ordP F E ι H m _ _ v u Q hm rx ry hp
  · exact op2_ordP F E ι H m _ _ v u Q hm rx ry hp
  · exact op2_ordP F E ι H m _ _ v u Q hm rx ry hp
  · exact hp.elim
theorem opr_ord {op : CmpOp} {i : Int → Int → Bool} {g : PyData → PyData → Bool} (hu : Un64 X)
    (h1 : ∀ (a b : Int) (t t' : Tok) (Q : Value → Shared → Prop) (s : Shared), Q (.bool (i a b)) s → wpAny (model X.prog X.w) X.A (compareOp op (.int a t) (.int b t')) Q X.xe s)
    (h2 : ∀ (s : Shared) (v u : Value) (p q : PyData) (as bs : List Addr) (Q : Value → Shared → Prop), Reads s.heap v p as → Reads s.heap u q bs → PySem.W.alike p q = true → p ≠ .none → X.A.units + min p.depth q.depth < cLine → Q (.bool (g p q)) s → wpAny (model X.prog X.w) X.A (compareOp op v u) Q X.xe s) :
    OpR X (compareOp op) (rOrd X.K i g) := by
  intro pins s σ H x y v u Q I rx ry q
  rcases q with ⟨a, b, rfl, rfl, q⟩ | ⟨p, r, d1, d2, ha, hn, hd, q⟩
  · obtain ⟨t, rfl⟩ := rx
    obtain ⟨t', rfl⟩ := ry
    exact h1 a b t t' _ s ⟨.bl _, H, I, rfl, q⟩
  · obtain ⟨as, r1⟩ := Dp.reads I p x v d1 rx
    obtain ⟨bs, r2⟩ := Dp.reads I r y u d2 ry
    have hu' : X.A.units + 64 < cLine := hu
    exact h2 s v u p r as bs _ r1 r2 ha hn (by omega) ⟨.bl _, H, I, rfl, q⟩
theorem opr_lt (hu : Un64 X) : OpR X (compareOp .Lt) (rOrd X.K (fun a b => decide (a < b)) (fun p q => PySem.W.dataLt p q)) := opr_ord hu (fun _ _ _ _ _ _ h => lt_int h) fun s v u p q as bs Q r1 r2 ha hn hd h => PySem.W.lt_data r1 r2 ha hn hd h
theorem opr_le (hu : Un64 X) : OpR X (compareOp .LtE) (rOrd X.K (fun a b => decide (a ≤ b)) (fun p q => !PySem.W.dataLt q p)) := opr_ord hu (fun _ _ _ _ _ _ h => le_int h) fun s v u p q as bs Q r1 r2 ha hn hd h => PySem.W.le_data r1 r2 ha hn hd h
theorem opr_gt (hu : Un64 X) : OpR X (compareOp .Gt) (rOrd X.K (fun a b => decide (b < a)) (fun p q => PySem.W.dataLt q p)) := opr_ord hu (fun _ _ _ _ _ _ h => gt_int h) fun s v u p q as bs Q r1 r2 ha hn hd h => PySem.W.gt_data r1 r2 ha hn hd h
theorem opr_ge (hu : Un64 X) : OpR X (compareOp .GtE) (rOrd X.K (fun a b => decide (b ≤ a)) (fun p q => !PySem.W.dataLt p q)) := opr_ord hu (fun _ _ _ _ _ _ h => ge_int h) fun s v u p q as bs Q r1 r2 ha hn hd h => PySem.W.ge_data r1 r2 ha hn hd h

/-! arithmetic, joining -/
end
/-- a list's items, that it may be joined -/
def lstOf (m : M) : D → Option (List D)
  | .sl xs => some xs
  | .ref n => match m[n]? with
    | some (.lst xs) => some xs
    | _ => none
  | _ => none
def small64b (i : Int) : Bool := decide (-(2 ^ 64) < i) && decide (i < 2 ^ 64)
def oAdd (x y : D) (m : M) : R D := match x, y with
  | .int a, .int b => .ok (.int (a + b)) m
  | .str a, .str b => if a.length + b.length ≤ line then .ok (.str (a ++ b)) m else .bad
  | .tup a, .tup b => if a.length + b.length ≤ line then .ok (.tup (a ++ b)) m else .bad
  | .ref a, y => match m[a]?, lstOf m y with
    | some (.lst xs), some ys => if xs.length + ys.length ≤ line then .ok (.ref m.length) (m ++ [.lst (xs ++ ys)]) else .bad
    | _, _ => .bad
  | .sl xs, y => match lstOf m y with
    | some ys => if xs.length + ys.length ≤ line then .ok (.ref m.length) (m ++ [.lst (xs ++ ys)]) else .bad
    | _ => .bad
  | _, _ => .bad
/-- the same, lists to lists that nobody writes -/
def oAddS (x y : D) (m : M) : R D := match lstOf m x, lstOf m y with
  | some xs, some ys => if xs.length + ys.length ≤ line then .ok (.sl (xs ++ ys)) m else .bad
  | _, _ => .bad
def oSub (x y : D) (m : M) : R D := match x, y with
  | .int a, .int b => .ok (.int (a - b)) m
  | _, _ => .bad
def oMul (x y : D) (m : M) : R D := match x, y with
  | .int a, .int b => if (small64b a || small64b b) = true then .ok (.int (a * b)) m else .bad
  | .tup xs, .int k => if xs ≠ [] ∧ 2 ≤ k ∧ k ≤ 1000 ∧ xs.length ≤ 1000 then .ok (.tup (List.replicate k.toNat xs).flatten) m else .bad
  | .ref a, .int k => match m[a]? with
    | some (.lst xs) => if -(2 ^ 63) ≤ k ∧ k < 2 ^ 63 ∧ xs.length * k.toNat ≤ line then .ok (.ref m.length) (m ++ [.lst (List.replicate k.toNat xs).flatten]) else .bad
    | _ => .bad
  | _, _ => .bad
def oFdiv (x y : D) (m : M) : R D := match x, y with
  | .int a, .int b => if 0 < b ∧ b < 1073741824 then .ok (.int (a / b)) m else .bad
  | _, _ => .bad
def oMod (x y : D) (m : M) : R D := match x, y with
  | .int a, .int b => if 0 < b then .ok (.int (a % b)) m else .bad
  | _, _ => .bad
def oPow (x y : D) (m : M) : R D := match x, y with
  | .int a, .int b => if 0 ≤ b ∧ b ≤ 1000000 ∧ a.natAbs < 2 ^ 64 then .ok (.int (a ^ b.toNat)) m else .bad
  | _, _ => .bad
def oNeg (x : D) (m : M) : R D := match x with
  | .int a => .ok (.int (-a)) m
  | _ => .bad
section
variable {X : Cx}
theorem small64b_ok {i : Int} (h : small64b i = true) : -(2 ^ 64) < i ∧ i < 2 ^ 64 := by
  unfold small64b at h
  rw [Bool.and_eq_true] at h
  exact ⟨of_decide_eq_true h.1, of_decide_eq_true h.2⟩
theorem lst_at {K : PySem.W.Frag} {mg : G} {ι : List Addr} {H : Hp} {m : M} (hm : HR K mg ι H m) {n : Nat} {a : Addr} {xs : List D} (e : ι[n]? = some a) (h : m[n]? = some (.lst xs)) : ∃ vs, H a = some (.lst vs) ∧ RepL K mg ι H xs vs := by
  obtain ⟨c, hc, cr⟩ := hm.lt e
  rw [h] at hc
  cases hc
  cases cr with
  | lst h1 h2 => exact ⟨_, h1, h2⟩
theorem lstOf_rep {K : PySem.W.Frag} {mg : G} {ι : List Addr} {H : Hp} {m : M} (hm : HR K mg ι H m) {d : D} {v : V} {xs : List D} (r : Rep K mg ι H d v) (h : lstOf m d = some xs) : ∃ p vs, v = .ref p ∧ H p = some (.lst vs) ∧ RepL K mg ι H xs vs := by
  cases r with
  | sl _ h1 h2 => cases h; exact ⟨_, _, rfl, h1, h2⟩
  | @ref n a e =>
    have h : (match m[n]? with | some (.lst xs) => some xs | _ => none) = some xs := h
    split at h
    · rename_i ys hc
      cases h
      obtain ⟨us, h1, h2⟩ := lst_at hm e hc
      exact ⟨_, us, rfl, h1, h2⟩
    · cases h
  | _ => cases h
/-- a new list cell -/
theorem Post.newL {K : PySem.W.Frag} {mg : G} {ι : List Addr} {H : Hp} {m : M} {E : XK} {Q : VK} {xs : List D} {vs : List V} (hm : HR K mg ι H m) (r : RepL K mg ι H xs vs) (hp : Post K mg (relE K mg) E ι H Q (.ok (.ref m.length) (m ++ [.lst xs]))) {p : Addr} (hn : H p = none) : Q (.ref p) (upd H p (.lst vs)) := by
  refine hp (ι ++ [p]) _ _ (Ext.cell hn) (hm.cell hn (.lst upd_same (r.mono (Ext.cell hn)))) (.ref ?_)
  rw [← hm.len]; simp
theorem Post.newT {K : PySem.W.Frag} {mg : G} {ι : List Addr} {H : Hp} {m : M} {E : XK} {Q : VK} {xs : List D} {vs : List V} (hm : HR K mg ι H m) (r : RepL K mg ι H xs vs) (hp : Post K mg (relE K mg) E ι H Q (.ok (.tup xs) m)) {p : Addr} (hn : H p = none) : Q (.ref p) (upd H p (.tup vs)) :=
  hp ι _ _ (Ext.side hn) (hm.side hn) (.tup upd_same (r.mono (Ext.side hn)))
abbrev rAddI : R2 := rI0 fun i j => .int (i + j)
abbrev rAddS : R2 := fun x y H Q => ∃ i j, x = .str i ∧ y = .str j ∧ i.length + j.length ≤ sizeLine ∧ Q (.str (i ++ j)) H
theorem opr_add : OpR X (binaryOp .Add) (fun x y H Q => rAddI x y H Q ∨ rAddS x y H Q ∨ rCatA X.K x y H Q ∨ rCat x y H Q) := op_add.or (op_add_str.or (op_catA.or op_cat))
theorem op2_add : Op2 X (fun x y H Q => rAddI x y H Q ∨ rAddS x y H Q ∨ rCatA X.K x y H Q ∨ rCat x y H Q) oAdd := fun F E ι H m x y v u Q hm rx ry hp => by
  unfold oAdd at hp
  split at hp
  · cases rx; cases ry
    exact .inl ⟨_, _, rfl, rfl, hp.okI hm (.int _)⟩
  · split at hp
    · rename_i hl
      cases rx; cases ry
      exact .inr (.inl ⟨_, _, rfl, rfl, by rw [line_eq]; exact hl, hp.okI hm (.str _)⟩)
    · exact hp.elim
  · split at hp
    · rename_i hl
      cases rx with
      | tup h1 r1 =>
        cases ry with
        | tup h2 r2 =>
          refine .inr (.inr (.inl ⟨_, _, _, _, rfl, rfl, .of h1, .of h2, by rw [line_eq, ← r1.length, ← r2.length]; exact hl, fun e => ?_, fun e e2 => ?_, fun e e2 p hn => hp.newT hm (r1.append r2) hn⟩))
          · subst e
            cases r1
            exact hp.okI hm (.tup h2 r2)
          · subst e2
            cases r2
            rw [List.append_nil] at hp
            exact hp.okI hm (.tup h1 r1)
    · exact hp.elim
  · split at hp
    · rename_i xs ys e1 e2
      split at hp
      · rename_i hl
        cases rx with
        | ref ea =>
          obtain ⟨vs, h1, r1⟩ := lst_at hm ea e1
          obtain ⟨b, us, rfl, h2, r2⟩ := lstOf_rep hm ry e2
          exact .inr (.inr (.inr ⟨_, _, _, _, rfl, rfl, h1, h2, by rw [line_eq, ← r1.length, ← r2.length]; exact hl, fun p hn => hp.newL hm (r1.append r2) hn⟩))
      · exact hp.elim
    · exact hp.elim
  · split at hp
    · rename_i ys e2
      split at hp
      · rename_i hl
        cases rx with
        | sl _ h1 r1 =>
          obtain ⟨b, us, rfl, h2, r2⟩ := lstOf_rep hm ry e2
          exact .inr (.inr (.inr ⟨_, _, _, _, rfl, rfl, h1, h2, by rw [line_eq, ← r1.length, ← r2.length]; exact hl, fun p hn => hp.newL hm (r1.append r2) hn⟩))
      · exact hp.elim
    · exact hp.elim
  · exact hp.elim
theorem op2_addS : Op2 X (fun x y H Q => rAddI x y H Q ∨ rAddS x y H Q ∨ rCatA X.K x y H Q ∨ rCat x y H Q) oAddS := fun F E ι H m x y v u Q hm rx ry hp => by
  unfold oAddS at hp
  split at hp
  · rename_i xs ys e1 e2
    split at hp
    · rename_i hl
      obtain ⟨a, vs, rfl, h1, r1⟩ := lstOf_rep hm rx e1
      obtain ⟨b, us, rfl, h2, r2⟩ := lstOf_rep hm ry e2
      exact .inr (.inr (.inr ⟨_, _, _, _, rfl, rfl, h1, h2, by rw [line_eq, ← r1.length, ← r2.length]; exact hl, fun p hn => hp.newS hm (r1.append r2) hn⟩))
    · exact hp.elim
  · exact hp.elim
theorem op2_sub : Op2 X (rI0 fun i j => .int (i - j)) oSub := fun F E ι H m x y v u Q hm rx ry hp => by
  unfold oSub at hp
  split at hp
  · cases rx; cases ry
    exact ⟨_, _, rfl, rfl, hp.okI hm (.int _)⟩
  · exact hp.elim
theorem RepL.rep {K : PySem.W.Frag} {mg : G} {ι : List Addr} {H : Hp} {xs : List D} {vs : List V} (r : RepL K mg ι H xs vs) : ∀ k : Nat, RepL K mg ι H (List.replicate k xs).flatten (List.replicate k vs).flatten
  | 0 => .nil
  | k + 1 => by
    rw [List.replicate_succ, List.replicate_succ, List.flatten_cons, List.flatten_cons]
    exact r.append (RepL.rep r k)
theorem opr_mul : OpR X (binaryOp .Mult) (fun x y H Q => rI CMul (fun i j => .int (i * j)) x y H Q ∨ rRepT X.K x y H Q ∨ rRep x y H Q) := op_mul.or (op_repT.or op_rep)
theorem op2_mul : Op2 X (fun x y H Q => rI CMul (fun i j => .int (i * j)) x y H Q ∨ rRepT X.K x y H Q ∨ rRep x y H Q) oMul := fun F E ι H m x y v u Q hm rx ry hp => by
  unfold oMul at hp
  split at hp
  · split at hp
    · rename_i hc
      cases rx; cases ry
      refine .inl ⟨_, _, rfl, rfl, ?_, hp.okI hm (.int _)⟩
      rw [Bool.or_eq_true] at hc
      rcases hc with hc | hc
      · exact .inl (small64b_ok hc)
      · exact .inr (small64b_ok hc)
    · exact hp.elim
  · split at hp
    · rename_i hc
      obtain ⟨c1, c2, c3, c4⟩ := hc
      cases ry
      cases rx with
      | tup h1 r1 =>
        exact .inr (.inl ⟨_, _, _, rfl, rfl, .of h1, fun e => by subst e; cases r1; exact c1 rfl, c2, c3, by rw [← r1.length]; exact c4, fun p hn => hp.newT hm (r1.rep _) hn⟩)
    · exact hp.elim
  · split at hp
    · rename_i xs e1
      split at hp
      · rename_i hc
        obtain ⟨c1, c2, c3⟩ := hc
        cases ry
        cases rx with
        | ref ea =>
          obtain ⟨vs, h1, r1⟩ := lst_at hm ea e1
          exact .inr (.inr ⟨_, _, _, rfl, rfl, h1, c1, c2, by rw [line_eq, ← r1.length]; exact c3, fun p hn => hp.newL hm (r1.rep _) hn⟩)
      · exact hp.elim
    · exact hp.elim
  · exact hp.elim
theorem op2_fdiv : Op2 X (rI CDiv fun i j => .int (i / j)) oFdiv := fun F E ι H m x y v u Q hm rx ry hp => by
  unfold oFdiv at hp
  split at hp
  · split at hp
    · rename_i hc
      cases rx; cases ry
      exact ⟨_, _, rfl, rfl, hc, hp.okI hm (.int _)⟩
    · exact hp.elim
  · exact hp.elim
theorem op2_mod : Op2 X (rI (fun _ j => 0 < j) fun i j => .int (i % j)) oMod := fun F E ι H m x y v u Q hm rx ry hp => by
  unfold oMod at hp
  split at hp
  · split at hp
    · rename_i hc
      cases rx; cases ry
      exact ⟨_, _, rfl, rfl, hc, hp.okI hm (.int _)⟩
    · exact hp.elim
  · exact hp.elim
theorem op2_pow : Op2 X (rI CPow fun i j => .int (i ^ j.toNat)) oPow := fun F E ι H m x y v u Q hm rx ry hp => by
  unfold oPow at hp
  split at hp
  · split at hp
    · rename_i hc
      cases rx; cases ry
      exact ⟨_, _, rfl, rfl, hc, hp.okI hm (.int _)⟩
    · exact hp.elim
  · exact hp.elim
theorem z_neg {W : WX} {a : Expr} {f : EF} {pos : Pos} (ha : ZE X W a f) : ZE X W (.UnaryOp .USub a pos) (eUn oNeg f) := z_un un_neg (fun F E ι H m x v Q hm rx hp => by
  unfold oNeg at hp
  split at hp
  · cases rx
    exact ⟨_, rfl, hp.okI hm (.int _)⟩
  · exact hp.elim) ha
end
/-! ### identity with None, True, False -/
def oIsN (x y : D) (m : M) : R D := match y with
  | .non => match x with
    | .non => .ok (.bl true) m
    | _ => .ok (.bl false) m
  | .bl b => match x with
    | .bl a => .ok (.bl (decide (a = b))) m
    | _ => .bad
  | _ => .bad
def oNotN (x y : D) (m : M) : R D := match y with
  | .non => match x with
    | .non => .ok (.bl false) m
    | _ => .ok (.bl true) m
  | .bl b => match x with
    | .bl a => .ok (.bl (!decide (a = b))) m
    | _ => .bad
  | _ => .bad
section
variable {X : Cx}
abbrev rIsN : R2 := fun x y H Q => (y = .non ∧ Q (.bl (decide (x = .non))) H) ∨ rIsB x y H Q
abbrev rNotN : R2 := fun x y H Q => (y = .non ∧ Q (.bl (!decide (x = .non))) H) ∨ rNotB x y H Q
theorem opr_is : OpR X (compareOp .Is) rIsN := op_isN.or op_isBl
theorem opr_isnot : OpR X (compareOp .IsNot) rNotN := op_notN.or op_notBl
theorem op2_is : Op2 X rIsN oIsN := fun F E ι H m x y v u Q hm rx ry hp => by
  unfold oIsN at hp
  split at hp
  · cases ry
    split at hp
    · cases rx
      exact .inl ⟨rfl, hp.okI hm (.bl true)⟩
    · rename_i hx
      refine .inl ⟨rfl, ?_⟩
      have e : v ≠ .non := fun e => by subst e; cases rx; exact hx rfl
      rw [decide_eq_false e]
      exact hp.okI hm (.bl false)
  · split at hp
    · cases rx; cases ry
      exact .inr ⟨_, _, rfl, rfl, hp.okI hm (.bl _)⟩
    · exact hp.elim
  · exact hp.elim
theorem op2_isnot : Op2 X rNotN oNotN := fun F E ι H m x y v u Q hm rx ry hp => by
  unfold oNotN at hp
  split at hp
  · cases ry
    split at hp
    · cases rx
      exact .inl ⟨rfl, hp.okI hm (.bl false)⟩
    · rename_i hx
      refine .inl ⟨rfl, ?_⟩
      have e : v ≠ .non := fun e => by subst e; cases rx; exact hx rfl
      rw [decide_eq_false e]
      exact hp.okI hm (.bl true)
  · split at hp
    · cases rx; cases ry
      exact .inr ⟨_, _, rfl, rfl, hp.okI hm (.bl _)⟩
    · exact hp.elim
  · exact hp.elim
end
end Z

namespace Z
open PySem PySem.Spec PyProof.Rows L2

/-! ### subscripts -/
def ixD (n : Nat) (i : Int) : Option Nat := if 0 ≤ i then (if i < n then some i.toNat else none) else if -(n : Int) ≤ i then some (i + n).toNat else none
def atD (xs : List D) (i : Int) : Option D := (ixD xs.length i).bind fun j => xs[j]?
abbrev KeyU := Key ⊕ List Key
def keyU (d : D) : Option KeyU := match keyOf d with
  | some k => some (.inl k)
  | none => (keyT d).map .inr
def keyB (a b : D) : Bool := decide (keyU a = keyU b)
def valD (kvs : List (D × D)) (k : D) : Option D := (kvs.find? fun p => keyB p.1 k).map (·.2)
def putD (kvs : List (D × D)) (k v : D) : List (D × D) := if kvs.any (fun p => keyB p.1 k) = true then kvs.map fun p => if keyB p.1 k = true then (p.1, v) else p else kvs ++ [(k, v)]
def isT (d : D) : Bool := (keyT d).isSome
/-- the key is of the dict's kind -/
def keyFits (kvs : List (D × D)) (k : D) : Bool := (keyU k).isSome && match kvs with
  | [] => true
  | p :: _ => isT p.1 == isT k
section
variable {K : PySem.W.Frag} {mg : G} {ι : List Addr} {H : Hp} {m : M}
theorem atI_rep {xs : List D} {vs : List V} (r : RepL K mg ι H xs vs) {i : Int} {d : D} (h : atD xs i = some d) : ∃ v, atI vs i = some v ∧ Rep K mg ι H d v := by
  unfold atD at h
  have e : ixD xs.length i = ixN vs.length i := by rw [r.length]; rfl
  rw [e] at h
  unfold atI
  cases q : ixN vs.length i with
  | none => rw [q] at h; cases h
  | some j =>
    rw [q] at h
    exact r.get (show xs[j]? = some d from h)
theorem keyU_int {i : Int} : keyU (.int i) = some (.inl (.inl i)) := rfl
theorem keyU_str {x : Str} : keyU (.str x) = some (.inl (.inr x)) := rfl
theorem kV_of {d : D} {v : V} {k : Key} (r : Rep K mg ι H d v) (h : keyOf d = some k) : v = kV k := by
  cases r <;> cases h <;> rfl
theorem kVs_of : ∀ {ds : List D} {vs : List V} {ks : List Key}, RepL K mg ι H ds vs → keysOf ds = some ks → vs = ks.map kV
  | [], _, ks, .nil, h => by cases h; rfl
  | d :: ds, _, ks, .cons r rs, h => by
    unfold keysOf at h
    split at h
    · rename_i k kr h1 h2
      cases h
      rw [kV_of r h1, kVs_of rs h2]
      rfl
    · cases h
theorem keyT_at {d : D} {v : V} {ks : List Key} (r : Rep K mg ι H d v) (h : keyT d = some ks) : ∃ b, v = .ref b ∧ H b = some (.tup (ks.map kV)) := by
  cases r with
  | tup h1 r1 =>
    have e := kVs_of r1 (show keysOf _ = some ks from h)
    exact ⟨_, rfl, by rw [← e]; exact h1⟩
  | _ => cases h
theorem keyOf_T {d : D} {k : Key} (h : keyOf d = some k) : keyT d = none := by cases d <;> first | rfl | cases h
theorem keyT_K {d : D} {ks : List Key} (h : keyT d = some ks) : keyOf d = none := by cases d <;> first | rfl | cases h
theorem valD_K {kvs : List (D × D)} {ws : List (Key × V)} {d : D} {k : Key} (r : RepK K mg ι H kvs ws) (h : keyOf d = some k) : match valD kvs d with
    | some x => ∃ v, valV ws k = some v ∧ Rep K mg ι H x v
    | none => valV ws k = none := by
  have hk : keyU d = some (.inl k) := by unfold keyU; rw [h]
  induction r with
  | nil => exact rfl
  | @cons p q l1 l2 hpq t ih =>
    have hp : keyU p.1 = some (.inl q.1) := by unfold keyU; rw [hpq.1]
    by_cases e : q.1 = k
    · have eb : keyB p.1 d = true := by unfold keyB; rw [hp, hk, e]; exact decide_eq_true rfl
      have e1 : valD (p :: l1) d = some p.2 := by unfold valD; rw [List.find?_cons_of_pos (p := fun p : D × D => keyB p.1 d) eb]; rfl
      rw [e1]
      exact ⟨q.2, valV_pos e, hpq.2⟩
    · have eb : ¬ keyB p.1 d = true := by
        unfold keyB; rw [hp, hk]
        intro z
        have := of_decide_eq_true z
        cases this
        exact e rfl
      have e1 : valD (p :: l1) d = valD l1 d := by unfold valD; rw [List.find?_cons_of_neg (p := fun p : D × D => keyB p.1 d) eb]
      rw [e1]
      rw [valV_neg e]
      exact ih
theorem valD_T {kvs : List (D × D)} {ws : List (List Key × V)} {d : D} {k : List Key} (r : RepT K mg ι H kvs ws) (h : keyT d = some k) : match valD kvs d with
    | some x => ∃ v, valV ws k = some v ∧ Rep K mg ι H x v
    | none => valV ws k = none := by
  have hk : keyU d = some (.inr k) := by unfold keyU; rw [keyT_K h, h]; rfl
  induction r with
  | nil => exact rfl
  | @cons p q l1 l2 hpq t ih =>
    have hp : keyU p.1 = some (.inr q.1) := by unfold keyU; rw [keyT_K hpq.1, hpq.1]; rfl
    by_cases e : q.1 = k
    · have eb : keyB p.1 d = true := by unfold keyB; rw [hp, hk, e]; exact decide_eq_true rfl
      have e1 : valD (p :: l1) d = some p.2 := by unfold valD; rw [List.find?_cons_of_pos (p := fun p : D × D => keyB p.1 d) eb]; rfl
      rw [e1]
      exact ⟨q.2, valV_pos e, hpq.2⟩
    · have eb : ¬ keyB p.1 d = true := by
        unfold keyB; rw [hp, hk]
        intro z
        have := of_decide_eq_true z
        cases this
        exact e rfl
      have e1 : valD (p :: l1) d = valD l1 d := by unfold valD; rw [List.find?_cons_of_neg (p := fun p : D × D => keyB p.1 d) eb]
      rw [e1, valV_neg e]
      exact ih
theorem any_K {kvs : List (D × D)} {ws : List (Key × V)} {d : D} {k : Key} (r : RepK K mg ι H kvs ws) (h : keyOf d = some k) : kvs.any (fun p => keyB p.1 d) = ws.any fun q => decide (q.1 = k) := by
  have hk : keyU d = some (.inl k) := by unfold keyU; rw [h]
  induction r with
  | nil => rfl
  | @cons p q l1 l2 hpq t ih =>
    have hp : keyU p.1 = some (.inl q.1) := by unfold keyU; rw [hpq.1]
    rw [List.any_cons, List.any_cons, ih]
    congr 1
    unfold keyB
    rw [hp, hk]
    by_cases e : q.1 = k
    · rw [e]; simp
    · rw [decide_eq_false e, decide_eq_false]
      intro z; cases z; exact e rfl
theorem any_T {kvs : List (D × D)} {ws : List (List Key × V)} {d : D} {k : List Key} (r : RepT K mg ι H kvs ws) (h : keyT d = some k) : kvs.any (fun p => keyB p.1 d) = ws.any fun q => decide (q.1 = k) := by
  have hk : keyU d = some (.inr k) := by unfold keyU; rw [keyT_K h, h]; rfl
  induction r with
  | nil => rfl
  | @cons p q l1 l2 hpq t ih =>
    have hp : keyU p.1 = some (.inr q.1) := by unfold keyU; rw [keyT_K hpq.1, hpq.1]; rfl
    rw [List.any_cons, List.any_cons, ih]
    congr 1
    unfold keyB
    rw [hp, hk]
    by_cases e : q.1 = k
    · rw [e]; simp
    · rw [decide_eq_false e, decide_eq_false]
      intro z; cases z; exact e rfl
theorem putD_K {kvs : List (D × D)} {ws : List (Key × V)} {d x : D} {k : Key} {v : V} (r : RepK K mg ι H kvs ws) (h : keyOf d = some k) (rx : Rep K mg ι H x v) : RepK K mg ι H (putD kvs d x) (putK ws k v) := by
  have hk : keyU d = some (.inl k) := by unfold keyU; rw [h]
  unfold putD putK
  rw [any_K r h]
  split
  · refine (?_ : ∀ {kvs ws}, RepK K mg ι H kvs ws → RepK K mg ι H (kvs.map _) (ws.map _)) r
    intro kvs ws r
    induction r with
    | nil => exact .nil
    | @cons p q l1 l2 hpq t ih =>
      have hp : keyU p.1 = some (.inl q.1) := by unfold keyU; rw [hpq.1]
      rw [List.map_cons, List.map_cons]
      refine .cons ?_ ih
      by_cases e : q.1 = k
      · have eb : keyB p.1 d = true := by unfold keyB; rw [hp, hk, e]; exact decide_eq_true rfl
        rw [if_pos eb, if_pos e]
        exact ⟨hpq.1, rx⟩
      · have eb : ¬ keyB p.1 d = true := by
          unfold keyB; rw [hp, hk]
          intro z
          have := of_decide_eq_true z
          cases this
          exact e rfl
        rw [if_neg eb, if_neg e]
        exact hpq
  · refine (?_ : ∀ {kvs ws}, RepK K mg ι H kvs ws → RepK K mg ι H (kvs ++ [(d, x)]) (ws ++ [(k, v)])) r
    intro kvs ws r
    induction r with
    | nil => exact .cons ⟨h, rx⟩ .nil
    | cons hpq t ih => exact .cons hpq ih
theorem putD_T {kvs : List (D × D)} {ws : List (List Key × V)} {d x : D} {k : List Key} {v : V} (r : RepT K mg ι H kvs ws) (h : keyT d = some k) (rx : Rep K mg ι H x v) : RepT K mg ι H (putD kvs d x) (putK ws k v) := by
  have hk : keyU d = some (.inr k) := by unfold keyU; rw [keyT_K h, h]; rfl
  unfold putD putK
  rw [any_T r h]
  split
  · refine (?_ : ∀ {kvs ws}, RepT K mg ι H kvs ws → RepT K mg ι H (kvs.map _) (ws.map _)) r
    intro kvs ws r
    induction r with
    | nil => exact .nil
    | @cons p q l1 l2 hpq t ih =>
      have hp : keyU p.1 = some (.inr q.1) := by unfold keyU; rw [keyT_K hpq.1, hpq.1]; rfl
      rw [List.map_cons, List.map_cons]
      refine .cons ?_ ih
      by_cases e : q.1 = k
      · have eb : keyB p.1 d = true := by unfold keyB; rw [hp, hk, e]; exact decide_eq_true rfl
        rw [if_pos eb, if_pos e]
        exact ⟨hpq.1, rx⟩
      · have eb : ¬ keyB p.1 d = true := by
          unfold keyB; rw [hp, hk]
          intro z
          have := of_decide_eq_true z
          cases this
          exact e rfl
        rw [if_neg eb, if_neg e]
        exact hpq
  · refine (?_ : ∀ {kvs ws}, RepT K mg ι H kvs ws → RepT K mg ι H (kvs ++ [(d, x)]) (ws ++ [(k, v)])) r
    intro kvs ws r
    induction r with
    | nil => exact .cons ⟨h, rx⟩ .nil
    | cons hpq t ih => exact .cons hpq ih
end
/-! an empty dict is of either kind -/
section
variable {X : Cx} {pins : List (Addr × Obj)} {σ : L2.St} {H : Hp} {s : Shared} {a : Addr}
theorem retype {o o' : HO} (I : Inv X pins σ H s) (h : H a = some o) (mu : Mut (H a)) (hx : ∃ u, s.heap.get? a = some u) (new : ∀ H', ObjOk X.prog X.w H' s.heap a o') : Inv X pins σ (upd H a o') s :=
  I.write (t' := s.toks) (h' := s.heap) mu (.inl rfl) (fun b u _ q => q) hx (new _)
theorem toT (I : Inv X pins σ H s) (h : H a = some (.dK [])) : Inv X pins σ (upd H a (.dT [])) s := by
  obtain ⟨z, y, vs, r, o, es, ep, e1, e2, e3, e4, e5, e6⟩ := I.hok a _ h
  cases r
  refine retype I h (by rw [h]; trivial) ⟨o, e1⟩ fun H' => ?_
  refine ⟨Nat.zero_le _, y, [], .nil, o, es, ep, e1, e2, e3, ?_, List.nodup_nil⟩
  cases e5' : es.toList with
  | nil => rfl
  | cons x l => rw [e5'] at e5; cases e5
theorem toK (I : Inv X pins σ H s) (h : H a = some (.dT [])) : Inv X pins σ (upd H a (.dK [])) s := by
  obtain ⟨z, y, vs, r, o, es, ep, e1, e2, e3, e4, e5⟩ := I.hok a _ h
  cases r
  refine retype I h (by rw [h]; trivial) ⟨o, e1⟩ fun H' => ?_
  have e0 : es.toList = [] := e4
  refine ⟨Nat.zero_le _, y, [], .nil, o, es, ep, e1, e2, e3, ?_, by rw [e0]; exact .nil, List.nodup_nil⟩
  intro e he
  rw [← Array.mem_toList_iff, e0] at he
  cases he
end
end Z

namespace Z
open PySem PySem.Spec PyProof.Rows L2

/-! ### dicts -/
def DAt (H : Hp) (a : Addr) (y : V) (o : Option V) (H' : Hp) : Prop := (DGet H a y o ∧ H' = H) ∨ (H a = some (.dK []) ∧ H' = upd H a (.dT []) ∧ DGet H' a y o) ∨ (H a = some (.dT []) ∧ H' = upd H a (.dK []) ∧ DGet H' a y o)
theorem DAt.inv {X : Cx} {pins : List (Addr × Obj)} {σ : L2.St} {H H' : Hp} {s : Shared} {a : Addr} {y : V} {o : Option V} (d : DAt H a y o H') (I : Inv X pins σ H s) : Inv X pins σ H' s ∧ DGet H' a y o := by
  rcases d with ⟨g, rfl⟩ | ⟨e, rfl, g⟩ | ⟨e, rfl, g⟩
  · exact ⟨I, g⟩
  · exact ⟨toT I e, g⟩
  · exact ⟨toK I e, g⟩
section
variable {K : PySem.W.Frag} {mg : G} {ι : List Addr} {H : Hp} {m : M}
theorem set_self {m : M} {n : Nat} {c : Cell} (h : m[n]? = some c) : m.set n c = m := by
  obtain ⟨h1, h2⟩ := List.getElem?_eq_some_iff.mp h
  rw [← h2]
  exact List.set_getElem_self h1
theorem dic_at (hm : HR K mg ι H m) {n : Nat} {a : Addr} {kvs : List (D × D)} (e : ι[n]? = some a) (h : m[n]? = some (.dic kvs)) : (∃ ws, H a = some (.dK ws) ∧ RepK K mg ι H kvs ws) ∨ ∃ ws, H a = some (.dT ws) ∧ RepT K mg ι H kvs ws := by
  obtain ⟨c, hc, cr⟩ := hm.lt e
  rw [h] at hc
  cases hc
  cases cr with
  | dK h1 h2 => exact .inl ⟨_, h1, h2⟩
  | dT h1 h2 => exact .inr ⟨_, h1, h2⟩
/-- the cell's dict, its kind turned -/
theorem turnE (hm : HR K mg ι H m) {n : Nat} {a : Addr} {o : HO} (e : ι[n]? = some a) (hc : m[n]? = some (.dic [])) (h2 : CellRep K mg ι (upd H a o) a (.dic [])) : Ext ι H ι (upd H a o) ∧ HR K mg ι (upd H a o) m := by
  obtain ⟨c, hc', cr⟩ := hm.lt e
  have ex : Ext ι H ι (upd H a o) := Ext.write hm e cr.notup.1 cr.notup.2
  refine ⟨ex, ?_⟩
  have := hm.write e ex h2
  rw [set_self hc] at this
  exact this
theorem dAt_of (hm : HR K mg ι H m) {n : Nat} {a : Addr} {kvs : List (D × D)} {k : D} {y : V} (e : ι[n]? = some a) (hc : m[n]? = some (.dic kvs)) (r : Rep K mg ι H k y) (hf : keyFits kvs k = true) :
    ∃ o H', DAt H a y o H' ∧ Ext ι H ι H' ∧ HR K mg ι H' m ∧ match valD kvs k with
      | some d => ∃ v, o = some v ∧ Rep K mg ι H' d v
      | none => o = none := by
  unfold keyFits at hf
  rw [Bool.and_eq_true] at hf
  obtain ⟨hk, hf⟩ := hf
  have two : (∃ q, keyOf k = some q) ∨ ∃ qs, keyT k = some qs := by
    unfold keyU at hk
    cases e1 : keyOf k with
    | some q => exact .inl ⟨q, rfl⟩
    | none =>
      rw [e1] at hk
      cases e2 : keyT k with
      | some qs => exact .inr ⟨qs, rfl⟩
      | none => rw [e2] at hk; cases hk
  rcases dic_at hm e hc with ⟨ws, h1, r1⟩ | ⟨ws, h1, r1⟩
  · rcases two with ⟨q, hq⟩ | ⟨qs, hq⟩
    · have ey := kV_of r hq
      subst ey
      refine ⟨valV ws q, H, .inl ⟨DGet.k h1, rfl⟩, .refl, hm, ?_⟩
      have := valD_K r1 hq
      split
      · rename_i d hd
        rw [hd] at this
        exact this
      · rename_i hd
        rw [hd] at this
        exact this
    · cases r1 with
      | nil =>
        obtain ⟨b, rfl, hb⟩ := keyT_at r hq
        have hab : b ≠ a := fun z => by subst z; rw [h1] at hb; cases hb
        obtain ⟨x1, x2⟩ := turnE hm e hc (o := .dT []) (.dT upd_same .nil)
        exact ⟨none, _, .inr (.inl ⟨h1, rfl, .inr ⟨[], qs, b, .inl upd_same, rfl, by rw [upd_ne hab]; exact hb, rfl⟩⟩), x1, x2, rfl⟩
      | cons hpq t =>
        exfalso
        simp only [isT, keyOf_T hpq.1, hq] at hf
        cases hf
  · rcases two with ⟨q, hq⟩ | ⟨qs, hq⟩
    · cases r1 with
      | nil =>
        have ey := kV_of r hq
        subst ey
        obtain ⟨x1, x2⟩ := turnE hm e hc (o := .dK []) (.dK upd_same .nil)
        exact ⟨none, _, .inr (.inr ⟨h1, rfl, .inl ⟨[], q, .inl upd_same, rfl, rfl⟩⟩), x1, x2, rfl⟩
      | cons hpq t =>
        exfalso
        simp only [isT, hpq.1, keyOf_T hq] at hf
        cases hf
    · obtain ⟨b, rfl, hb⟩ := keyT_at r hq
      refine ⟨valV ws qs, H, .inl ⟨DGet.t h1 hb, rfl⟩, .refl, hm, ?_⟩
      have := valD_T r1 hq
      split
      · rename_i d hd
        rw [hd] at this
        exact this
      · rename_i hd
        rw [hd] at this
        exact this
end
/-! ### in -/
def flatD : D → Bool
  | .non => true
  | .bl _ => true
  | .int _ => true
  | .str _ => true
  | _ => false
def eqF : D → D → Bool
  | .non, .non => true
  | .bl a, .bl b => a == b
  | .bl a, .int b => (if a then 1 else 0) == b
  | .int a, .bl b => a == (if b then 1 else 0)
  | .int a, .int b => a == b
  | .str a, .str b => a == b
  | _, _ => false
def inB (x y : D) (m : M) : Option Bool := match y with
  | .str z => match x with
    | .str w => if w.length = 1 then some (decide (w.cps.getD 0 0 ∈ z.cps.toList)) else none
    | _ => none
  | .tup ys => if (flatD x && ys.all flatD) = true then some (ys.any fun y => eqF y x) else none
  | .kt ys => if (flatD x && ys.all flatD) = true then some (ys.any fun y => eqF y x) else none
  | .fl ys => if (flatD x && ys.all flatD) = true then some (ys.any fun y => eqF y x) else none
  | .sl ys => if (flatD x && ys.all flatD) = true then some (ys.any fun y => eqF y x) else match toP deepest m x, toPs (toP deepest m) ys with
    | some p, some ps => if (SeqAt.shaped p && SeqAt.shaped (.list ps)) = true then some (ps.any fun z => PyData.eqv z p) else none
    | _, _ => none
  | .ref n => match m[n]? with
    | some (.lst ys) => if (flatD x && ys.all flatD) = true then some (ys.any fun y => eqF y x) else match toP deepest m x, toPs (toP deepest m) ys with
      | some p, some ps => if (SeqAt.shaped p && SeqAt.shaped (.list ps)) = true then some (ps.any fun z => PyData.eqv z p) else none
      | _, _ => none
    | some (.dic kvs) => if keyFits kvs x = true then some (valD kvs x).isSome else none
    | _ => none
  | _ => none
def oIn (x y : D) (m : M) : R D := match inB x y m with
  | some b => .ok (.bl b) m
  | none => .bad
def oNotIn (x y : D) (m : M) : R D := match inB x y m with
  | some b => .ok (.bl (!b)) m
  | none => .bad
section
variable {X : Cx} {ι : List Addr} {H : Hp}
theorem flat_rep {K : PySem.W.Frag} {mg : G} {x : D} {v : V} (r : Rep K mg ι H x v) (h : flatD x = true) : flatV v = true := by
  cases r <;> first | rfl | cases h
theorem eqF_rep {K : PySem.W.Frag} {mg : G} {x y : D} {v u : V} (r : Rep K mg ι H x v) (r2 : Rep K mg ι H y u) (h : flatD x = true) (h2 : flatD y = true) : eqV v u = eqF x y := by
  cases r <;> first | (cases h; done) | (cases r2 <;> first | (cases h2; done) | rfl)
theorem flats_rep {K : PySem.W.Frag} {mg : G} : ∀ {xs : List D} {vs : List V}, RepL K mg ι H xs vs → xs.all flatD = true → vs.all flatV = true
  | _, _, .nil, _ => rfl
  | _, _, .cons r t, h => by
    rw [List.all_cons, Bool.and_eq_true] at h ⊢
    exact ⟨flat_rep r h.1, flats_rep t h.2⟩
theorem inV_rep {K : PySem.W.Frag} {mg : G} {x : D} {v : V} (r : Rep K mg ι H x v) (hx : flatD x = true) : ∀ {xs : List D} {vs : List V}, RepL K mg ι H xs vs → xs.all flatD = true → inV v vs = xs.any fun y => eqF y x
  | _, _, .nil, _ => rfl
  | _, _, .cons r1 t, h => by
    rw [List.all_cons, Bool.and_eq_true] at h
    have ih := inV_rep r hx t h.2
    unfold inV at ih ⊢
    rw [List.any_cons, List.any_cons, ih, eqF_rep r1 r h.1 hx]
/-- the readings of in (neg: not in) -/
def rInZ (K : PySem.W.Frag) (neg : Bool) : R2 := fun x y H Q => ∃ b, Q (.bl (if neg then !b else b)) H ∧ ((∃ (c : Nat) (z : Str), x = .str ⟨#[c]⟩ ∧ y = .str z ∧ b = decide (c ∈ z.cps.toList)) ∨
  (∃ p xs, y = .ref p ∧ (SqL K H p xs ∨ SqT K H p xs) ∧ flatV x = true ∧ xs.all flatV = true ∧ b = inV x xs) ∨
  (∃ d ds, Dp K H x d ∧ Dp K H y (.list ds) ∧ SeqAt.shaped d = true ∧ SeqAt.shaped (.list ds) = true ∧ b = ds.any fun z => PyData.eqv z d))
def rInZD (neg : Bool) : R2 := fun x y H Q => ∃ a o H', y = .ref a ∧ DAt H a x o H' ∧ Q (.bl (if neg then !o.isSome else o.isSome)) H'
theorem opr_in (hu : X.A.units + 65 < cLine) : OpR X (compareOp .In) (fun x y H Q => rInZ X.K false x y H Q ∨ rInZD false x y H Q) := by
  intro pins s σ H x y v u Q I rx ry h
  rcases h with ⟨b, q, h⟩ | ⟨a, o, H', rfl, d, q⟩
  · rcases h with ⟨c, z, e1, e2, e3⟩ | ⟨p, xs, e1, h1, h2, h3, e3⟩ | ⟨d, ds, h1, h2, h3, h4, e3⟩
    · exact op_in_sign pins s σ H x y v u Q I rx ry ⟨c, z, e1, e2, by rw [← e3]; exact q⟩
    · exact op_in_seq pins s σ H x y v u Q I rx ry ⟨p, xs, e1, h1, h2, h3, by rw [← e3]; exact q⟩
    · exact op_inD hu pins s σ H x y v u Q I rx ry ⟨d, ds, h1, h2, h3, h4, by rw [← e3]; exact q⟩
  · cases ry
    obtain ⟨I', g⟩ := d.inv I
    exact d_in (by omega) I' g rx fun s' I2 => ⟨.bl _, H', I2, rfl, q⟩
theorem opr_notin (hu : X.A.units + 65 < cLine) : OpR X (compareOp .NotIn) (fun x y H Q => rInZ X.K true x y H Q ∨ rInZD true x y H Q) := by
  intro pins s σ H x y v u Q I rx ry h
  rcases h with ⟨b, q, h⟩ | ⟨a, o, H', rfl, d, q⟩
  · rcases h with ⟨c, z, e1, e2, e3⟩ | ⟨p, xs, e1, h1, h2, h3, e3⟩ | ⟨d, ds, h1, h2, h3, h4, e3⟩
    · exact op_notIn_sign pins s σ H x y v u Q I rx ry ⟨c, z, e1, e2, by rw [← e3]; exact q⟩
    · exact op_notIn_seq pins s σ H x y v u Q I rx ry ⟨p, xs, e1, h1, h2, h3, by rw [← e3]; exact q⟩
    · exact op_notInD hu pins s σ H x y v u Q I rx ry ⟨d, ds, h1, h2, h3, h4, by rw [← e3]; exact q⟩
  · cases ry
    obtain ⟨I', g⟩ := d.inv I
    exact d_notIn (by omega) I' g rx fun s' I2 => ⟨.bl _, H', I2, rfl, q⟩
theorem inB_ok {E : XK} {m : M} {neg : Bool} {x y : D} {v u : V} {Q : VK} {b : Bool} (hm : HR X.K (X.mg, F) ι H m) (rx : Rep X.K (X.mg, F) ι H x v) (ry : Rep X.K (X.mg, F) ι H y u) (hb : inB x y m = some b)
    (hp : Post X.K (X.mg, F) (relE X.K (X.mg, F)) E ι H Q (.ok (.bl (if neg then !b else b)) m)) : rInZ X.K neg v u H Q ∨ rInZD neg v u H Q := by
  have seq : ∀ {ys : List D} {p : Addr} {us : List V}, (SqL X.K H p us ∨ SqT X.K H p us) → RepL X.K (X.mg, F) ι H ys us → u = .ref p → (flatD x && ys.all flatD) = true → b = ys.any (fun y => eqF y x) → rInZ X.K neg v u H Q := fun {ys p us} hs hr eu hf eb => by
    rw [Bool.and_eq_true] at hf
    refine ⟨b, hp.okI hm (.bl _), .inr (.inl ⟨p, us, eu, hs, flat_rep rx hf.1, flats_rep hr hf.2, ?_⟩)⟩
    rw [eb, inV_rep rx hf.1 hr hf.2]
  unfold inB at hb
  split at hb
  · split at hb
    · split at hb
      · rename_i w hw
        cases hb
        cases rx; cases ry
        refine .inl ⟨_, hp.okI hm (.bl _), .inl ⟨w.cps.getD 0 0, _, ?_, rfl, rfl⟩⟩
        congr 1
        obtain ⟨cs⟩ := w
        obtain ⟨l⟩ := cs
        have hw : l.length = 1 := hw
        match l, hw with
        | [c], _ => rfl
      · cases hb
    · cases hb
  · split at hb
    · rename_i hf
      cases hb
      cases ry with
      | tup h1 r1 => exact .inl (seq (.inr (.of h1)) r1 rfl hf rfl)
    · cases hb
  · split at hb
    · rename_i hf
      cases hb
      cases ry with
      | kt h1 r1 => exact .inl (seq (.inr h1.sq) r1 rfl hf rfl)
    · cases hb
  · split at hb
    · rename_i hf
      cases hb
      cases ry with
      | fl h1 r1 => exact .inl (seq (.inl h1.sq) r1 rfl hf rfl)
    · cases hb
  · cases ry with
    | sl _ h1 r1 =>
      split at hb
      · rename_i hf
        cases hb
        exact .inl (seq (.inl (.of h1)) r1 rfl hf rfl)
      · split at hb
        · rename_i p ps e1 e2
          split at hb
          · rename_i hs
            cases hb
            rw [Bool.and_eq_true] at hs
            exact .inl ⟨_, hp.okI hm (.bl _), .inr (.inr ⟨p, ps, dp_of hm _ _ _ _ e1 rx, .lst (.of h1) (dpAll (dp_of hm _) e2 r1), hs.1, hs.2, rfl⟩)⟩
          · cases hb
        · cases hb
  · cases ry with
    | ref e =>
      split at hb
      · rename_i ys hc
        obtain ⟨us, h1, r1⟩ := lst_at hm e hc
        split at hb
        · rename_i hf
          cases hb
          exact .inl (seq (.inl (.of h1)) r1 rfl hf rfl)
        · split at hb
          · rename_i p ps e1 e2
            split at hb
            · rename_i hs
              cases hb
              rw [Bool.and_eq_true] at hs
              exact .inl ⟨_, hp.okI hm (.bl _), .inr (.inr ⟨p, ps, dp_of hm _ _ _ _ e1 rx, .lst (.of h1) (dpAll (dp_of hm _) e2 r1), hs.1, hs.2, rfl⟩)⟩
            · cases hb
          · cases hb
      · rename_i kvs hc
        split at hb
        · rename_i hf
          cases hb
          obtain ⟨o, H', hd, ex, hm', ho⟩ := dAt_of hm e hc rx hf
          refine .inr ⟨_, o, H', rfl, hd, ?_⟩
          have eo : o.isSome = (valD kvs x).isSome := by
            split at ho
            · rename_i d hv
              obtain ⟨w, rfl, _⟩ := ho
              rw [hv] <;> rfl
            · rename_i hv
              rw [ho, hv] <;> rfl
          rw [eo]
          exact hp ι H' _ ex hm' (.bl _)
        · cases hb
      · cases hb
  · cases hb
theorem op2_in : Op2 X (fun x y H Q => rInZ X.K false x y H Q ∨ rInZD false x y H Q) oIn := fun F E ι H m x y v u Q hm rx ry hp => by
  unfold oIn at hp
  split at hp
  · rename_i b hb
    exact inB_ok (neg := false) hm rx ry hb hp
  · exact hp.elim
theorem op2_notin : Op2 X (fun x y H Q => rInZ X.K true x y H Q ∨ rInZD true x y H Q) oNotIn := fun F E ι H m x y v u Q hm rx ry hp => by
  unfold oNotIn at hp
  split at hp
  · rename_i b hb
    exact inB_ok (neg := true) hm rx ry hb hp
  · exact hp.elim
end
end Z

namespace Z
open PySem PySem.Spec PyProof.Rows L2

/-! ### reading by subscript -/
def oIx (x y : D) (m : M) : R D := match x with
  | .tup xs => match y with
    | .int i => match atD xs i with
      | some d => .ok d m
      | none => .bad
    | _ => .bad
  | .kt xs => match y with
    | .int i => match atD xs i with
      | some d => .ok d m
      | none => .bad
    | _ => .bad
  | .fl xs => match y with
    | .int i => match atD xs i with
      | some d => .ok d m
      | none => .bad
    | _ => .bad
  | .sl xs => match y with
    | .int i => match atD xs i with
      | some d => .ok d m
      | none => .bad
    | _ => .bad
  | .str z => match y with
    | .int i => if z.length ≤ line then (match (ixD z.length i).bind fun j => z.cps.toList[j]? with
      | some c => .ok (.str ⟨#[c]⟩) m
      | none => .bad) else .bad
    | _ => .bad
  | .ref n => match m[n]? with
    | some (.lst xs) => match y with
      | .int i => match atD xs i with
        | some d => .ok d m
        | none => .bad
      | _ => .bad
    | some (.dic kvs) => if keyFits kvs y = true then (match valD kvs y with
      | some d => .ok d m
      | none => .bad) else .bad
    | _ => .bad
  | _ => .bad
def rIxD : R2 := fun x y H Q => ∃ a v H', x = .ref a ∧ DAt H a y (some v) H' ∧ Q v H'
section
variable {X : Cx}
theorem ix_dict (hu : X.A.units + 65 < cLine) : IxR X rIxD := by
  intro value slice pins s σ H x y v u Q I rx ry ⟨a, w, H', e, d, q⟩ hs
  subst e
  cases rx
  obtain ⟨I', g⟩ := d.inv I
  exact tail_any (dict_typeIs I' g) PySem.F.slot_dict_getitem.lookup (d_getItem (by omega) I' g ry fun w' s3 I3 rw' => ⟨w, H', I3, rw', q⟩) hs
abbrev rIxA (K : PySem.W.Frag) : R2 := fun x y H Q => rIx K x y H Q ∨ rIxD x y H Q
theorem op2_ix : Op2 X (rIxA X.K) oIx := fun F E ι H m x y v u Q hm rx ry hp => by
  have seq : ∀ {ys : List D} {p : Addr} {us : List V} {i : Int}, (SqL X.K H p us ∨ SqT X.K H p us) → RepL X.K (X.mg, F) ι H ys us → v = .ref p → u = .int i → Post X.K (X.mg, F) (relE X.K (X.mg, F)) E ι H Q (match atD ys i with
      | some d => .ok d m
      | none => .bad) → rIx X.K v u H Q := fun {ys p us i} hs hr ev eu hp => by
    split at hp
    · rename_i d hd
      obtain ⟨w, h1, h2⟩ := atI_rep hr hd
      rcases hs with hs | hs
      · exact .inl ⟨p, us, i, w, ev, eu, hs, h1, hp.okI hm h2⟩
      · exact .inr (.inl ⟨p, us, i, w, ev, eu, hs, h1, hp.okI hm h2⟩)
    · exact hp.elim
  unfold oIx at hp
  split at hp
  · split at hp
    · cases ry
      cases rx with
      | tup h1 r1 => exact .inl (seq (.inr (.of h1)) r1 rfl rfl hp)
    · exact hp.elim
  · split at hp
    · cases ry
      cases rx with
      | kt h1 r1 => exact .inl (seq (.inr h1.sq) r1 rfl rfl hp)
    · exact hp.elim
  · split at hp
    · cases ry
      cases rx with
      | fl h1 r1 => exact .inl (seq (.inl h1.sq) r1 rfl rfl hp)
    · exact hp.elim
  · split at hp
    · cases ry
      cases rx with
      | sl _ h1 r1 => exact .inl (seq (.inl (.of h1)) r1 rfl rfl hp)
    · exact hp.elim
  · split at hp
    · split at hp
      · rename_i hl
        split at hp
        · rename_i c hc
          cases ry; cases rx
          refine .inl (.inr (.inr ⟨_, _, c, rfl, rfl, by rw [line_eq]; exact hl, ?_, hp.okI hm (.str _)⟩))
          unfold atI
          rw [Array.length_toList]
          exact hc
        · exact hp.elim
      · exact hp.elim
    · exact hp.elim
  · cases rx with
    | ref e =>
      split at hp
      · rename_i xs hc
        split at hp
        · cases ry
          obtain ⟨us, h1, r1⟩ := lst_at hm e hc
          exact .inl (seq (.inl (.of h1)) r1 rfl rfl hp)
        · exact hp.elim
      · rename_i kvs hc
        split at hp
        · rename_i hf
          split at hp
          · rename_i d hd
            obtain ⟨o, H', hda, ex, hm', ho⟩ := dAt_of hm e hc ry hf
            rw [hd] at ho
            obtain ⟨w, rfl, hw⟩ := ho
            exact .inr ⟨_, w, H', rfl, hda, hp ι H' _ ex hm' hw⟩
          · exact hp.elim
        · exact hp.elim
      · exact hp.elim
  · exact hp.elim
theorem z_ix {W : WX} {a b : Expr} {f h : EF} {pos : Pos} (hu : X.A.units + 65 < cLine) (ha : ZE X W a f) (hb : ZE X W b h) (hs : PlainIx b := by intro _ _; rfl) : ZE X W (.Subscript a b pos) (eBin oIx f h) :=
  PE.imp (pe_ix (ix_seq.or (ix_dict hu)) ha hb hs) fun σ H Q q => two op2_ix q
end
/-! ### slices -/
def cutD (xs : List D) (lo hi : Option Int) : List D := (xs.drop (HT.sIx xs.length 0 lo)).take (HT.sIx xs.length xs.length hi - HT.sIx xs.length 0 lo)
def oSl (x : D) (lo hi : Option Int) (m : M) : R D := match x with
  | .tup xs => .ok (.tup (cutD xs lo hi)) m
  | .str z => if z.length ≤ line then .ok (.str (cutS z lo hi)) m else .bad
  | .fl xs => .ok (.sl (cutD xs lo hi)) m
  | .sl xs => .ok (.sl (cutD xs lo hi)) m
  | .ref n => match m[n]? with
    | some (.lst xs) => .ok (.sl (cutD xs lo hi)) m
    | _ => .bad
  | _ => .bad
abbrev OF := Rho → M → R (Option Int)
def oNo : OF := fun _ m => .ok none m
def oSome (f : EF) : OF := fun ρ m => (f ρ m).bind fun d m1 => match d with
  | .int i => .ok (some i) m1
  | _ => .bad
def eSl (f : EF) (lo hi : OF) : EF := fun ρ m => (f ρ m).bind fun x m1 => (lo ρ m1).bind fun l m2 => (hi ρ m2).bind fun u m3 => oSl x l u m3
abbrev relO : Relt (Option Int) (Option Int) := fun _ _ a b => a = b
def tO (K : PySem.W.Frag) (mg : Str → Option Value) (W : WX) (f : OF) : TO := fun σ H Q => ∃ F ι ρ m, EnvR K (mg, F) ι H ρ σ ∧ HR K (mg, F) ι H m ∧ Post K (mg, F) relO (fun c d H' => W c d σ H') ι H Q (f ρ m)
abbrev ZO (X : Cx) (W : WX) (e : Option Expr) (f : OF) : Prop := PO X e (tO X.K X.mg W f)
def PO.imp {X : Cx} {e : Option Expr} {t t' : TO} (h : PO X e t) (i : ∀ σ H Q, t' σ H Q → t σ H Q) : PO X e t' := ⟨fun pins s σ H Q I q => h.run pins s σ H Q I (i _ _ _ q)⟩
section
variable {X : Cx} {W : WX}
theorem zo_none : ZO X W none oNo := PO.imp po_none fun σ H Q ⟨F, ι, ρ, m, hρ, hm, hp⟩ => hp.okI hm rfl
theorem zo_some {e : Expr} {f : EF} (he : ZE X W e f) : ZO X W (some e) (oSome f) := PO.imp (po_some he) fun σ H Q ⟨F, ι, ρ, m, hρ, hm, hp⟩ => ⟨F, ι, ρ, m, hρ, hm, by
  refine Post.seq hp fun d m1 ι1 H1 v _ e1 h1 r1 hp1 => ?_
  cases r1 with
  | int i => exact ⟨i, rfl, hp1.okI h1 rfl⟩
  | _ => exact hp1.elim⟩
theorem RepL.cut {K : PySem.W.Frag} {mg : G} {ι : List Addr} {H : Hp} {xs : List D} {vs : List V} (r : RepL K mg ι H xs vs) (lo hi : Option Int) : RepL K mg ι H (cutD xs lo hi) (cutV vs lo hi) := by
  unfold cutD cutV
  rw [r.length]
  exact (r.drop _).take _
theorem z_slice {a : Expr} {lo hi : Option Expr} {f : EF} {l u : OF} {p2 pos : Pos} (ha : ZE X W a f) (hl : ZO X W lo l) (hh : ZO X W hi u) : ZE X W (.Subscript a (.Slice lo hi none p2) pos) (eSl f l u) := by
  refine PE.imp (pe_slice (sl_tupA.or (sl_list.or sl_str)) ha hl hh) fun σ H Q ⟨F, ι, ρ, m, hρ, hm, hp⟩ => ⟨F, ι, ρ, m, hρ, hm, ?_⟩
  refine Post.seq hp fun x m1 ι1 H1 v _ e1 h1 r1 hp1 => ⟨F, ι1, ρ, m1, hρ.mono e1, h1, ?_⟩
  refine Post.seq hp1 fun li m2 ι2 H2 lv _ e2 h2 r2 hp2 => ⟨F, ι2, ρ, m2, (hρ.mono e1).mono e2, h2, ?_⟩
  refine Post.seq hp2 fun ui m3 ι3 H3 uv _ e3 h3 r3 hp3 => ?_
  cases r2
  cases r3
  have rx := (r1.mono e2).mono e3
  unfold oSl at hp3
  split at hp3
  · cases rx with
    | @tup xs a vs hs hr =>
      have hc := hr.cut li ui
      refine .inl ⟨_, _, rfl, .of hs, fun hw => ?_, fun _ p hn => hp3.newT h3 hc hn⟩
      have e : cutV vs li ui = vs := by
        unfold cutV
        rw [hw.1, hw.2, List.drop_zero, Nat.sub_zero]
        exact List.take_length
      rw [e] at hc
      exact hp3.okI h3 (.tup hs hc)
  · split at hp3
    · rename_i hl
      cases rx
      exact .inr (.inr ⟨_, rfl, by rw [line_eq]; exact hl, hp3.okI h3 (.str _)⟩)
    · exact hp3.elim
  · cases rx with
    | fl hs hr => exact .inr (.inl ⟨_, _, rfl, hs.sq, fun p hn => hp3.newS h3 (hr.cut li ui) hn⟩)
  · cases rx with
    | sl _ hs hr => exact .inr (.inl ⟨_, _, rfl, .of hs, fun p hn => hp3.newS h3 (hr.cut li ui) hn⟩)
  · split at hp3
    · rename_i xs hc
      cases rx with
      | ref e =>
        obtain ⟨vs, hs, hr⟩ := lst_at h3 e hc
        exact .inr (.inl ⟨_, _, rfl, .of hs, fun p hn => hp3.newS h3 (hr.cut li ui) hn⟩)
    · exact hp3.elim
  · exact hp3.elim
end
/-! ### len, isinstance, conversions -/
def lenD (m : M) : D → Option Nat
  | .str z => if z.length ≤ line then some z.length else none
  | .tup xs => some xs.length
  | .kt xs => some xs.length
  | .fl xs => some xs.length
  | .sl xs => some xs.length
  | .ref n => match m[n]? with
    | some (.lst xs) => some xs.length
    | some (.dic kvs) => some kvs.length
    | _ => none
  | _ => none
def bLen (ds : List D) (m : M) : R D := match ds with
  | [d] => match lenD m d with
    | some n => .ok (.int n) m
    | none => .bad
  | _ => .bad
theorem paired_len {α β : Type} {F : α → β → Prop} : ∀ {l₁ : List α} {l₂ : List β}, Paired F l₁ l₂ → l₁.length = l₂.length
  | _, _, .nil => rfl
  | _, _, .cons _ t => by rw [List.length_cons, List.length_cons, paired_len t]
section
variable {X : Cx}
abbrev rLenA (K : PySem.W.Frag) : List V → Hp → VK → Prop := fun xs H Q => (∃ p ys, xs = [.ref p] ∧ (SqL K H p ys ∨ SqT K H p ys) ∧ Q (.int ys.length) H) ∨ (∃ z, xs = [.str z] ∧ z.length ≤ sizeLine ∧ Q (.int z.length) H) ∨
  (∃ (d : Addr) (kvs : List (Key × V)), xs = [V.ref d] ∧ H d = some (.dK kvs) ∧ Q (.int kvs.length) H) ∨ rLenT xs H Q
theorem cr_len : CallR X (.builtin "len") (rLenA X.K) := call_len_seq.or (call_len_str.or (call_lenD.or call_len_dT))
theorem opl_len : OpL X (rLenA X.K) bLen := fun F E ι H m xs vs Q hm r hp => by
  unfold bLen at hp
  split at hp
  · split at hp
    · rename_i d n hn
      cases r with
      | cons r1 r2 =>
        cases r2
        unfold lenD at hn
        split at hn
        · split at hn
          · rename_i hl
            cases hn
            cases r1
            exact .inr (.inl ⟨_, rfl, by rw [line_eq]; exact hl, hp.okI hm (.int _)⟩)
          · cases hn
        · cases hn
          cases r1 with
          | tup h1 h2 =>
            refine .inl ⟨_, _, rfl, .inr (.of h1), ?_⟩
            rw [← h2.length]
            exact hp.okI hm (.int _)
        · cases hn
          cases r1 with
          | kt h1 h2 =>
            refine .inl ⟨_, _, rfl, .inr h1.sq, ?_⟩
            rw [← h2.length]
            exact hp.okI hm (.int _)
        · cases hn
          cases r1 with
          | fl h1 h2 =>
            refine .inl ⟨_, _, rfl, .inl h1.sq, ?_⟩
            rw [← h2.length]
            exact hp.okI hm (.int _)
        · cases hn
          cases r1 with
          | sl _ h1 h2 =>
            refine .inl ⟨_, _, rfl, .inl (.of h1), ?_⟩
            rw [← h2.length]
            exact hp.okI hm (.int _)
        · cases r1 with
          | ref e =>
            split at hn
            · rename_i ys hc
              cases hn
              obtain ⟨us, h1, h2⟩ := lst_at hm e hc
              refine .inl ⟨_, _, rfl, .inl (.of h1), ?_⟩
              rw [← h2.length]
              exact hp.okI hm (.int _)
            · rename_i kvs hc
              cases hn
              rcases dic_at hm e hc with ⟨ws, h1, h2⟩ | ⟨ws, h1, h2⟩
              · refine .inr (.inr (.inl ⟨_, _, rfl, h1, ?_⟩))
                rw [← paired_len h2]
                exact hp.okI hm (.int _)
              · refine .inr (.inr (.inr ⟨_, _, rfl, h1, ?_⟩))
                rw [← paired_len h2]
                exact hp.okI hm (.int _)
            · cases hn
        · cases hn
    · exact hp.elim
  · exact hp.elim
end
/-! isinstance -/
def tyName (m : M) : D → Option String
  | .non => some "NoneType"
  | .bl _ => some "bool"
  | .int _ => some "int"
  | .str _ => some "str"
  | .tup _ => some "tuple"
  | .kt _ => some "tuple"
  | .fl _ => some "list"
  | .sl _ => some "list"
  | .ref n => match m[n]? with
    | some (.lst _) => some "list"
    | some (.dic _) => some "dict"
    | _ => none
  | _ => none
/-- is a a subtype of b, of the built-in ones that come here -/
def subTy (a b : String) : Option Bool := if (["NoneType", "bool", "int", "str", "tuple", "list", "dict"].contains a && ["bool", "int", "str", "tuple", "list", "dict"].contains b) = true then some (a == b || (a == "bool" && b == "int")) else none
theorem subTy_ok {a b : String} {r : Bool} (h : subTy a b = some r) : kitB a b = some r := by
  unfold subTy at h
  split at h
  · rename_i hc
    cases h
    rw [Bool.and_eq_true, List.contains_iff_mem, List.contains_iff_mem] at hc
    obtain ⟨h1, h2⟩ := hc
    have all : ∀ a ∈ ["NoneType", "bool", "int", "str", "tuple", "list", "dict"], ∀ b ∈ ["bool", "int", "str", "tuple", "list", "dict"], kitB a b = some (a == b || (a == "bool" && b == "int")) := by decide +kernel
    exact all a h1 b h2
  · cases h
theorem ty_rep {K : PySem.W.Frag} {mg : G} {ι : List Addr} {H : Hp} {m : M} (hm : HR K mg ι H m) {d : D} {v : V} {n : String} (r : Rep K mg ι H d v) (h : tyName m d = some n) : TyX K H v (.type n) := by
  cases r with
  | non => cases h; exact .base .non
  | bl b => cases h; exact .base (.bl b)
  | int i => cases h; exact .base (.int i)
  | str x => cases h; exact .base (.str x)
  | tup h1 _ => cases h; exact .base (.tup h1)
  | kt h1 _ =>
    cases h
    obtain ⟨o, its, k, h1, h2, _⟩ := h1
    exact .kTuple h1 h2
  | fl h1 _ =>
    cases h
    rcases h1 with ⟨o, h1⟩ | ⟨o, its, k, h1, h2, _⟩
    · exact .base (.frz h1)
    · exact .kList h1 h2
  | sl _ h1 _ => cases h; exact .base (.lst h1)
  | exc _ _ _ _ _ _ => cases h
  | ex0 _ _ _ => cases h
  | ref e =>
    obtain ⟨c, hc, cr⟩ := hm.lt e
    unfold tyName at h
    dsimp only at h
    rw [hc] at h
    cases cr with
    | lst h1 _ => cases h; exact .base (.lst h1)
    | dK h1 _ => cases h; exact .base (.dK h1)
    | dT h1 _ => cases h; exact .base (.dT h1)
    | ins _ _ _ => cases h
  | glo _ => cases h
  | ty _ => cases h
def bIsi (ds : List D) (m : M) : R D := match ds with
  | [d, .ty b] => match tyName m d with
    | some a => match subTy a b with
      | some r => .ok (.bl r) m
      | none => .bad
    | none => .bad
  | _ => .bad
section
variable {X : Cx}
theorem opl_isi : OpL X (rIsi X.K) bIsi := fun F E ι H m xs vs Q hm r hp => by
  unfold bIsi at hp
  split at hp
  · rename_i d b
    split at hp
    · rename_i a hn
      split at hp
      · rename_i res hs
        cases r with
        | cons r1 r2 =>
          cases r2 with
          | cons r2 r3 =>
            cases r3
            cases r2
            exact ⟨_, _, _, _, res, rfl, .ty b, ty_rep hm r1 hn, kit_ty (subTy_ok hs), hp.okI hm (.bl _)⟩
      · exact hp.elim
    · exact hp.elim
  · exact hp.elim
end
/-- isinstance(x, (T, U)) -/
def eIsi2 (f : EF) (b c : String) : EF := fun ρ m => (f ρ m).bind fun d m1 => match tyName m1 d with
  | some a => match subTy a b, subTy a c with
    | some r, some q => .ok (.bl (r || q)) m1
    | _, _ => .bad
  | none => .bad
section
variable {X : Cx} {W : WX}
theorem z_ty {x : Str} {n : String} {pos : Pos} (hg : Gl X x) (hm : X.mg x = none) (hv : bootBuiltins x = some (.type n)) (hn : x ≠ "__name__" := by decide) (hd : (x == ("__debug__" : Str)) = false := by decide) : ZE X W (.Name x pos) (eCon (.ty n)) :=
  z_con (v := .ty n) (pe_bltn hg hm hv rfl hn hd) fun _ _ _ => .ty n
theorem z_isi2 {e t1 t2 : Expr} {f : EF} {b c : String} {p pos tp : Pos} {k : Nat} (hg : Gl X "isinstance") (hm : X.mg "isinstance" = none) (hv : bootBuiltins "isinstance" = some (.builtin "isinstance")) (ha : ZE X W e f) (h1 : ZE X W t1 (eCon (.ty b))) (h2 : ZE X W t2 (eCon (.ty c)))
    (s1 : starEach [t1, t2] X.env = (false, eval t1 X.env) :: starEach [t2] X.env := by rfl) (s2 : starEach [t2] X.env = (false, eval t2 X.env) :: starEach [] X.env := by rfl)
    (he : starEach [e, .Tuple [t1, t2] k tp] X.env = (false, eval e X.env) :: starEach [.Tuple [t1, t2] k tp] X.env := by rfl) (hpl : (backTo pos (starEach [.Tuple [t1, t2] k tp] X.env)).any (·.1) = false := by rfl) :
    ZE X W (.Call (.Name "isinstance" p) [e, .Tuple [t1, t2] k tp] [] pos) (eIsi2 f b c) := by
  have hA : ZA X W [e, .Tuple [t1, t2] k tp] (aCons f (aCons (eTup (aCons (eCon (.ty b)) (aCons (eCon (.ty c)) aNil))) aNil)) := za_cons ha (za_cons (z_tup (za_cons h1 (za_cons h2 za_nil s2) s1)) za_nil (by rfl)) he
  refine PE.imp (pe_callB call_isiT hg hm hv hA (by decide) (by decide) he hpl) fun σ H Q ⟨F, ι, ρ, m, hρ, hm, hp⟩ => ⟨F, ι, ρ, m, hρ, hm, ?_⟩
  unfold eIsi2 at hp
  unfold aCons aNil eTup
  cases q : f ρ m with
  | bad => rw [q] at hp; exact hp
  | err x m1 => rw [q] at hp; exact hp
  | ok d m1 =>
    rw [q] at hp
    have hp : Post X.K (X.mg, F) (relE X.K (X.mg, F)) (fun c d H' => W c d σ H') ι H Q (match tyName m1 d with
      | some a => match subTy a b, subTy a c with
        | some r, some q => .ok (.bl (r || q)) m1
        | _, _ => .bad
      | none => .bad) := hp
    show Post X.K (X.mg, F) (relA X.K (X.mg, F)) _ ι H _ (.ok [d, .tup [.ty b, .ty c]] m1)
    intro ι' H' vs e1 hm1 rr
    split at hp
    · rename_i a hn
      split at hp
      · rename_i r1 r2 hs1 hs2
        cases rr with
        | cons ra rb =>
          cases rb with
          | cons rb rc =>
            cases rc
            cases rb with
            | tup ht hr =>
              cases hr with
              | cons x1 hr =>
                cases hr with
                | cons x2 hr =>
                  cases hr
                  cases x1; cases x2
                  refine ⟨_, _, _, _, [.type b, .type c], r1 || r2, rfl, ht, .cons (.ty b) (.cons (.ty c) .nil), ty_rep hm1 ra hn, ?_, hp ι' H' _ e1 hm1 (.bl _)⟩
                  refine kitAny_cons (kit_ty (subTy_ok hs1)) (fun e => ?_) (fun e => by rw [e]; rfl)
                  refine kitAny_cons (kit_ty (subTy_ok hs2)) (fun e2 => by rw [e, e2]; rfl) (fun e2 => by rw [e2]; exact Bool.or_true _)
      · exact hp.elim
    · exact hp.elim
end
/-! tuple(x), list(x), int(x), str(x), repr(x), max, min, any, all -/
def seqD (m : M) : D → Option (List D)
  | .tup xs => some xs
  | .kt xs => some xs
  | .fl xs => some xs
  | .sl xs => some xs
  | .ref n => match m[n]? with
    | some (.lst xs) => some xs
    | _ => none
  | _ => none
def bList (ds : List D) (m : M) : R D := match ds with
  | [d] => match seqD m d with
    | some xs => .ok (.ref m.length) (m ++ [.lst xs])
    | none => .bad
  | _ => .bad
def bListS (ds : List D) (m : M) : R D := match ds with
  | [d] => match seqD m d with
    | some xs => .ok (.sl xs) m
    | none => .bad
  | _ => .bad
def bTuple (ds : List D) (m : M) : R D := match ds with
  | [.ref n] => match m[n]? with
    | some (.lst xs) => .ok (.tup xs) m
    | _ => .bad
  | [.fl xs] => .ok (.tup xs) m
  | [.sl xs] => .ok (.tup xs) m
  | [.tup xs] => .ok (.tup xs) m
  | _ => .bad
def bInt (ds : List D) (m : M) : R D := match ds with
  | [.int i] => .ok (.int i) m
  | [.bl b] => .ok (.int (if b then 1 else 0)) m
  | _ => .bad
def bMax2 (ds : List D) (m : M) : R D := match ds with
  | [.int i, .int j] => .ok (.int (if j > i then j else i)) m
  | _ => .bad
def bMin2 (ds : List D) (m : M) : R D := match ds with
  | [.int i, .int j] => .ok (.int (if j < i then j else i)) m
  | _ => .bad
def blsD : List D → Option (List Bool)
  | [] => some []
  | .bl b :: r => (blsD r).map (b :: ·)
  | _ :: _ => none
def bAll (ds : List D) (m : M) : R D := match ds with
  | [d] => match (seqL m d).bind blsD with
    | some bs => .ok (.bl (bs.all id)) m
    | none => .bad
  | _ => .bad
where seqL (m : M) : D → Option (List D)
  | .fl xs => some xs
  | .sl xs => some xs
  | .ref n => match m[n]? with
    | some (.lst xs) => some xs
    | _ => none
  | _ => none
def bAny (ds : List D) (m : M) : R D := match ds with
  | [d] => match (bAll.seqL m d).bind blsD with
    | some bs => .ok (.bl (bs.any id)) m
    | none => .bad
  | _ => .bad
section
variable {X : Cx} {K : PySem.W.Frag} {mg : G} {ι : List Addr} {H : Hp} {m : M}
theorem seqD_rep (hm : HR K mg ι H m) {d : D} {v : V} {xs : List D} (r : Rep K mg ι H d v) (h : seqD m d = some xs) : ∃ p vs, v = .ref p ∧ (SqL K H p vs ∨ SqT K H p vs) ∧ RepL K mg ι H xs vs := by
  cases r with
  | tup h1 h2 => cases h; exact ⟨_, _, rfl, .inr (.of h1), h2⟩
  | kt h1 h2 => cases h; exact ⟨_, _, rfl, .inr h1.sq, h2⟩
  | fl h1 h2 => cases h; exact ⟨_, _, rfl, .inl h1.sq, h2⟩
  | sl _ h1 h2 => cases h; exact ⟨_, _, rfl, .inl (.of h1), h2⟩
  | @ref n a e =>
    have h : (match m[n]? with | some (.lst xs) => some xs | _ => none) = some xs := h
    split at h
    · rename_i ys hc
      cases h
      obtain ⟨us, h1, h2⟩ := lst_at hm e hc
      exact ⟨_, us, rfl, .inl (.of h1), h2⟩
    · cases h
  | _ => cases h
theorem seqL_rep (hm : HR K mg ι H m) {d : D} {v : V} {xs : List D} (r : Rep K mg ι H d v) (h : bAll.seqL m d = some xs) : ∃ p vs, v = .ref p ∧ SqL K H p vs ∧ RepL K mg ι H xs vs := by
  cases r with
  | fl h1 h2 => cases h; exact ⟨_, _, rfl, h1.sq, h2⟩
  | sl _ h1 h2 => cases h; exact ⟨_, _, rfl, .of h1, h2⟩
  | @ref n a e =>
    have h : (match m[n]? with | some (.lst xs) => some xs | _ => none) = some xs := h
    split at h
    · rename_i ys hc
      cases h
      obtain ⟨us, h1, h2⟩ := lst_at hm e hc
      exact ⟨_, us, rfl, .of h1, h2⟩
    · cases h
  | _ => cases h
theorem bls_rep : ∀ {xs : List D} {vs : List V} {bs : List Bool}, RepL K mg ι H xs vs → blsD xs = some bs → vs = bs.map V.bl
  | [], _, _, .nil, h => by cases h; rfl
  | d :: r, _, bs, .cons r1 r2, h => by
    cases r1 with
    | bl b =>
      obtain ⟨cs, h1, rfl⟩ := Option.map_eq_some_iff.mp (show (blsD r).map (b :: ·) = some bs from h)
      rw [bls_rep r2 h1]
      rfl
    | _ => cases h
theorem opl_list : OpL X (fun xs H Q => ∃ p ys, xs = [.ref p] ∧ (SqL X.K H p ys ∨ SqT X.K H p ys) ∧ ∀ l, H l = none → Q (.ref l) (upd H l (.lst ys))) bList := fun F E ι H m xs vs Q hm r hp => by
  unfold bList at hp
  split at hp
  · split at hp
    · rename_i ys hy
      cases r with
      | cons r1 r2 =>
        cases r2
        obtain ⟨p, us, rfl, h1, h2⟩ := seqD_rep hm r1 hy
        exact ⟨p, us, rfl, h1, fun l hl => hp.newL hm h2 hl⟩
    · exact hp.elim
  · exact hp.elim
theorem opl_listS : OpL X (fun xs H Q => ∃ p ys, xs = [.ref p] ∧ (SqL X.K H p ys ∨ SqT X.K H p ys) ∧ ∀ l, H l = none → Q (.ref l) (upd H l (.lst ys))) bListS := fun F E ι H m xs vs Q hm r hp => by
  unfold bListS at hp
  split at hp
  · split at hp
    · rename_i ys hy
      cases r with
      | cons r1 r2 =>
        cases r2
        obtain ⟨p, us, rfl, h1, h2⟩ := seqD_rep hm r1 hy
        exact ⟨p, us, rfl, h1, fun l hl => hp.newS hm h2 hl⟩
    · exact hp.elim
  · exact hp.elim
theorem opl_tuple : OpL X (fun xs H Q => ∃ p ys, xs = [.ref p] ∧ ((SqL X.K H p ys ∧ ∀ l, H l = none → Q (.ref l) (upd H l (.tup ys))) ∨ (SqT X.K H p ys ∧ Q (.ref p) H))) bTuple := fun F E ι H m xs vs Q hm r hp => by
  unfold bTuple at hp
  split at hp
  · cases r with
    | cons r1 r2 =>
      cases r2
      cases r1 with
      | ref e =>
        split at hp
        · rename_i ys hc
          obtain ⟨us, h1, h2⟩ := lst_at hm e hc
          exact ⟨_, us, rfl, .inl ⟨.of h1, fun l hl => hp.newT hm h2 hl⟩⟩
        · exact hp.elim
  · cases r with
    | cons r1 r2 =>
      cases r2
      cases r1 with
      | fl h1 h2 => exact ⟨_, _, rfl, .inl ⟨h1.sq, fun l hl => hp.newT hm h2 hl⟩⟩
  · cases r with
    | cons r1 r2 =>
      cases r2
      cases r1 with
      | sl _ h1 h2 => exact ⟨_, _, rfl, .inl ⟨.of h1, fun l hl => hp.newT hm h2 hl⟩⟩
  · cases r with
    | cons r1 r2 =>
      cases r2
      cases r1 with
      | tup h1 h2 => exact ⟨_, _, rfl, .inr ⟨.of h1, hp.okI hm (.tup h1 h2)⟩⟩
  · exact hp.elim
theorem opl_int : OpL X (fun xs H Q => (∃ i, xs = [.int i] ∧ Q (.int i) H) ∨ ∃ k, xs = [.bl k] ∧ Q (.int (if k then 1 else 0)) H) bInt := fun F E ι H m xs vs Q hm r hp => by
  unfold bInt at hp
  split at hp
  · cases r with
    | cons r1 r2 => cases r2; cases r1; exact .inl ⟨_, rfl, hp.okI hm (.int _)⟩
  · cases r with
    | cons r1 r2 => cases r2; cases r1; exact .inr ⟨_, rfl, hp.okI hm (.int _)⟩
  · exact hp.elim
theorem opl_max2 : OpL X (fun xs H Q => ∃ i j, xs = [.int i, .int j] ∧ Q (.int (if j > i then j else i)) H) bMax2 := fun F E ι H m xs vs Q hm r hp => by
  unfold bMax2 at hp
  split at hp
  · cases r with
    | cons r1 r2 =>
      cases r2 with
      | cons r2 r3 => cases r3; cases r1; cases r2; exact ⟨_, _, rfl, hp.okI hm (.int _)⟩
  · exact hp.elim
theorem opl_min2 : OpL X (fun xs H Q => ∃ i j, xs = [.int i, .int j] ∧ Q (.int (if j < i then j else i)) H) bMin2 := fun F E ι H m xs vs Q hm r hp => by
  unfold bMin2 at hp
  split at hp
  · cases r with
    | cons r1 r2 =>
      cases r2 with
      | cons r2 r3 => cases r3; cases r1; cases r2; exact ⟨_, _, rfl, hp.okI hm (.int _)⟩
  · exact hp.elim
theorem opl_all : OpL X (rAll X.K) bAll := fun F E ι H m xs vs Q hm r hp => by
  unfold bAll at hp
  split at hp
  · split at hp
    · rename_i bs hb
      obtain ⟨ys, h1, h2⟩ := Option.bind_eq_some_iff.mp hb
      cases r with
      | cons r1 r2 =>
        cases r2
        obtain ⟨p, us, rfl, h3, h4⟩ := seqL_rep hm r1 h1
        have e := bls_rep h4 h2
        subst e
        exact ⟨p, bs, rfl, h3, hp.okI hm (.bl _)⟩
    · exact hp.elim
  · exact hp.elim
theorem opl_any : OpL X (rAny X.K) bAny := fun F E ι H m xs vs Q hm r hp => by
  unfold bAny at hp
  split at hp
  · split at hp
    · rename_i bs hb
      obtain ⟨ys, h1, h2⟩ := Option.bind_eq_some_iff.mp hb
      cases r with
      | cons r1 r2 =>
        cases r2
        obtain ⟨p, us, rfl, h3, h4⟩ := seqL_rep hm r1 h1
        have e := bls_rep h4 h2
        subst e
        exact ⟨p, bs, rfl, h3, hp.okI hm (.bl _)⟩
    · exact hp.elim
  · exact hp.elim
/-! repr -/
end
def noLong : PyData → Bool := fun p => p.showable && !p.hasDict && decide (p.depth ≤ 60) && decide (p.shown.length ≤ line)
def bRepr (ds : List D) (m : M) : R D := match ds with
  | [d] => match toP deepest m d with
    | some p => if noLong p = true then .ok (.str p.shown) m else .bad
    | none => .bad
  | _ => .bad
section
variable {X : Cx}
def rRepr (K : PySem.W.Frag) : List V → Hp → VK → Prop := fun xs H Q => ∃ v p, xs = [v] ∧ Dp K H v p ∧ noLong p = true ∧ Q (.str p.shown) H
theorem cr_repr (hu : Un64 X) (hg : X.A.guards = some []) : CallR X (.builtin "repr") (rRepr X.K) := by
  intro pins s σ H xs us Q I r ⟨v, p, e, d, hn, q⟩
  subst e
  obtain ⟨u, rfl, ru⟩ := vals1 r
  obtain ⟨as, rd⟩ := Dp.reads I p v u d ru
  unfold noLong at hn
  rw [Bool.and_eq_true, Bool.and_eq_true, Bool.and_eq_true] at hn
  obtain ⟨⟨⟨h1, h2⟩, h3⟩, h4⟩ := hn
  have h4' : p.shown.length ≤ sizeLine := by rw [line_eq]; exact of_decide_eq_true h4
  have h3' : p.depth ≤ 60 := of_decide_eq_true h3
  have hu' : X.A.units + 64 < cLine := hu
  cases d with
  | non =>
    cases ru
    exact PySem.P.repr_of_none ⟨.str _, H, I.tok _, ⟨_, rfl⟩, q⟩
  | bl b =>
    cases ru
    exact PySem.P.repr_of_bool ⟨.str _, H, I.tok _, ⟨_, rfl⟩, q⟩
  | int i =>
    obtain ⟨t, rfl⟩ := ru
    have h1 : decide (i.natAbs.log2 < 1920) = true := by simpa [PyData.showable] using h1
    exact PySem.P.repr_of_int (of_decide_eq_true h1) ⟨.str _, H, I.tok _, ⟨_, rfl⟩, q⟩
  | str x =>
    obtain ⟨t, rfl⟩ := ru
    exact PySem.P.repr_of_str ⟨.str _, H, I.tok _, ⟨_, rfl⟩, q⟩ h4'
  | lst hs hr =>
    cases ru
    exact repr_of_reads' rd h1 (fun e => by rw [e] at h2; cases h2) hg (by omega) (fun _ _ e => e) (fun h' u tk hk => ⟨.str _, H, I.kept hk, ⟨_, rfl⟩, q⟩) h4'
  | tup hs hr =>
    cases ru
    exact repr_of_reads' rd h1 (fun e => by rw [e] at h2; cases h2) hg (by omega) (fun _ _ e => e) (fun h' u tk hk => ⟨.str _, H, I.kept hk, ⟨_, rfl⟩, q⟩) h4'
theorem opl_repr : OpL X (rRepr X.K) bRepr := fun F E ι H m xs vs Q hm r hp => by
  unfold bRepr at hp
  split at hp
  · split at hp
    · rename_i p e
      split at hp
      · rename_i hn
        cases r with
        | cons r1 r2 =>
          cases r2
          exact ⟨_, p, rfl, dp_of hm _ _ _ _ e r1, hn, hp.okI hm (.str _)⟩
      · exact hp.elim
    · exact hp.elim
  · exact hp.elim
end
end Z

namespace Z
open PySem PySem.Spec PyProof.Rows L2

/-! ### what a loop walks -/
def isTupD : D → Bool
  | .tup _ => true
  | .kt _ => true
  | _ => false
def cellAt (n : Nat) (i : Nat) (m : M) : Option (Option D) := match m[n]? with
  | some (.lst ys) => some ys[i]?
  | _ => none
def itOf (m : M) : D → Option Itz
  | .tup xs => some (itD xs)
  | .kt xs => some (itD xs)
  | .fl xs => some (itD xs)
  | .sl xs => some (itD xs)
  | .ref n => match m[n]? with
    | some (.lst xs) => some ⟨xs.length + 1, cellAt n⟩
    | _ => none
  | _ => none
def iSeq (f : EF) : IF := fun ρ m => (f ρ m).bind fun d m1 => match itOf m1 d with
  | some z => .ok z m1
  | none => .bad
section
variable {X : Cx} {W : WX} {K : PySem.W.Frag} {mg : G} {ι : List Addr} {H : Hp}
theorem relI_tup {a : Addr} {xs : List D} {vs : List V} (h : SqT K H a vs) (hs : ∀ {ι' H'}, Ext ι H ι' H' → SqT K H' a vs) (r : RepL K mg ι H xs vs) : relI K mg ι H (itD xs) (Itt K a) := fun i F' ι' H' m' hF e hm => by
  have q := hs e
  have r' := (r.grow hF).mono e
  refine ⟨fun hn => ⟨vs, q, ?_⟩, fun d hd => ?_⟩
  · have hn : xs[i]? = none := Option.some.inj hn
    rw [← r.length]
    exact List.getElem?_eq_none_iff.mp hn
  · have hd : xs[i]? = some d := Option.some.inj hd
    obtain ⟨v, h1, h2⟩ := r'.get hd
    refine ⟨⟨vs, v, q, h1⟩, fun x H'' hy => ?_⟩
    obtain ⟨rfl, hx⟩ := hy
    have := hx vs q
    rw [h1] at this
    cases this
    exact ⟨.refl, hm, h2⟩
theorem relI_lst {a : Addr} {xs : List D} {vs : List V} (hs : ∀ {ι' H'}, Ext ι H ι' H' → SqL K H' a vs) (r : RepL K mg ι H xs vs) : relI K mg ι H (itD xs) (Itl K a) := fun i F' ι' H' m' hF e hm => by
  have q := hs e
  have r' := (r.grow hF).mono e
  refine ⟨fun hn => ⟨vs, q, ?_⟩, fun d hd => ?_⟩
  · have hn : xs[i]? = none := Option.some.inj hn
    rw [← r.length]
    exact List.getElem?_eq_none_iff.mp hn
  · have hd : xs[i]? = some d := Option.some.inj hd
    obtain ⟨v, h1, h2⟩ := r'.get hd
    refine ⟨⟨vs, v, q, h1⟩, fun x H'' hy => ?_⟩
    obtain ⟨rfl, hx⟩ := hy
    have := hx vs q
    rw [h1] at this
    cases this
    exact ⟨.refl, hm, h2⟩
theorem relI_cell {n : Nat} {a : Addr} {k : Nat} (e0 : ι[n]? = some a) : relI K mg ι H ⟨k, cellAt n⟩ (Itl K a) := fun i F' ι' H' m' hF e hm => by
  have e1 := e.get e0
  refine ⟨fun hn => ?_, fun d hd => ?_⟩
  · have hn : (match m'[n]? with | some (.lst ys) => some ys[i]? | _ => none) = some none := hn
    split at hn
    · rename_i ys hc
      obtain ⟨us, h1, h2⟩ := lst_at hm e1 hc
      refine ⟨us, .of h1, ?_⟩
      rw [← h2.length]
      exact List.getElem?_eq_none_iff.mp (Option.some.inj hn)
    · cases hn
  · have hd : (match m'[n]? with | some (.lst ys) => some ys[i]? | _ => none) = some (some d) := hd
    split at hd
    · rename_i ys hc
      obtain ⟨us, h1, h2⟩ := lst_at hm e1 hc
      obtain ⟨v, h3, h4⟩ := h2.get (Option.some.inj hd)
      refine ⟨⟨us, v, .of h1, h3⟩, fun x H'' hy => ?_⟩
      obtain ⟨rfl, hx⟩ := hy
      have := hx us (.of h1)
      rw [h3] at this
      cases this
      exact ⟨.refl, hm, h4⟩
    · cases hd
theorem zi_seq {tg e : Expr} {f : EF} (he : ZE X W e f) : ZI X W tg e (iSeq f) := by
  refine ⟨fun pins s σ H R' I ⟨F, ι, ρ, m, hρ, hm, hp⟩ => ?_⟩
  unfold iSeq at hp
  by_cases q : ∃ d m1, f ρ m = .ok d m1 ∧ isTupD d = true
  · obtain ⟨d0, m0, q, ht⟩ := q
    refine (pi_tup he).run pins s σ H R' I ⟨F, ι, ρ, m, hρ, hm, Post.seq hp fun d m1 ι1 H1 v hq e1 h1 r1 hp1 => ?_⟩
    rw [q] at hq
    cases hq
    cases r1 with
    | tup h2 r2 => exact ⟨_, rfl, ⟨_, .of h2⟩, hp1.okI h1 (relI_tup (.of h2) (fun e => .of (e.tup _ _ h2)) r2)⟩
    | kt h2 r2 => exact ⟨_, rfl, ⟨_, h2.sq⟩, hp1.okI h1 (relI_tup h2.sq (fun e => h2.sq) r2)⟩
    | _ => cases ht
  · refine (pi_list he).run pins s σ H R' I ⟨F, ι, ρ, m, hρ, hm, Post.seq hp fun d m1 ι1 H1 v hq e1 h1 r1 hp1 => ?_⟩
    cases r1 with
    | tup h2 r2 => exact (q ⟨_, _, hq, rfl⟩).elim
    | kt h2 r2 => exact (q ⟨_, _, hq, rfl⟩).elim
    | fl h2 r2 => exact ⟨_, rfl, ⟨_, h2.sq⟩, hp1.okI h1 (relI_lst (fun e => (e.sqF h2).sq) r2)⟩
    | sl n h2 r2 => exact ⟨_, rfl, ⟨_, .of h2⟩, hp1.okI h1 (relI_lst (fun e => .of (e.fr _ _ (fun q => n (List.mem_append_left _ q)) h2)) r2)⟩
    | @ref n a e =>
      have hp1 : Post X.K (X.mg, F) (relI X.K (X.mg, F)) (fun c d H' => W c d σ H') ι1 H1 R' (match itOf m1 (.ref n) with
        | some z => .ok z m1
        | none => .bad) := hp1
      split at hp1
      · rename_i z hz
        have hz : (match m1[n]? with | some (.lst xs) => some (Itz.mk (xs.length + 1) (cellAt n)) | _ => none) = some z := hz
        split at hz
        · rename_i xs hc
          cases hz
          obtain ⟨us, h2, r2⟩ := lst_at h1 e hc
          exact ⟨_, rfl, ⟨_, .of h2⟩, hp1.okI h1 (relI_cell e)⟩
        · cases hz
      · exact hp1.elim
    | _ => exact hp1.elim
/-! ranges -/
end
def itR (lo : Int) (n : Nat) : Itz := ⟨n + 1, fun i _ => some (if i < n then some (.int (lo + i)) else none)⟩
abbrev small62 (i : Int) : Bool := decide (-(2 ^ 62) ≤ i) && decide (i < 2 ^ 62)
def iRange (a : AF) : IF := fun ρ m => (a ρ m).bind fun ds m1 => match ds with
  | [.int j] => if small62 j = true then .ok (itR 0 j.toNat) m1 else .bad
  | [.int i, .int j] => if (small62 i && small62 j) = true then .ok (itR i (j - i).toNat) m1 else .bad
  | _ => .bad
section
variable {X : Cx} {W : WX} {K : PySem.W.Frag} {mg : G} {ι : List Addr} {H : Hp}
theorem small62_ok {i : Int} (h : small62 i = true) : -(2 ^ 62) ≤ i ∧ i < 2 ^ 62 := by
  unfold small62 at h
  rw [Bool.and_eq_true] at h
  exact ⟨of_decide_eq_true h.1, of_decide_eq_true h.2⟩
theorem relI_rng {lo : Int} {n : Nat} : relI K mg ι H (itR lo n) (Itr lo n) := fun i F' ι' H' m' hF e hm => by
  refine ⟨fun hn => ?_, fun d hd => ?_⟩
  · have hn : (if i < n then some (D.int (lo + i)) else none) = none := Option.some.inj hn
    split at hn
    · cases hn
    · rename_i h
      exact Nat.le_of_not_lt h
  · have hd : (if i < n then some (D.int (lo + i)) else none) = some d := Option.some.inj hd
    split at hd
    · rename_i h
      cases hd
      refine ⟨h, fun x H'' hy => ?_⟩
      obtain ⟨rfl, rfl⟩ := hy
      exact ⟨.refl, hm, .int _⟩
    · cases hd
theorem zi_range1 {tg a : Expr} {f : EF} {p pos : Pos} (hg : Gl X "range") (hm : X.mg "range" = none) (ha : ZE X W a f) (hs : starEach [a] X.env = [(false, eval a X.env)] := by rfl) (hs2 : starEach [a] X.env = (false, eval a X.env) :: starEach [] X.env := by rfl) :
    ZI X W tg (.Call (.Name "range" p) [a] [] pos) (iRange (aCons f aNil)) := by
  refine PI.imp (pi_range1 hg hm (za_cons ha za_nil hs2) hs) fun σ H R' ⟨F, ι, ρ, m, hρ, hm, hp⟩ => ⟨F, ι, ρ, m, hρ, hm, ?_⟩
  refine Post.seq hp fun ds m1 ι1 H1 vs hq e1 h1 r1 hp1 => ?_
  have one : ds.length = 1 := by
    unfold aCons aNil at hq
    cases q : f ρ m with
    | ok d m2 => rw [q] at hq; cases hq; rfl
    | err x m2 => rw [q] at hq; cases hq
    | bad => rw [q] at hq; cases hq
  split at hp1
  · split at hp1
    · rename_i hj
      cases r1 with
      | cons r1 r2 =>
        cases r1; cases r2
        exact ⟨_, rfl, (small62_ok hj).1, (small62_ok hj).2, hp1.okI h1 relI_rng⟩
    · exact hp1.elim
  · cases one
  · exact hp1.elim
theorem zi_range2 {tg a b : Expr} {f h : EF} {p pos : Pos} (hg : Gl X "range") (hm : X.mg "range" = none) (ha : ZE X W a f) (hb : ZE X W b h) (hs : starEach [a, b] X.env = [(false, eval a X.env), (false, eval b X.env)] := by rfl) (hs2 : starEach [b] X.env = [(false, eval b X.env)] := by rfl)
    (hs3 : starEach [a, b] X.env = (false, eval a X.env) :: starEach [b] X.env := by rfl) (hs4 : starEach [b] X.env = (false, eval b X.env) :: starEach [] X.env := by rfl) :
    ZI X W tg (.Call (.Name "range" p) [a, b] [] pos) (iRange (aCons f (aCons h aNil))) := by
  refine PI.imp (pi_range2 hg hm (za_cons ha (za_cons hb za_nil hs4) hs3) hs hs2) fun σ H R' ⟨F, ι, ρ, m, hρ, hm, hp⟩ => ⟨F, ι, ρ, m, hρ, hm, ?_⟩
  refine Post.seq hp fun ds m1 ι1 H1 vs hq e1 h1 r1 hp1 => ?_
  have two : ds.length = 2 := by
    unfold aCons aNil at hq
    cases q : f ρ m with
    | ok d m2 =>
      rw [q] at hq
      cases q2 : h ρ m2 with
      | ok d2 m3 =>
        have hq : (((h ρ m2).bind fun d m1 => (.ok [d] m1 : R (List D))).bind fun ds m2 => .ok (d :: ds) m2) = R.ok ds m1 := hq
        rw [q2] at hq
        cases hq; rfl
      | err x m3 =>
        have hq : (((h ρ m2).bind fun d m1 => (.ok [d] m1 : R (List D))).bind fun ds m2 => .ok (d :: ds) m2) = R.ok ds m1 := hq
        rw [q2] at hq; cases hq
      | bad =>
        have hq : (((h ρ m2).bind fun d m1 => (.ok [d] m1 : R (List D))).bind fun ds m2 => .ok (d :: ds) m2) = R.ok ds m1 := hq
        rw [q2] at hq; cases hq
    | err x m2 => rw [q] at hq; cases hq
    | bad => rw [q] at hq; cases hq
  split at hp1
  · cases two
  · split at hp1
    · rename_i hj
      rw [Bool.and_eq_true] at hj
      cases r1 with
      | cons r1 r2 =>
        cases r2 with
        | cons r2 r3 =>
          cases r1; cases r2; cases r3
          exact ⟨_, _, rfl, ⟨(small62_ok hj.1).1, (small62_ok hj.1).2, (small62_ok hj.2).1, (small62_ok hj.2).2⟩, hp1.okI h1 relI_rng⟩
    · exact hp1.elim
  · exact hp1.elim
end
/-! texts, sign by sign -/
def itS (x : Str) : Itz := ⟨x.cps.size + 1, fun i _ => some (x.cps[i]?.map fun c => .str ⟨#[c]⟩)⟩
def iStrZ (f : EF) : IF := fun ρ m => (f ρ m).bind fun d m1 => match d with
  | .str x => .ok (itS x) m1
  | _ => .bad
/-! two at once -/
def tupItems : D → Option (List D)
  | .tup xs => some xs
  | .kt xs => some xs
  | _ => none
def lstItems : D → Option (List D)
  | .sl xs => some xs
  | .fl xs => some xs
  | _ => none
def seqs2 : List D → Option (List D × List D)
  | [x, y] => match tupItems x, tupItems y with
    | some xs, some ys => some (xs, ys)
    | _, _ => match lstItems x, lstItems y with
      | some xs, some ys => some (xs, ys)
      | _, _ => none
  | _ => none
def itZ (xs ys : List D) : Itz := ⟨xs.length + 1, fun i _ => some (match xs[i]?, ys[i]? with
  | some x, some y => some (.tup [x, y])
  | _, _ => none)⟩
def iZipZ (a : AF) : IF := fun ρ m => (a ρ m).bind fun ds m1 => match seqs2 ds with
  | some (xs, ys) => .ok (itZ xs ys) m1
  | none => .bad
def itE (xs : List D) : Itz := ⟨xs.length + 1, fun i _ => some (xs[i]?.map fun x => .tup [.int (i : Nat), x])⟩
def iEnumZ (f : EF) : IF := fun ρ m => (f ρ m).bind fun d m1 => match d with
  | .tup xs => .ok (itE xs) m1
  | .kt xs => .ok (itE xs) m1
  | .fl xs => .ok (itE xs) m1
  | .sl xs => .ok (itE xs) m1
  | _ => .bad
section
variable {X : Cx} {W : WX} {K : PySem.W.Frag} {mg : G} {ι : List Addr} {H : Hp}
theorem zi_str {tg e : Expr} {f : EF} (he : ZE X W e f) : ZI X W tg e (iStrZ f) := PI.imp (pi_str he) fun σ H R' ⟨F, ι, ρ, m, hρ, hm, hp⟩ => ⟨F, ι, ρ, m, hρ, hm, by
  refine Post.seq hp fun d m1 ι1 H1 v hq e1 h1 r1 hp1 => ?_
  cases r1 with
  | str x =>
    refine ⟨x, rfl, hp1.okI h1 fun i F' ι' H' m' hF e hm => ⟨fun hn => ?_, fun d hd => ?_⟩⟩
    · have hn : (x.cps[i]?.map fun c => D.str ⟨#[c]⟩) = none := Option.some.inj hn
      rw [Option.map_eq_none_iff] at hn
      exact Array.getElem?_eq_none_iff.mp hn
    · have hd : (x.cps[i]?.map fun c => D.str ⟨#[c]⟩) = some d := Option.some.inj hd
      obtain ⟨c, hc, rfl⟩ := Option.map_eq_some_iff.mp hd
      refine ⟨(Array.getElem?_eq_some_iff.mp hc).1, fun z H'' hy => ?_⟩
      obtain ⟨rfl, c', hc', rfl⟩ := hy
      rw [hc] at hc'
      cases hc'
      exact ⟨.refl, hm, .str _⟩
  | _ => exact hp1.elim⟩
/-- a new pair that a walk gives -/
theorem pair_new {ι' : List Addr} {H' : Hp} {m' : M} {T : Addr} {x y : V} {d1 d2 : D} (hm : HR K mg ι' H' m') (hT : H' T = none) (r1 : Rep K mg ι' H' d1 x) (r2 : Rep K mg ι' H' d2 y) :
    Ext ι' H' ι' (upd H' T (.tup [x, y])) ∧ HR K mg ι' (upd H' T (.tup [x, y])) m' ∧ Rep K mg ι' (upd H' T (.tup [x, y])) (.tup [d1, d2]) (.ref T) :=
  ⟨Ext.side hT, hm.side hT, .tup upd_same (.cons (r1.mono (Ext.side hT)) (.cons (r2.mono (Ext.side hT)) .nil))⟩
theorem relI_zip {a b : Addr} {xs ys : List D} {vs us : List V} (hs : ∀ {ι' H'}, Ext ι H ι' H' → SqL K H' a vs) (hs2 : ∀ {ι' H'}, Ext ι H ι' H' → SqL K H' b us) (r : RepL K mg ι H xs vs) (r2 : RepL K mg ι H ys us) : relI K mg ι H (itZ xs ys) (L2.Itz K a b) := fun i F' ι' H' m' hF e hm => by
  refine ⟨fun hn => ⟨vs, us, hs e, hs2 e, ?_⟩, fun d hd => ?_⟩
  · have hn : (match xs[i]?, ys[i]? with | some x, some y => some (D.tup [x, y]) | _, _ => none) = none := Option.some.inj hn
    rw [← r.length, ← r2.length]
    cases q : xs[i]? with
    | none => exact .inl (List.getElem?_eq_none_iff.mp q)
    | some x =>
      cases q2 : ys[i]? with
      | none => exact .inr (List.getElem?_eq_none_iff.mp q2)
      | some y => rw [q, q2] at hn; cases hn
  · have hd : (match xs[i]?, ys[i]? with | some x, some y => some (D.tup [x, y]) | _, _ => none) = some d := Option.some.inj hd
    split at hd
    · rename_i x y q q2
      cases hd
      obtain ⟨v, h1, h2⟩ := ((r.grow hF).mono e).get q
      obtain ⟨u, h3, h4⟩ := ((r2.grow hF).mono e).get q2
      refine ⟨⟨vs, us, v, u, hs e, hs2 e, h1, h3⟩, fun z H'' hy => ?_⟩
      obtain ⟨T, v', u', rfl, hT, rfl, f1, f2⟩ := hy
      have e1 := f1 vs (hs e)
      have e2 := f2 us (hs2 e)
      rw [h1] at e1
      rw [h3] at e2
      cases e1; cases e2
      exact pair_new hm hT h2 h4
    · cases hd
theorem relI_zipT {a b : Addr} {xs ys : List D} {vs us : List V} (hs : ∀ {ι' H'}, Ext ι H ι' H' → SqT K H' a vs) (hs2 : ∀ {ι' H'}, Ext ι H ι' H' → SqT K H' b us) (r : RepL K mg ι H xs vs) (r2 : RepL K mg ι H ys us) : relI K mg ι H (itZ xs ys) (RZ.ItzT K a b) := fun i F' ι' H' m' hF e hm => by
  refine ⟨fun hn => ⟨vs, us, hs e, hs2 e, ?_⟩, fun d hd => ?_⟩
  · have hn : (match xs[i]?, ys[i]? with | some x, some y => some (D.tup [x, y]) | _, _ => none) = none := Option.some.inj hn
    rw [← r.length, ← r2.length]
    cases q : xs[i]? with
    | none => exact .inl (List.getElem?_eq_none_iff.mp q)
    | some x =>
      cases q2 : ys[i]? with
      | none => exact .inr (List.getElem?_eq_none_iff.mp q2)
      | some y => rw [q, q2] at hn; cases hn
  · have hd : (match xs[i]?, ys[i]? with | some x, some y => some (D.tup [x, y]) | _, _ => none) = some d := Option.some.inj hd
    split at hd
    · rename_i x y q q2
      cases hd
      obtain ⟨v, h1, h2⟩ := ((r.grow hF).mono e).get q
      obtain ⟨u, h3, h4⟩ := ((r2.grow hF).mono e).get q2
      refine ⟨⟨vs, us, v, u, hs e, hs2 e, h1, h3⟩, fun z H'' hy => ?_⟩
      obtain ⟨T, v', u', rfl, hT, rfl, f1, f2⟩ := hy
      have e1 := f1 vs (hs e)
      have e2 := f2 us (hs2 e)
      rw [h1] at e1
      rw [h3] at e2
      cases e1; cases e2
      exact pair_new hm hT h2 h4
    · cases hd
theorem tupItems_rep {d : D} {v : V} {xs : List D} (r : Rep K mg ι H d v) (h : tupItems d = some xs) : ∃ a vs, v = .ref a ∧ (∀ {ι' H'}, Ext ι H ι' H' → SqT K H' a vs) ∧ RepL K mg ι H xs vs := by
  cases r with
  | tup h1 h2 => cases h; exact ⟨_, _, rfl, fun e => .of (e.tup _ _ h1), h2⟩
  | kt h1 h2 => cases h; exact ⟨_, _, rfl, fun e => h1.sq, h2⟩
  | _ => cases h
theorem lstItems_rep {d : D} {v : V} {xs : List D} (r : Rep K mg ι H d v) (h : lstItems d = some xs) : ∃ a vs, v = .ref a ∧ (∀ {ι' H'}, Ext ι H ι' H' → SqL K H' a vs) ∧ RepL K mg ι H xs vs := by
  cases r with
  | sl n h1 h2 => cases h; exact ⟨_, _, rfl, fun e => .of (e.fr _ _ (fun q => n (List.mem_append_left _ q)) h1), h2⟩
  | fl h1 h2 => cases h; exact ⟨_, _, rfl, fun e => (e.sqF h1).sq, h2⟩
  | _ => cases h
theorem zi_zip {e e2 : Expr} {f h : EF} {p pos tpos : Pos} {elts : List Expr} {kk : Nat} (hg : Gl X "zip") (hm : X.mg "zip" = none) (ha : ZE X W e f) (hb : ZE X W e2 h)
    (hs : starEach [e, e2] X.env = (false, eval e X.env) :: starEach [e2] X.env := by rfl) (hs2 : starEach [e2] X.env = (false, eval e2 X.env) :: starEach [] X.env := by rfl) (hpl : (backTo pos (starEach [e2] X.env)).any (·.1) = false := by rfl) :
    ZI X W (.Tuple elts kk tpos) (.Call (.Name "zip" p) [e, e2] [] pos) (iZipZ (aCons f (aCons h aNil))) := by
  refine PI.imp (RZ.pi_zipA hg hm (za_cons ha (za_cons hb za_nil hs2) hs) hs hpl) fun σ H R' ⟨F, ι, ρ, m, hρ, hm, hp⟩ => ⟨F, ι, ρ, m, hρ, hm, ?_⟩
  refine Post.seq hp fun ds m1 ι1 H1 vs hq e1 h1 r1 hp1 => ?_
  split at hp1
  · rename_i xs ys hz
    unfold seqs2 at hz
    split at hz
    · rename_i x y
      cases r1 with
      | cons r1 r2 =>
        cases r2 with
        | cons r2 r3 =>
          cases r3
          split at hz
          · rename_i us ws q1 q2
            cases hz
            obtain ⟨a, vs, rfl, s1, t1⟩ := tupItems_rep r1 q1
            obtain ⟨b, us, rfl, s2, t2⟩ := tupItems_rep r2 q2
            exact ⟨a, b, vs, us, rfl, .inr ⟨s1 .refl, s2 .refl, hp1.okI h1 (relI_zipT s1 s2 t1 t2)⟩⟩
          · split at hz
            · rename_i us ws q1 q2
              cases hz
              obtain ⟨a, vs, rfl, s1, t1⟩ := lstItems_rep r1 q1
              obtain ⟨b, us, rfl, s2, t2⟩ := lstItems_rep r2 q2
              exact ⟨a, b, vs, us, rfl, .inl ⟨s1 .refl, s2 .refl, hp1.okI h1 (relI_zip s1 s2 t1 t2)⟩⟩
            · cases hz
    · cases hz
  · exact hp1.elim
end
end Z

namespace Z
open PySem PySem.Spec PyProof.Rows L2

/-! ### comprehensions -/
def wipeR (ρ : Rho) : List Nat → Rho
  | [] => ρ
  | i :: l => (wipeR ρ l).set i none
def lcN (nxt : Nat → M → Option (Option D)) (g : GF) (tt : TF) (f : EF) : Nat → Nat → Rho → List D → M → R (List D)
  | 0, _, _, _, _ => .bad
  | fuel + 1, i, ρ, acc, m => match nxt i m with
    | none => .bad
    | some none => .ok acc m
    | some (some d) => match g d ρ m with
      | none => .bad
      | some (ρ1, m1) => match tt ρ1 m1 with
        | .ok true m2 => match f ρ1 m2 with
          | .ok y m3 => if acc.length < line then lcN nxt g tt f fuel (i + 1) ρ (acc ++ [y]) m3 else .bad
          | _ => .bad
        | .ok false m2 => lcN nxt g tt f fuel (i + 1) ρ acc m2
        | _ => .bad
def eLc (it : IF) (own : List Nat) (g : GF) (tt : TF) (f : EF) : EF := fun ρ m => (it ρ m).bind fun z m1 => (lcN z.nxt g tt f z.fuel 0 (wipeR ρ own) [] m1).bind fun xs m2 => .ok (.sl xs) m2
def eLcC (it : IF) (own : List Nat) (g : GF) (tt : TF) (f : EF) : EF := fun ρ m => (it ρ m).bind fun z m1 => (lcN z.nxt g tt f z.fuel 0 (wipeR ρ own) [] m1).bind fun xs m2 => .ok (.ref m2.length) (m2 ++ [.lst xs])
def OkI {α : Type} (A : α → M → Prop) : R α → Prop
  | .ok a m => A a m
  | _ => False
def tYesF : TF := fun _ m => .ok true m

section
variable {K : PySem.W.Frag} {mg : G} {ι ι' : List Addr} {H H' : Hp} {D0 : Addr}
theorem EnvR.unset {ρ : Rho} {σ : L2.St} (h : EnvR K mg ι H ρ σ) (i : Nat) : EnvR K mg ι H (ρ.set i none) (σ.set i none) := by
  refine ⟨by simp [h.1], fun j d' hj => ?_⟩
  by_cases e : i = j
  · subst e
    have hl : i < ρ.length := by
      have := (List.getElem?_eq_some_iff.mp hj).1
      simpa using this
    rw [List.getElem?_set_self hl] at hj
    cases hj
  · rw [List.getElem?_set_ne e] at hj
    obtain ⟨v', h1, h2⟩ := h.2 j d' hj
    exact ⟨v', by rw [List.getElem?_set_ne e]; exact h1, h2⟩
theorem EnvR.wipe {ρ : Rho} {σ : L2.St} (h : EnvR K mg ι H ρ σ) : ∀ l, EnvR K mg ι H (wipeR ρ l) (wipe σ l)
  | [] => h
  | i :: l => (EnvR.wipe h l).unset i
theorem wipe_set (σ : L2.St) (x : Option V) : ∀ (l : List Nat) (i : Nat), i ∈ l → wipe (σ.set i x) l = wipe σ l
  | j :: l, i, h => by
    show (wipe (σ.set i x) l).set j none = (wipe σ l).set j none
    by_cases hi : i ∈ l
    · rw [wipe_set σ x l i hi]
    · have e : i = j := by
        rcases List.mem_cons.mp h with h | h
        · exact h
        · exact absurd h hi
      subst e
      have comm : ∀ (l : List Nat), i ∉ l → wipe (σ.set i x) l = (wipe σ l).set i x := by
        intro l
        induction l with
        | nil => intro _; rfl
        | cons k l ih =>
          intro hk
          have hk1 : i ≠ k := fun e => hk (by rw [e]; exact List.mem_cons_self)
          show (wipe (σ.set i x) l).set k none = ((wipe σ l).set k none).set i x
          rw [ih fun q => hk (List.mem_cons_of_mem _ q)]
          exact List.set_comm _ _ hk1
      rw [comm l hi, List.set_set]
theorem wipe_idem (σ : L2.St) (l : List Nat) : ∀ l' : List Nat, (∀ i ∈ l', i ∈ l) → wipe (wipe σ l') l = wipe σ l
  | [], _ => rfl
  | i :: l', h => by
    show wipe ((wipe σ l').set i none) l = wipe σ l
    rw [wipe_set _ _ l i (h i List.mem_cons_self)]
    exact wipe_idem σ l l' fun j hj => h j (List.mem_cons_of_mem _ hj)
/-! an address of the side -/
theorem Ext.hide {o : HO} (e : Ext ι H ι' H') (hn : H D0 = none) : Ext ι H ι' (upd H' D0 o) :=
  ⟨e.pre, fun a vs h => by rw [upd_ne (ne_of_none h hn)]; exact e.tup a vs h, fun a ob u h => by rw [upd_ne (ne_of_none h hn)]; exact e.frz a ob u h, fun a ob ha h => by rw [upd_ne (ne_of_none h hn)]; exact e.fr a ob ha h,
    fun a h => by
      by_cases q : a = D0
      · subst q; exact absurd hn h
      · rw [upd_ne q]; exact e.dom a h⟩
section
variable {o o' : HO} (hD : D0 ∈ mg.2) (hi : D0 ∉ ι) (h0 : H D0 = some o) (hl : (∃ xs, o = .lst xs) ∨ (∃ xs, o = .dK xs) ∨ ∃ xs, o = .dT xs)
include hl in
theorem side_ne (h0 : H D0 = some o) {a : Addr} {u : HO} (ha : H a = some u) (hu : (∀ xs, u ≠ .lst xs) ∧ (∀ xs, u ≠ .dK xs) ∧ ∀ xs, u ≠ .dT xs) : a ≠ D0 := by
  rintro rfl
  rw [h0] at ha
  cases ha
  rcases hl with ⟨xs, h⟩ | ⟨xs, h⟩ | ⟨xs, h⟩
  · exact hu.1 xs h
  · exact hu.2.1 xs h
  · exact hu.2.2 xs h
mutual
theorem Rep.aside (hD : D0 ∈ mg.2) (hi : D0 ∉ ι) (h0 : H D0 = some o) (hl : (∃ xs, o = .lst xs) ∨ (∃ xs, o = .dK xs) ∨ ∃ xs, o = .dT xs) : ∀ {d : D} {v : V}, Rep K mg ι H d v → Rep K mg ι (upd H D0 o') d v
  | _, _, .non => .non
  | _, _, .bl b => .bl b
  | _, _, .int i => .int i
  | _, _, .str x => .str x
  | _, _, .tup h r => .tup (by rw [upd_ne (side_ne hl h0 h ⟨by simp, by simp, by simp⟩)]; exact h) (RepL.aside hD hi h0 hl r)
  | _, _, .ref h => .ref h
  | _, _, .glo h => .glo h
  | _, _, .ty n => .ty n
  | _, _, .fl h r => .fl (by
      rcases h with ⟨ob, h⟩ | h
      · exact .inl ⟨ob, by rw [upd_ne (side_ne hl h0 h ⟨by simp, by simp, by simp⟩)]; exact h⟩
      · exact .inr h) (RepL.aside hD hi h0 hl r)
  | _, _, .sl n h r => .sl n (by rw [upd_ne (fun e => n (List.mem_append_right _ (by rw [e]; exact hD)))]; exact h) (RepL.aside hD hi h0 hl r)
  | _, _, .exc c na nd ha hd r => .exc c na nd (by rw [upd_ne (side_ne hl h0 ha ⟨by simp [exo], by simp [exo], by simp [exo]⟩)]; exact ha) (by rw [upd_ne (side_ne hl h0 hd ⟨by simp [exd], by simp [exd], by simp [exd]⟩)]; exact hd) (RepL.aside hD hi h0 hl r)
  | _, _, .ex0 c na ha => .ex0 c na (by rw [upd_ne (side_ne hl h0 ha ⟨by simp [exo], by simp [exo], by simp [exo]⟩)]; exact ha)
  | _, _, .kt h r => .kt h (RepL.aside hD hi h0 hl r)
theorem RepL.aside (hD : D0 ∈ mg.2) (hi : D0 ∉ ι) (h0 : H D0 = some o) (hl : (∃ xs, o = .lst xs) ∨ (∃ xs, o = .dK xs) ∨ ∃ xs, o = .dT xs) : ∀ {ds : List D} {vs : List V}, RepL K mg ι H ds vs → RepL K mg ι (upd H D0 o') ds vs
  | _, _, .nil => .nil
  | _, _, .cons h r => .cons (Rep.aside hD hi h0 hl h) (RepL.aside hD hi h0 hl r)
end
include hD hi h0 hl in
theorem HR.aside {m : M} (h : HR K mg ι H m) : HR K mg ι (upd H D0 o') m := by
  refine ⟨h.len, h.nd, fun a ha => ?_, fun n a c h1 h2 => ?_⟩
  · by_cases e : a = D0
    · subst e; rw [upd_same]; simp
    · rw [upd_ne e]; exact h.fd a ha
  · have hne : a ≠ D0 := fun e => hi (by rw [← e]; exact List.mem_of_getElem? h1)
    have up : ∀ {u}, H a = some u → upd H D0 o' a = some u := fun q => by rw [upd_ne hne]; exact q
    cases h.at' n a c h1 h2 with
    | lst h r => exact .lst (up h) (r.aside hD hi h0 hl)
    | dK h r => exact .dK (up h) (paired_mono (fun _ _ ⟨x, y⟩ => ⟨x, y.aside hD hi h0 hl⟩) r)
    | dT h r => exact .dT (up h) (paired_mono (fun _ _ ⟨x, y⟩ => ⟨x, y.aside hD hi h0 hl⟩) r)
    | ins hc h r => exact .ins hc (up h) (paired_mono (fun _ _ ⟨x, y⟩ => ⟨x, y.aside hD hi h0 hl⟩) r)
include hD hi h0 hl in
theorem EnvR.aside {ρ : Rho} {σ : L2.St} (h : EnvR K mg ι H ρ σ) : EnvR K mg ι (upd H D0 o') ρ σ :=
  ⟨h.1, fun i d q => let ⟨v, h1, h2⟩ := h.2 i d q; ⟨v, h1, h2.aside hD hi h0 hl⟩⟩
end
/-- the side's address at the start -/
theorem HR.hide {m : M} {o : HO} (h : HR K mg ι H m) (hn : H D0 = none) : HR K (mg.1, D0 :: mg.2) ι (upd H D0 o) m := by
  have hF : ∀ a ∈ D0 :: mg.2, a ∈ mg.2 ∨ H a = none := fun a ha => by
    rcases List.mem_cons.mp ha with q | q
    · exact .inr (by rw [q]; exact hn)
    · exact .inl q
  refine ⟨h.len, h.nd, fun a ha => ?_, fun n a c h1 h2 => ?_⟩
  · by_cases e : a = D0
    · subst e; rw [upd_same]; simp
    · rw [upd_ne e]
      rcases List.mem_cons.mp ha with q | q
      · exact absurd q e
      · exact h.fd a q
  · exact ((h.at' n a c h1 h2).grow hF).mono (Ext.side hn) fun o' q => by rw [upd_ne (ne_of_none q hn)]; exact q
theorem growD (hn : H D0 = none) : ∀ a ∈ D0 :: mg.2, a ∈ mg.2 ∨ H a = none := fun a ha => by
  rcases List.mem_cons.mp ha with q | q
  · exact .inr (by rw [q]; exact hn)
  · exact .inl q
/-- the side's address at the end -/
theorem HR.less {m : M} (h : HR K (mg.1, D0 :: mg.2) ι H m) : HR K mg ι H m := HR.grow (mg := (mg.1, D0 :: mg.2)) (F' := mg.2) (fun a ha => .inl (List.mem_cons_of_mem D0 ha)) (fun a ha => h.fd a (List.mem_cons_of_mem D0 ha)) h
theorem RepL.less {ds : List D} {vs : List V} (h : RepL K (mg.1, D0 :: mg.2) ι H ds vs) : RepL K mg ι H ds vs := RepL.grow (mg := (mg.1, D0 :: mg.2)) (F' := mg.2) (fun a ha => .inl (List.mem_cons_of_mem D0 ha)) h
/-! the side's address becomes a cell -/
mutual
theorem Rep.track {F : List Addr} {a0 : Str → Option Value} {o : HO} (h0 : H D0 = some o) (hx : ∀ p, o ≠ .ext p) : ∀ {d : D} {v : V}, Rep K (a0, D0 :: F) ι H d v → Rep K (a0, F) (ι ++ [D0]) H d v
  | _, _, .non => .non
  | _, _, .bl b => .bl b
  | _, _, .int i => .int i
  | _, _, .str x => .str x
  | _, _, .tup h r => .tup h (RepL.track h0 hx r)
  | _, _, .ref h => .ref (by rw [List.getElem?_append_left (List.getElem?_eq_some_iff.mp h).1]; exact h)
  | _, _, .glo h => .glo h
  | _, _, .ty n => .ty n
  | _, _, .fl h r => .fl h (RepL.track h0 hx r)
  | _, _, .sl n h r => .sl (fun q => n (by
      rcases List.mem_append.mp q with q | q
      · rcases List.mem_append.mp q with q | q
        · exact List.mem_append_left _ q
        · exact List.mem_append_right _ (by rw [List.mem_singleton.mp q]; exact List.mem_cons_self)
      · exact List.mem_append_right _ (List.mem_cons_of_mem _ q))) h (RepL.track h0 hx r)
  | _, _, .exc c na nd ha hd r => .exc c (fun q => by
      rcases List.mem_append.mp q with q | q
      · exact na q
      · rw [List.mem_singleton.mp q, h0] at ha; cases ha; exact hx _ rfl) (fun q => by
      rcases List.mem_append.mp q with q | q
      · exact nd q
      · rw [List.mem_singleton.mp q, h0] at hd; cases hd; exact hx _ rfl) ha hd (RepL.track h0 hx r)
  | _, _, .ex0 c na ha => .ex0 c (fun q => by
      rcases List.mem_append.mp q with q | q
      · exact na q
      · rw [List.mem_singleton.mp q, h0] at ha; cases ha; exact hx _ rfl) ha
  | _, _, .kt h r => .kt h (RepL.track h0 hx r)
theorem RepL.track {F : List Addr} {a0 : Str → Option Value} {o : HO} (h0 : H D0 = some o) (hx : ∀ p, o ≠ .ext p) : ∀ {ds : List D} {vs : List V}, RepL K (a0, D0 :: F) ι H ds vs → RepL K (a0, F) (ι ++ [D0]) H ds vs
  | _, _, .nil => .nil
  | _, _, .cons h r => .cons (Rep.track h0 hx h) (RepL.track h0 hx r)
end
theorem HR.track {F : List Addr} {a0 : Str → Option Value} {m : M} {o : HO} {c : Cell} (h : HR K (a0, D0 :: F) ι H m) (hi : D0 ∉ ι) (h0 : H D0 = some o) (hx : ∀ p, o ≠ .ext p) (hc : CellRep K (a0, F) (ι ++ [D0]) H D0 c) : HR K (a0, F) (ι ++ [D0]) H (m ++ [c]) := by
  refine ⟨by simp [h.len], ?_, fun a ha => h.fd a (List.mem_cons_of_mem _ ha), fun n a c' h1 h2 => ?_⟩
  · rw [List.nodup_append]
    refine ⟨h.nd, by simp, fun x hx y hy e => ?_⟩
    rw [List.mem_singleton.mp hy] at e
    subst e
    exact hi hx
  · by_cases hn : n < ι.length
    · rw [List.getElem?_append_left hn] at h1
      rw [List.getElem?_append_left (by rw [← h.len]; exact hn)] at h2
      cases h.at' n a c' h1 h2 with
      | lst h r => exact .lst h (r.track h0 hx)
      | dK h r => exact .dK h (paired_mono (fun _ _ ⟨x, y⟩ => ⟨x, y.track h0 hx⟩) r)
      | dT h r => exact .dT h (paired_mono (fun _ _ ⟨x, y⟩ => ⟨x, y.track h0 hx⟩) r)
      | ins hc h r => exact .ins hc h (paired_mono (fun _ _ ⟨x, y⟩ => ⟨x, y.track h0 hx⟩) r)
    · rw [List.getElem?_append_right (by omega)] at h1
      rw [List.getElem?_append_right (by rw [← h.len]; omega)] at h2
      have z : n - ι.length = 0 := by
        cases q : n - ι.length with
        | zero => rfl
        | succ k => rw [q] at h1; simp at h1
      rw [z] at h1
      rw [← h.len, z] at h2
      simp at h1 h2
      subst h1; subst h2
      exact hc
theorem Ext.newCell (e : Ext ι H ι' H') (hn : H D0 = none) : Ext ι H (ι' ++ [D0]) H' := by
  obtain ⟨t, rfl, ht⟩ := e.pre
  refine ⟨⟨t ++ [D0], by rw [List.append_assoc], fun a ha => ?_⟩, e.tup, e.frz, e.fr, e.dom⟩
  rcases List.mem_append.mp ha with q | q
  · exact ht a q
  · rw [List.mem_singleton.mp q]; exact hn
end
/-! targets of a comprehension's own names -/
section
variable (K : PySem.W.Frag) (mg : Str → Option Value) (own : List Nat)
def tGo (g : GF) : TG := fun v σ H Q => ∃ F ι ρ m d, EnvR K (mg, F) ι H ρ σ ∧ HR K (mg, F) ι H m ∧ Rep K (mg, F) ι H d v ∧ PostG K (mg, F) ι H (fun σ' H' => wipe σ' own = wipe σ own → Q σ' H') (g d ρ m)
def tGso (g : GFs) : TGs := fun vs σ H Q => ∃ F ι ρ m ds, EnvR K (mg, F) ι H ρ σ ∧ HR K (mg, F) ι H m ∧ RepL K (mg, F) ι H ds vs ∧ PostG K (mg, F) ι H (fun σ' H' => wipe σ' own = wipe σ own → Q σ' H') (g ds ρ m)
end
abbrev ZGo (X : Cx) (own : List Nat) (e : Expr) (g : GF) : Prop := PG X e (tGo X.K X.mg own g)
abbrev ZGso (X : Cx) (own : List Nat) (e : List Expr) (g : GFs) : Prop := PGs X e (tGso X.K X.mg own g)
section
variable {X : Cx} {pos : Pos} {own : List Nat}
theorem zgo_name {i : Nat} {x : Str} (hN : X.N.Nodup) (hi : X.N[i]? = some x) (hx : Loc X.env.scope x) (hf : X.fn x = true ∨ X.env.scope.names.lookup x = some .local := by first | exact .inl rfl | exact .inr rfl | assumption) (ho : i ∈ own := by decide) : ZGo X own (.Name x pos) (gNm i) :=
  PG.imp (pg_name hN hi hx hf) fun v σ H Q ⟨F, ι, ρ, m, d, hρ, hm, hd, hp⟩ => hp ι H _ .refl hm (hρ.set i hd) (wipe_set σ _ own i ho)
theorem zgso_nil : ZGso X own [] gsNil := PGs.imp pgs_nil fun vs σ H Q ⟨F, ι, ρ, m, ds, hρ, hm, hd, hp⟩ => by
  cases hd with
  | nil => exact ⟨rfl, hp ι H _ .refl hm hρ rfl⟩
  | cons _ _ => exact hp.elim
theorem zgso_cons {e : Expr} {es : List Expr} {g : GF} {u : GFs} (h1 : ZGo X own e g) (h2 : ZGso X own es u)
    (hs : (assignEach (e :: es) X.env).map (·.2) = assign e X.env :: (assignEach es X.env).map (·.2) := by rfl) : ZGso X own (e :: es) (gsCons g u) := PGs.imp (pgs_cons h1 h2 hs) fun vs σ H Q ⟨F, ι, ρ, m, ds, hρ, hm, hd, hp⟩ => by
  cases hd with
  | nil => exact hp.elim
  | @cons d v ds vs r rs =>
    refine ⟨v, vs, rfl, F, ι, ρ, m, d, hρ, hm, r, ?_⟩
    have hp : PostG X.K (X.mg, F) ι H (fun σ' H' => wipe σ' own = wipe σ own → Q σ' H') ((g d ρ m).bind fun p => u ds p.1 p.2) := hp
    cases q : g d ρ m with
    | none => rw [q] at hp; exact hp
    | some p =>
      rw [q] at hp
      exact fun ι' H' σ' e h1 h2 hw => ⟨F, ι', p.1, p.2, ds, h2, h1, rs.mono e, by rw [hw]; exact PostG.shift e hp⟩
theorem zgo_tup {es : List Expr} {k : Nat} {g : GFs} {n : Nat} (hc : X.calm = true) (h : ZGso X own es g)
    (hn : (assignEach es X.env).length = n := by rfl) (hst : (assignEach es X.env).findIdx? (·.1) = none := by rfl) : ZGo X own (.Tuple es k pos) (gTp n g) := PG.imp (pg_tup hc h hn hst) fun v σ H Q ⟨F, ι, ρ, m, d, hρ, hm, hd, hp⟩ => by
  cases hd with
  | tup hs hr =>
    have hp : PostG X.K (X.mg, F) ι H (fun σ' H' => wipe σ' own = wipe σ own → Q σ' H') (if _ = n then _ else none) := hp
    split at hp
    · rename_i hl
      exact ⟨_, _, rfl, .of hs, by rw [← hr.length]; exact hl, F, ι, ρ, m, _, hρ, hm, hr, hp⟩
    · exact hp.elim
  | _ => exact hp.elim
end
abbrev WN : WX := fun _ _ _ _ => False
abbrev ZTs (X : Cx) (ifs : List Expr) (f : TF) : Prop := PTs X ifs (tT X.K X.mg WN f)
section
variable {X : Cx}
def PTs.imp {X : Cx} {e : List Expr} {t t' : TT} (h : PTs X e t) (i : ∀ σ H Q, t' σ H Q → t σ H Q) : PTs X e t' := ⟨fun pins s σ H Q I q => h.run pins s σ H Q I (i _ _ _ q)⟩
theorem zts_nil : ZTs X [] tYesF := PTs.imp pts_nil fun σ H Q ⟨F, ι, ρ, m, hρ, hm, hp⟩ => hp.okI hm rfl
theorem zts_one {c : Expr} {f : TF} (h : ZT X WN c f) : ZTs X [c] f := pts_one h
end
/-- what a comprehension reads -/
theorem lc_run {K : PySem.W.Frag} {mg : Str → Option Value} {W : WX} {it : IF} {own : List Nat} {g : GF} {tt : TF} {f : EF} {σ : L2.St} {H : Hp} {Q : VK}
    (fin : ∀ F ι H (m : M) (xs : List D), Prop)
    (hfin : ∀ F ι H0 ι' H' m xs vs D0, fin F ι H0 m xs → H0 D0 = none → Ext ι H0 ι' H' → D0 ∉ ι' → D0 ∉ F → HR K (mg, D0 :: F) ι' H' m → H' D0 = some (.lst vs) → RepL K (mg, D0 :: F) ι' H' xs vs → Q (.ref D0) H')
    (q : ∃ F ι ρ m, EnvR K (mg, F) ι H ρ σ ∧ HR K (mg, F) ι H m ∧ Post K (mg, F) (relI K (mg, F)) (fun c d H' => W c d σ H') ι H (fun J H1 => ∃ ι1 z m1, Ext ι H ι1 H1 ∧ HR K (mg, F) ι1 H1 m1 ∧ relI K (mg, F) ι1 H1 z J ∧
      OkI (fun xs m2 => fin F ι1 H1 m2 xs) (lcN z.nxt g tt f z.fuel 0 (wipeR ρ own) [] m1)) (it ρ m)) :
    tLc (tI K mg W it) (tGo K mg own g) (tT K mg WN tt) (tE K mg WN f) own σ H Q := by
  obtain ⟨F, ι, ρ, m, hρ, hm, hp⟩ := q
  refine ⟨F, ι, ρ, m, hρ, hm, ?_⟩
  cases hit : it ρ m with
  | bad => rw [hit] at hp; exact hp
  | err x m1 => rw [hit] at hp; exact hp
  | ok z0 m0 =>
  rw [hit] at hp
  intro ι0 H1 J e0 h0 r0
  obtain ⟨ι1, z, m1, e1, h1, r1, hp1⟩ := hp ι0 H1 J e0 h0 r0
  intro D0 hD
  have hDi : D0 ∉ ι1 := fun h => by
    obtain ⟨o, q⟩ := h1.mem h
    rw [hD] at q; cases q
  have hDF : D0 ∉ F := fun h => h1.fd D0 h hD
  refine ⟨fun i n H2 => ∃ ι2 m2 acc vs, Ext ι1 H1 ι2 H2 ∧ D0 ∉ ι2 ∧ H2 D0 = some (.lst vs) ∧ HR K (mg, D0 :: F) ι2 H2 m2 ∧ RepL K (mg, D0 :: F) ι2 H2 acc vs ∧ EnvR K (mg, D0 :: F) ι2 H2 (wipeR ρ own) (wipe σ own) ∧
    OkI (fun xs m2 => fin F ι1 H1 m2 xs) (lcN z.nxt g tt f n i (wipeR ρ own) acc m2), ⟨z.fuel, ι1, m1, [], [], (Ext.refl).hide hD, hDi, upd_same, HR.hide (mg := (mg, F)) h1 hD, .nil, ?_, hp1⟩, ?_⟩
  · exact (((hρ.mono e1).grow (growD (mg := (mg, F)) hD)).mono (Ext.side hD)).wipe own
  rintro i n H2 ⟨ι2, m2, acc, vs, e2, d2, hd2, h2, ra, hρ2, hp2⟩
  obtain ⟨rs, rg⟩ := r1 i (D0 :: F) ι2 H2 m2 (growD (mg := (mg, F)) hD) e2 h2
  cases n with
  | zero => exact hp2.elim
  | succ n =>
    unfold lcN at hp2
    match hn : z.nxt i m2 with
    | none => rw [hn] at hp2; exact hp2.elim
    | some none =>
      rw [hn] at hp2
      exact .inl ⟨rs hn, hfin F ι1 H1 ι2 H2 m2 acc vs D0 hp2 hD e2 d2 hDF h2 hd2 ra⟩
    | some (some d) =>
      rw [hn] at hp2
      dsimp only at hp2
      obtain ⟨hgo, hy⟩ := rg d hn
      refine .inr ⟨hgo, fun H' => ∃ ι2 m2 acc vs, Ext ι1 H1 ι2 H' ∧ D0 ∉ ι2 ∧ H' D0 = some (.lst vs) ∧ HR K (mg, D0 :: F) ι2 H' m2 ∧ RepL K (mg, D0 :: F) ι2 H' acc vs ∧ EnvR K (mg, D0 :: F) ι2 H' (wipeR ρ own) (wipe σ own) ∧
        OkI (fun xs m2 => fin F ι1 H1 m2 xs) (lcN z.nxt g tt f n (i + 1) (wipeR ρ own) acc m2), fun H' hN => ⟨n, Nat.lt_succ_self n, hN⟩, fun x H3 hx => ?_⟩
      obtain ⟨e3, h3, r3⟩ := hy x H3 hx
      refine ⟨D0 :: F, ι2, wipeR ρ own, m2, d, hρ2.mono e3, h3, r3, ?_⟩
      cases qg : g d (wipeR ρ own) m2 with
      | none => rw [qg] at hp2; exact hp2.elim
      | some p =>
        obtain ⟨ρ4, m4⟩ := p
        rw [qg] at hp2
        dsimp only at hp2
        intro ι4 H4 σ4 e4 h4 hρ4 hw
        refine ⟨hw.trans (wipe_idem σ own own fun _ h => h), D0 :: F, ι4, ρ4, m4, hρ4, h4, ?_⟩
        cases qt : tt ρ4 m4 with
        | bad => rw [qt] at hp2; exact hp2.elim
        | err x5 m5 => rw [qt] at hp2; exact hp2.elim
        | ok b m5 =>
          rw [qt] at hp2
          intro ι5 H5 b' e5 h5 hb
          cases hb
          have e25 : Ext ι2 H2 ι5 H5 := e3.trans (e4.trans e5)
          have d5 : D0 ∉ ι5 := e25.out d2 hd2
          have hd5 : H5 D0 = some (.lst vs) := e25.fr _ _ d2 hd2
          cases b with
          | false => exact iteF ⟨ι5, m5, acc, vs, e2.trans e25, d5, hd5, h5, ra.mono e25, hρ2.mono e25, hp2⟩
          | true =>
            dsimp only at hp2
            refine iteT ⟨D0 :: F, ι5, ρ4, m5, hρ4.mono e5, h5, ?_⟩
            cases qf : f ρ4 m5 with
            | bad => rw [qf] at hp2; exact hp2.elim
            | err x6 m6 => rw [qf] at hp2; exact hp2.elim
            | ok y m6 =>
              rw [qf] at hp2
              intro ι6 H6 v e6 h6 r6
              have e26 : Ext ι2 H2 ι6 H6 := e25.trans e6
              have d6 : D0 ∉ ι6 := e26.out d2 hd2
              have hd6 : H6 D0 = some (.lst vs) := e26.fr _ _ d2 hd2
              dsimp only at hp2
              by_cases hl : acc.length < line
              · rw [if_pos hl] at hp2
                have hM : D0 ∈ ((mg, D0 :: F) : G).2 := List.mem_cons_self
                have hL : (∃ xs, HO.lst vs = .lst xs) ∨ (∃ xs, HO.lst vs = .dK xs) ∨ ∃ xs, HO.lst vs = .dT xs := .inl ⟨vs, rfl⟩
                refine ⟨vs, hd6, by rw [line_eq, ← ra.length]; exact hl, ι6, m6, acc ++ [y], vs ++ [v], (e2.trans e26).hide hD, d6, upd_same, h6.aside hM d6 hd6 hL, ?_, (hρ2.mono e26).aside hM d6 hd6 hL, hp2⟩
                exact RepL.append ((ra.mono e26).aside hM d6 hd6 hL) (.cons (r6.aside hM d6 hd6 hL) .nil)
              · rw [if_neg hl] at hp2
                exact hp2.elim
section
variable {X : Cx} {W : WX}
theorem lcN_noerr {nxt : Nat → M → Option (Option D)} {g : GF} {tt : TF} {f : EF} : ∀ (n i : Nat) (ρ : Rho) (acc : List D) (m : M) x m', lcN nxt g tt f n i ρ acc m ≠ .err x m'
  | 0, _, _, _, _, _, _, h => by cases h
  | n + 1, i, ρ, acc, m, x, m', h => by
    unfold lcN at h
    split at h
    · cases h
    · cases h
    · split at h
      · cases h
      · split at h
        · split at h
          · split at h
            · exact lcN_noerr n _ _ _ _ _ _ h
            · cases h
          · cases h
        · exact lcN_noerr n _ _ _ _ _ _ h
        · cases h
theorem lcPost {K : PySem.W.Frag} {mg : Str → Option Value} {E : XK} {ι : List Addr} {H : Hp} {F : List Addr} {Q : VK} {r : R Itz} {ρ : Rho} {own : List Nat} {g : GF} {tt : TF} {f : EF} {k : List D → M → R D}
    (hp : Post K (mg, F) (relE K (mg, F)) E ι H Q (r.bind fun z m1 => (lcN z.nxt g tt f z.fuel 0 (wipeR ρ own) [] m1).bind k)) :
    Post K (mg, F) (relI K (mg, F)) E ι H (fun J H1 => ∃ ι1 z m1, Ext ι H ι1 H1 ∧ HR K (mg, F) ι1 H1 m1 ∧ relI K (mg, F) ι1 H1 z J ∧
      OkI (fun xs m2 => Post K (mg, F) (relE K (mg, F)) E ι1 H1 Q (k xs m2)) (lcN z.nxt g tt f z.fuel 0 (wipeR ρ own) [] m1)) r := by
  refine Post.seq hp fun z m1 ι1 H1 J _ e1 h1 r1 hp1 => ⟨ι1, z, m1, e1, h1, r1, ?_⟩
  cases q : lcN z.nxt g tt f z.fuel 0 (wipeR ρ own) [] m1 with
  | ok xs m2 => rw [q] at hp1; exact hp1
  | err x m2 => exact (lcN_noerr _ _ _ _ _ _ _ q).elim
  | bad => rw [q] at hp1; exact hp1
theorem Post.mono {α β : Type} {K : PySem.W.Frag} {mg : G} {rel : Relt α β} {E : XK} {ι : List Addr} {H : Hp} {Q Q' : β → Hp → Prop} {r : R α} (h : Post K mg rel E ι H Q r) (i : ∀ b H', Q b H' → Q' b H') : Post K mg rel E ι H Q' r := by
  cases r with
  | ok a m => exact fun ι' H' b e h1 h2 => i _ _ (h ι' H' b e h1 h2)
  | err x m => exact h
  | bad => exact h
theorem lcS {it : IF} {own : List Nat} {g : GF} {tt : TF} {f : EF} {K : PySem.W.Frag} {mg : Str → Option Value} {σ : L2.St} {H : Hp} {Q : VK} (q : tE K mg W (eLc it own g tt f) σ H Q) : tLc (tI K mg W it) (tGo K mg own g) (tT K mg WN tt) (tE K mg WN f) own σ H Q := by
  obtain ⟨F, ι, ρ, m, hρ, hm, hp⟩ := q
  refine lc_run (fun F ι H m xs => Post K (mg, F) (relE K (mg, F)) (fun c d H' => W c d σ H') ι H Q (.ok (.sl xs) m)) ?_ ⟨F, ι, ρ, m, hρ, hm, (lcPost hp).mono fun J H1 ⟨ι1, z, m1, e1, h1, r1, q⟩ => ⟨ι1, z, m1, e1, h1, r1, q⟩⟩
  intro F ι H0 ι' H' m xs vs D0 hp hD e hi hF hm hd r
  refine hp ι' H' _ e (HR.less (mg := (mg, F)) hm) (.sl (fun q => ?_) hd (RepL.less (mg := (mg, F)) r))
  rcases List.mem_append.mp q with q | q
  · exact hi q
  · exact hF q
theorem lcC {it : IF} {own : List Nat} {g : GF} {tt : TF} {f : EF} {K : PySem.W.Frag} {mg : Str → Option Value} {σ : L2.St} {H : Hp} {Q : VK} (q : tE K mg W (eLcC it own g tt f) σ H Q) : tLc (tI K mg W it) (tGo K mg own g) (tT K mg WN tt) (tE K mg WN f) own σ H Q := by
  obtain ⟨F, ι, ρ, m, hρ, hm, hp⟩ := q
  refine lc_run (fun F ι H m xs => Post K (mg, F) (relE K (mg, F)) (fun c d H' => W c d σ H') ι H Q (.ok (.ref m.length) (m ++ [.lst xs]))) ?_ ⟨F, ι, ρ, m, hρ, hm, (lcPost hp).mono fun J H1 ⟨ι1, z, m1, e1, h1, r1, q⟩ => ⟨ι1, z, m1, e1, h1, r1, q⟩⟩
  intro F ι H0 ι' H' m xs vs D0 hp hD e hi hF hm hd r
  refine hp (ι' ++ [D0]) H' _ (e.newCell hD) (hm.track hi hd (fun p q => by cases q) (.lst hd (r.track hd fun p q => by cases q))) (.ref ?_)
  rw [← hm.len]; simp
variable {elt tg iter : Expr} {ifs : List Expr} {scope : Scope} {own : List (Str × Nat)} {pos : Pos} {it : IF} {g : GF} {tt : TF} {f : EF}
theorem z_lc (hc : X.calm = true) (hN : X.N.Nodup) (hi : ZI X W tg iter it) (ok : BlkOk X.N X.env.scope scope own)
    (hg : ∀ (s : Shared) (H : Hp) (C : Addr) (cl : List (Str × Addr)) (fp : List Addr), ZGo (X.blk s H scope (compEnvC scope cl C X.env) fp) (own.map (·.2)) tg g)
    (ht : ∀ (s : Shared) (H : Hp) (C : Addr) (cl : List (Str × Addr)) (fp : List Addr), ZTs (X.blk s H scope (compEnvC scope cl C X.env) fp) ifs tt)
    (he : ∀ (s : Shared) (H : Hp) (C : Addr) (cl : List (Str × Addr)) (fp : List Addr), ZE (X.blk s H scope (compEnvC scope cl C X.env) fp) WN elt f)
    (hs : ∀ x, foldedSetIterable iter X.env x = pure x := by intro _; rfl) : ZE X W (.ListComp elt [⟨tg, iter, ifs, 0⟩] scope pos) (eLc it (own.map (·.2)) g tt f) :=
  PE.imp (pe_lc hc hN hi ok hg ht he hs) fun σ H Q q => lcS q
theorem z_lcC (hc : X.calm = true) (hN : X.N.Nodup) (hi : ZI X W tg iter it) (ok : BlkOk X.N X.env.scope scope own)
    (hg : ∀ (s : Shared) (H : Hp) (C : Addr) (cl : List (Str × Addr)) (fp : List Addr), ZGo (X.blk s H scope (compEnvC scope cl C X.env) fp) (own.map (·.2)) tg g)
    (ht : ∀ (s : Shared) (H : Hp) (C : Addr) (cl : List (Str × Addr)) (fp : List Addr), ZTs (X.blk s H scope (compEnvC scope cl C X.env) fp) ifs tt)
    (he : ∀ (s : Shared) (H : Hp) (C : Addr) (cl : List (Str × Addr)) (fp : List Addr), ZE (X.blk s H scope (compEnvC scope cl C X.env) fp) WN elt f)
    (hs : ∀ x, foldedSetIterable iter X.env x = pure x := by intro _; rfl) : ZE X W (.ListComp elt [⟨tg, iter, ifs, 0⟩] scope pos) (eLcC it (own.map (·.2)) g tt f) :=
  PE.imp (pe_lc hc hN hi ok hg ht he hs) fun σ H Q q => lcC q
end
end Z

namespace Z
open PySem PySem.Spec PyProof.Rows L2

/-! ### stores under a subscript -/
def oSet (o i v : D) (m : M) : Option M := match o with
  | .ref n => match m[n]? with
    | some (.lst xs) => match i with
      | .int k => (ixD xs.length k).map fun j => m.set n (.lst (xs.set j v))
      | _ => none
    | some (.dic kvs) => if (keyFits kvs i && decide (kvs.length < line)) = true then some (m.set n (.dic (putD kvs i v))) else none
    | _ => none
  | _ => none
/-- an empty dict's kind turned, or nothing -/
def Turn (H : Hp) (a : Addr) (H' : Hp) : Prop := H' = H ∨ (H a = some (.dK []) ∧ H' = upd H a (.dT [])) ∨ (H a = some (.dT []) ∧ H' = upd H a (.dK []))
def rSt : TSet := fun o i v H Q => rSetL o i v H Q ∨ ∃ a H1 H2, o = .ref a ∧ Turn H a H1 ∧ DPut H1 a i v H2 ∧ Q H2
theorem set_st {X : Cx} (hu : X.A.units + 64 < cLine) : PSet X rSt := fun pins s σ H o i v ov iv u Q I ro ri rv q => by
  rcases q with q | ⟨a, H1, H2, rfl, ht, hp, q⟩
  · exact set_list pins s σ H o i v ov iv u Q I ro ri rv q
  · have I1 : Inv X pins σ H1 s := by
      rcases ht with rfl | ⟨e, rfl⟩ | ⟨e, rfl⟩
      · exact I
      · exact toT I e
      · exact toK I e
    cases ro
    exact d_setItem (by omega) I1 hp ri rv fun s' I' => ⟨H2, I', q⟩
section
variable {K : PySem.W.Frag} {mg : G} {ι : List Addr} {H : Hp} {m m' : M}
theorem put_rep (hm : HR K mg ι H m) {n : Nat} {a : Addr} {kvs : List (D × D)} {k x : D} {y v : V} (e : ι[n]? = some a) (hc : m[n]? = some (.dic kvs)) (r : Rep K mg ι H k y) (rx : Rep K mg ι H x v) (hf : keyFits kvs k = true) (hl : kvs.length < line) :
    ∃ H1 H2, Turn H a H1 ∧ DPut H1 a y v H2 ∧ Ext ι H ι H2 ∧ HR K mg ι H2 (m.set n (.dic (putD kvs k x))) := by
  unfold keyFits at hf
  rw [Bool.and_eq_true] at hf
  obtain ⟨hk, hf⟩ := hf
  have two : (∃ q, keyOf k = some q) ∨ ∃ qs, keyT k = some qs := by
    unfold keyU at hk
    cases e1 : keyOf k with
    | some q => exact .inl ⟨q, rfl⟩
    | none =>
      rw [e1] at hk
      cases e2 : keyT k with
      | some qs => exact .inr ⟨qs, rfl⟩
      | none => rw [e2] at hk; cases hk
  obtain ⟨c, hc', cr⟩ := hm.lt e
  have ex : ∀ o, Ext ι H ι (upd H a o) := fun o => Ext.write hm e cr.notup.1 cr.notup.2
  have bne : ∀ {b : Addr} {vs : List V}, H b = some (.tup vs) → b ≠ a := fun hb z => by subst z; exact cr.notup.1 _ hb
  rcases dic_at hm e hc with ⟨ws, h1, r1⟩ | ⟨ws, h1, r1⟩
  · have lw : kvs.length = ws.length := by
      clear h1 hc hf hl; induction r1 with
      | nil => rfl
      | cons _ _ ih => simp [ih]
    rcases two with ⟨q, hq⟩ | ⟨qs, hq⟩
    · have ey := kV_of r hq
      subst ey
      refine ⟨H, upd H a (.dK (putK ws q v)), .inl rfl, .inl ⟨ws, q, h1, rfl, by rw [line_eq, ← lw]; exact hl, rfl⟩, ex _, hm.write e (ex _) (.dK upd_same ?_)⟩
      exact paired_mono (fun _ _ ⟨z1, z2⟩ => ⟨z1, z2.mono (ex _)⟩) (putD_K r1 hq rx)
    · cases r1 with
      | nil =>
        obtain ⟨b, rfl, hb⟩ := keyT_at r hq
        have hab := bne hb
        refine ⟨upd H a (.dT []), upd H a (.dT (putK [] qs v)), .inr (.inl ⟨h1, rfl⟩), .inr ⟨[], qs, b, upd_same, rfl, by rw [upd_ne hab]; exact hb, by decide, ?_⟩, ex _, hm.write e (ex _) (.dT upd_same ?_)⟩
        · funext z
          by_cases hz : z = a
          · subst hz; rw [upd_same, upd_same]
          · rw [upd_ne hz, upd_ne hz, upd_ne hz]
        · exact paired_mono (fun _ _ ⟨z1, z2⟩ => ⟨z1, z2.mono (ex _)⟩) (putD_T .nil hq rx)
      | cons hpq t =>
        exfalso
        simp only [isT, keyOf_T hpq.1, hq] at hf
        cases hf
  · have lw : kvs.length = ws.length := by
      clear h1 hc hf hl; induction r1 with
      | nil => rfl
      | cons _ _ ih => simp [ih]
    rcases two with ⟨q, hq⟩ | ⟨qs, hq⟩
    · cases r1 with
      | nil =>
        have ey := kV_of r hq
        subst ey
        refine ⟨upd H a (.dK []), upd H a (.dK (putK [] q v)), .inr (.inr ⟨h1, rfl⟩), .inl ⟨[], q, upd_same, rfl, by decide, ?_⟩, ex _, hm.write e (ex _) (.dK upd_same ?_)⟩
        · funext z
          by_cases hz : z = a
          · subst hz; rw [upd_same, upd_same]
          · rw [upd_ne hz, upd_ne hz, upd_ne hz]
        · exact paired_mono (fun _ _ ⟨z1, z2⟩ => ⟨z1, z2.mono (ex _)⟩) (putD_K .nil hq rx)
      | cons hpq t =>
        exfalso
        simp only [isT, hpq.1, keyOf_T hq] at hf
        cases hf
    · obtain ⟨b, rfl, hb⟩ := keyT_at r hq
      refine ⟨H, upd H a (.dT (putK ws qs v)), .inl rfl, .inr ⟨ws, qs, b, h1, rfl, hb, by rw [line_eq, ← lw]; exact hl, rfl⟩, ex _, hm.write e (ex _) (.dT upd_same ?_)⟩
      exact paired_mono (fun _ _ ⟨z1, z2⟩ => ⟨z1, z2.mono (ex _)⟩) (putD_T r1 hq rx)
theorem set_rep (hm : HR K mg ι H m) {o i d : D} {vo vi v : V} (ro : Rep K mg ι H o vo) (ri : Rep K mg ι H i vi) (rv : Rep K mg ι H d v) (h : oSet o i d m = some m') : ∃ H', Ext ι H ι H' ∧ HR K mg ι H' m' ∧ ∀ Q, Q H' → rSt vo vi v H Q := by
  unfold oSet at h
  split at h
  · rename_i n
    cases ro with
    | @ref _ a e =>
    split at h
    · rename_i xs hc
      split at h
      · rename_i k
        cases ri
        obtain ⟨j, hj, rfl⟩ := Option.map_eq_some_iff.mp h
        obtain ⟨vs, h1, r1⟩ := lst_at hm e hc
        obtain ⟨c, hc', cr⟩ := hm.lt e
        have ex : Ext ι H ι (upd H a (.lst (vs.set j v))) := Ext.write hm e cr.notup.1 cr.notup.2
        exact ⟨_, ex, hm.write e ex (.lst upd_same ((r1.setAt rv j).mono ex)), fun Q q => .inl ⟨a, vs, k, j, rfl, rfl, h1, by rw [← r1.length]; exact hj, q⟩⟩
      · cases h
    · rename_i kvs hc
      split at h
      · rename_i hf
        cases h
        rw [Bool.and_eq_true] at hf
        obtain ⟨H1, H2, t, p, ex, h2⟩ := put_rep hm e hc ri rv hf.1 (of_decide_eq_true hf.2)
        exact ⟨H2, ex, h2, fun Q q => .inr ⟨a, H1, H2, rfl, t, p, q⟩⟩
      · cases h
    · cases h
  · cases h
end
def gSubZ (fo fi : EF) : GF := fun d ρ m => match fo ρ m with
  | .ok o m1 => match fi ρ m1 with
    | .ok i m2 => (oSet o i d m2).map fun m3 => (ρ, m3)
    | _ => none
  | _ => none
section
variable {X : Cx} {W : WX} {pos : Pos} {o i e : Expr} {fo fi f : EF}
theorem zg_sub (hu : X.A.units + 64 < cLine) (ho : ZE X W o fo) (hi : ZE X W i fi) (ha : ∀ (v : Value), assign (o.Subscript i pos) X.env v = (do
      let ov ← holding [v] (eval o X.env)
      let iv ← holding [v, ov] (eval i X.env)
      standAt pos
      holding [v, ov, iv] (setItem ov iv v)
      release [v, ov, iv] []) := by intro _; rfl) : ZG X (.Subscript o i pos) (gSubZ fo fi) :=
  PG.imp (pg_sub ho hi (set_st hu) ha) fun v σ H Q ⟨F, ι, ρ, m, d, hρ, hm, hd, hp⟩ => by
    unfold gSubZ at hp
    refine ⟨F, ι, ρ, m, hρ, hm, ?_⟩
    cases q1 : fo ρ m with
    | bad => rw [q1] at hp; exact hp.elim
    | err x m1 => rw [q1] at hp; exact hp.elim
    | ok ov m1 =>
      rw [q1] at hp
      intro ι1 H1 v1 e1 h1 r1
      refine ⟨F, ι1, ρ, m1, hρ.mono e1, h1, ?_⟩
      dsimp only at hp
      cases q2 : fi ρ m1 with
      | bad => rw [q2] at hp; exact hp.elim
      | err x m2 => rw [q2] at hp; exact hp.elim
      | ok iv m2 =>
        rw [q2] at hp
        intro ι2 H2 v2 e2 h2 r2
        dsimp only at hp
        cases q3 : oSet ov iv d m2 with
        | none => rw [q3] at hp; exact hp.elim
        | some m3 =>
          rw [q3] at hp
          obtain ⟨H3, e3, h3, k⟩ := set_rep h2 (r1.mono e2) r2 (hd.mono (e1.trans e2)) q3
          exact k _ (hp ι2 H3 σ (e1.trans (e2.trans e3)) h3 (hρ.mono (e1.trans (e2.trans e3))))
/-! ### methods of lists -/
def lstIs (m : M) : D → Bool
  | .ref n => match m[n]? with
    | some (.lst _) => true
    | _ => false
  | _ => false
def eMethL (g : D → List D → M → R D) (fo : EF) (a : AF) : EF := fun ρ m => (fo ρ m).bind fun x m1 => if lstIs m1 x = true then (a ρ m1).bind fun ds m2 => g x ds m2 else .bad
def OpM (X : Cx) (r : V → List V → Hp → VK → Prop) (g : D → List D → M → R D) : Prop := ∀ (F : List Addr) (E : XK) (ι : List Addr) (H : Hp) (m : M) (x : D) (v : V) (xs : List D) (vs : List V) (Q : VK), HR X.K (X.mg, F) ι H m → Rep X.K (X.mg, F) ι H x v → RepL X.K (X.mg, F) ι H xs vs →
  Post X.K (X.mg, F) (relE X.K (X.mg, F)) E ι H Q (g x xs m) → r v vs H Q
theorem lstIs_ty {K : PySem.W.Frag} {mg : G} {ι : List Addr} {H : Hp} {m : M} (hm : HR K mg ι H m) {x : D} {v : V} (r : Rep K mg ι H x v) (h : lstIs m x = true) : tyV K "list" v H := by
  unfold lstIs at h
  split at h
  · rename_i n
    cases r with
    | @ref _ a e =>
      split at h
      · rename_i xs hc
        obtain ⟨vs, h1, r1⟩ := lst_at hm e hc
        exact .inl ⟨rfl, vs, .of h1⟩
      · cases h
  · cases h
theorem z_bmL {es : List Expr} {name : Str} {apos cpos : Pos} {id : String} {r : V → List V → Hp → VK → Prop} {g : D → List D → M → R D} {a : AF} (pa : PlainAttrs "list") (slot : Slot "list" name id) (hty : typeOf (Value.builtin id) = pure (Value.type "method_descriptor")) (hm : MtR X id r) (hz : OpM X r g)
    (ho : ZE X W o fo) (ha : ZA X W (e :: es) a) (h1 : attributeBase o name X.env (eval o X.env) = eval o X.env := by rfl)
    (h2 : (((((backTo cpos (starEach (e :: es) X.env)).all fun x => !x.fst) && (backToKw cpos (keywordEach [] X.env)).all fun x => x.fst.isSome) && decide (((e :: es).length + ([] : List Keyword).length + if ([] : List Keyword).isEmpty = true then 0 else 1) < 30)) = true) := by rfl)
    (h3 : (apos.endLine == cpos.line) = true := by rfl) (h4 : starEach (e :: es) X.env = (false, eval e X.env) :: starEach es X.env := by rfl) (h5 : ((backTo cpos (starEach es X.env)).any fun x => x.fst) = false := by rfl) :
    ZE X W (.Call (.Attribute o name apos) (e :: es) [] cpos) (eMethL g fo a) := by
  refine PE.imp (pe_bm pa slot hty hm ho ha h1 h2 h3 h4 h5) fun σ H Q ⟨F, ι, ρ, m, hρ, hm', hp⟩ => ⟨F, ι, ρ, m, hρ, hm', ?_⟩
  refine Post.seq hp fun d m1 ι1 H1 v _ e1 h1 r1 hp1 => ?_
  split at hp1
  · rename_i hl
    refine ⟨lstIs_ty h1 r1 hl, F, ι1, ρ, m1, hρ.mono e1, h1, ?_⟩
    exact Post.seq hp1 fun ds m2 ι2 H2 vs _ e2 h2 r2 hp2 => hz F _ ι2 H2 m2 d v ds vs Q h2 (r1.mono e2) r2 hp2
  · exact hp1.elim
def mAppend (x : D) (ds : List D) (m : M) : R D := match x, ds with
  | .ref n, [y] => match m[n]? with
    | some (.lst xs) => if xs.length < line then .ok .non (m.set n (.lst (xs ++ [y]))) else .bad
    | _ => .bad
  | _, _ => .bad
theorem opm_append : OpM X rAppend mAppend := fun F E ι H m x v xs vs Q hm rx rs hp => by
  unfold mAppend at hp
  split at hp
  · rename_i n y
    cases rx with
    | @ref _ a e =>
    cases rs with
    | @cons _ v1 _ _ r1 r2 =>
    cases r2
    split at hp
    · rename_i ys hc
      split at hp
      · rename_i hl
        obtain ⟨us, h1, r3⟩ := lst_at hm e hc
        obtain ⟨c, hc', cr⟩ := hm.lt e
        have ex : Ext ι H ι (upd H a (.lst (us ++ [v1]))) := Ext.write hm e cr.notup.1 cr.notup.2
        exact ⟨a, us, v1, rfl, rfl, h1, by rw [line_eq, ← r3.length]; exact hl, hp ι _ _ ex (hm.write e ex (.lst upd_same ((r3.append (.cons r1 .nil)).mono ex))) .non⟩
      · exact hp.elim
    · exact hp.elim
  · exact hp.elim
end
theorem z_append {X : Cx} {W : WX} {o e : Expr} {fo f : EF} {apos cpos : Pos} (ho : ZE X W o fo) (ha : ZE X W e f) (h1 : attributeBase o "append" X.env (eval o X.env) = eval o X.env := by rfl)
    (h2 : (((((backTo cpos (starEach [e] X.env)).all fun x => !x.fst) && (backToKw cpos (keywordEach [] X.env)).all fun x => x.fst.isSome) && decide (([e].length + ([] : List Keyword).length + if ([] : List Keyword).isEmpty = true then 0 else 1) < 30)) = true) := by rfl)
    (h3 : (apos.endLine == cpos.line) = true := by rfl) (h4 : starEach [e] X.env = (false, eval e X.env) :: starEach [] X.env := by rfl) (h5 : ((backTo cpos (starEach ([] : List Expr) X.env)).any fun x => x.fst) = false := by rfl) :
    ZE X W (.Call (.Attribute o "append" apos) [e] [] cpos) (eMethL mAppend fo (aCons f aNil)) :=
  z_bmL PySem.F.plainAttrs_list PySem.F.slot_list_append PySem.F.type_list_append mt_append opm_append ho (za_cons ha za_nil h4) h1 h2 h3 h4 h5
/-! ### displays of dicts -/
def aPairs : List (EF × EF) → Rho → M → R (List (D × D))
  | [], _, m => .ok [] m
  | (f, h) :: r, ρ, m => (f ρ m).bind fun x m1 => (h ρ m1).bind fun y m2 => (aPairs r ρ m2).bind fun ps m3 => .ok ((x, y) :: ps) m3
def putAll (kvs : List (D × D)) : List (D × D) → List (D × D)
  | [] => kvs
  | (k, v) :: r => putAll (putD kvs k v) r
def eDisp (ps : List (EF × EF)) : EF := fun ρ m => (aPairs ps ρ m).bind fun kvs m1 => if (kvs.all fun p => (keyOf p.1).isSome) && decide (kvs.length ≤ 15) then .ok (.ref m1.length) (m1 ++ [.dic (putAll [] kvs)]) else .bad
def relP (K : PySem.W.Frag) (mg : G) : Relt (List (D × D)) (List (V × V)) := fun ι H => Paired fun p q => Rep K mg ι H p.1 q.1 ∧ Rep K mg ι H p.2 q.2
section
variable {K : PySem.W.Frag} {mg : Str → Option Value} {W : WX}
def trsOf (K : PySem.W.Frag) (mg : Str → Option Value) (W : WX) (ps : List (EF × EF)) : List (TE × TE) := ps.map fun p => (tE K mg W p.1, tE K mg W p.2)
theorem pairs_run : ∀ (ps : List (EF × EF)) {σ : L2.St} {H : Hp} {Q : List (V × V) → Hp → Prop}, (∃ F ι ρ m, EnvR K (mg, F) ι H ρ σ ∧ HR K (mg, F) ι H m ∧ Post K (mg, F) (relP K (mg, F)) (fun c d H' => W c d σ H') ι H Q (aPairs ps ρ m)) → tPairs (trsOf K mg W ps) σ H Q
  | [], σ, H, Q, ⟨F, ι, ρ, m, hρ, hm, hp⟩ => Post.okI hp hm .nil
  | (f, h) :: r, σ, H, Q, ⟨F, ι, ρ, m, hρ, hm, hp⟩ => by
    refine ⟨F, ι, ρ, m, hρ, hm, Post.seq hp fun x m1 ι1 H1 v1 _ e1 h1 r1 hp1 => ⟨F, ι1, ρ, m1, hρ.mono e1, h1, Post.seq hp1 fun y m2 ι2 H2 v2 _ e2 h2 r2 hp2 => ?_⟩⟩
    refine pairs_run r ⟨F, ι2, ρ, m2, (hρ.mono e1).mono e2, h2, Post.seq hp2 fun kvs m3 ι3 H3 vs _ e3 h3 r3 hp3 => ?_⟩
    exact Post.okI hp3 h3 (.cons ⟨(r1.mono e2).mono e3, r2.mono e3⟩ r3)
theorem merge_rep {mg : G} {ι : List Addr} {H : Hp} : ∀ (kvs : List (D × D)) (us : List (V × V)) (acc : List (D × D)) (ws : List (Key × V)), relP K mg ι H kvs us → RepK K mg ι H acc ws → (kvs.all fun p => (keyOf p.1).isSome) = true →
    ∃ ks : List (Key × V), us = ks.map (fun kv => (kV kv.1, kv.2)) ∧ ks.length = kvs.length ∧ RepK K mg ι H (putAll acc kvs) (mergeK ws ks)
  | [], _, acc, ws, .nil, ra, _ => ⟨[], rfl, rfl, ra⟩
  | (k, v) :: kvs, (u, w) :: us, acc, ws, .cons ⟨h1, h2⟩ t, ra, hk => by
    rw [List.all_cons, Bool.and_eq_true] at hk
    obtain ⟨q, hq⟩ := Option.isSome_iff_exists.mp hk.1
    have e := kV_of h1 hq
    obtain ⟨ks, e1, e2, e3⟩ := merge_rep kvs us (putD acc k v) (putK ws q w) t (putD_K ra hq h2) hk.2
    exact ⟨(q, w) :: ks, by rw [e1]; simp only [List.map_cons]; rw [← e], by simp [e2], e3⟩
theorem disp_run {ps : List (EF × EF)} {σ : L2.St} {H : Hp} {Q : VK} (q : tE K mg W (eDisp ps) σ H Q) : tDisp (trsOf K mg W ps) σ H Q := by
  obtain ⟨F, ι, ρ, m, hρ, hm, hp⟩ := q
  intro p hn
  have hi : p ∉ ι := fun h => by
    obtain ⟨o, q⟩ := hm.mem h
    rw [hn] at q; cases q
  refine pairs_run ps ⟨p :: F, ι, ρ, m, ((hρ.grow (growD (mg := (mg, F)) hn)).mono (Ext.side hn)), HR.hide (mg := (mg, F)) hm hn, ?_⟩
  unfold eDisp at hp
  cases q : aPairs ps ρ m with
  | bad => rw [q] at hp; exact hp
  | err x m1 =>
    rw [q] at hp
    intro ι' H' cls dd e1 h1 hx
    refine hp ι' H' cls dd ((Ext.side hn).trans e1) (HR.less (mg := (mg, F)) h1) ?_
    obtain ⟨C, g1, g2, g3⟩ := hx
    refine ⟨C, g1, g2, ?_⟩
    rcases g3 with g3 | ⟨d, ws, z1, z2, z3⟩
    · exact .inl g3
    · exact .inr ⟨d, ws, z1, z2, paired_mono (fun _ _ ⟨a, b⟩ => ⟨a, Rep.grow (mg := (mg, p :: F)) (F' := F) (fun a ha => .inl (List.mem_cons_of_mem p ha)) b⟩) z3⟩
  | ok kvs m1 =>
    rw [q] at hp
    intro ι' H' us e1 h1 hr
    have hp : Post K (mg, F) (relE K (mg, F)) (fun c d H' => W c d σ H') ι H Q (if ((kvs.all fun p => (keyOf p.1).isSome) && decide (kvs.length ≤ 15)) = true then .ok (.ref m1.length) (m1 ++ [.dic (putAll [] kvs)]) else .bad) := hp
    split at hp
    · rename_i hc
      rw [Bool.and_eq_true] at hc
      have d0 : p ∉ ι' := e1.out hi upd_same
      have hd : H' p = some (.dK []) := e1.fr _ _ hi upd_same
      obtain ⟨ks, z1, z2, z3⟩ := merge_rep kvs us [] [] hr .nil hc.1
      refine ⟨hd, ks, z1, by rw [z2]; exact of_decide_eq_true hc.2, ?_⟩
      have hM : p ∈ ((mg, p :: F) : G).2 := List.mem_cons_self
      have hL : (∃ xs, HO.dK ([] : List (Key × V)) = .lst xs) ∨ (∃ xs, HO.dK ([] : List (Key × V)) = .dK xs) ∨ ∃ xs, HO.dK ([] : List (Key × V)) = .dT xs := .inr (.inl ⟨[], rfl⟩)
      have h2 := h1.aside (o' := .dK (mergeK [] ks)) hM d0 hd hL
      have z4 : RepK K (mg, p :: F) ι' (upd H' p (.dK (mergeK [] ks))) (putAll [] kvs) (mergeK [] ks) := paired_mono (fun _ _ ⟨a, b⟩ => ⟨a, b.aside hM d0 hd hL⟩) z3
      refine hp (ι' ++ [p]) _ _ ((((Ext.refl).hide hn).trans e1 |> fun e => ?_) : Ext ι H (ι' ++ [p]) (upd H' p (.dK (mergeK [] ks)))) (HR.track h2 d0 upd_same (fun p q => by cases q) (.dK upd_same (paired_mono (fun _ _ ⟨a, b⟩ => ⟨a, b.track upd_same fun p q => by cases q⟩) z4))) (.ref ?_)
      · exact (e.hide hn).newCell hn
      · rw [← h1.len]; simp
    · exact hp.elim
end
abbrev ZPs (X : Cx) (W : WX) (pos : Pos) (keys : List (Option Expr)) (values : List Expr) (ps : List (EF × EF)) : Prop := PPs X pos keys values (trsOf X.K X.mg W ps)
section
variable {X : Cx} {W : WX} {pos : Pos}
theorem zps_nil : ZPs X W pos [] [] [] := pps_nil
theorem zps_cons {k v : Expr} {ks : List (Option Expr)} {vs : List Expr} {f h : EF} {ps : List (EF × EF)} (hk : ZE X W k f) (hv : ZE X W v h) (hr : ZPs X W pos ks vs ps) : ZPs X W pos (some k :: ks) (v :: vs) ((f, h) :: ps) := pps_cons hk hv hr
theorem z_disp {keys : List (Option Expr)} {values : List Expr} {ps : List (EF × EF)} (h : ZPs X W pos keys values ps) (hall : (keys.all fun x => x.isSome) = true := by rfl) (hl : keys.length = values.length := by rfl) (h0 : keys ≠ [] := by simp) (h15 : keys.length ≤ 15 := by decide) : ZE X W (.Dict keys values pos) (eDisp ps) :=
  PE.imp (pe_disp h hall hl h0 h15) fun σ H Q q => disp_run q
end
end Z

namespace Z
open PySem PySem.Spec PyProof.Rows L2

/-! ### exceptions as values: made by a class with its own __init__ -/
def tNew (C : Addr) (sp : Sp) (ta : TA) : TE := fun σ H Q => ta σ H fun vs H1 => vs.length ≤ 1000 ∧ ∀ a, H1 a = none → sp (.ref a :: vs) (upd H1 a (exo a C none)) (fun v H2 => v = .non ∧ Q (.ref a) H2) E0
theorem pe_new {X : Cx} {e : Expr} {es : List Expr} {ta : TA} {p pos : Pos} {x : Str} {C fI : Addr} {k : Nat} {fd : FuncData} {ps : List Str} {sp : Sp}
    (T : OexC X.K C) (iC : PySem.W.findIn X.K (.ref C) "__init__" = some (some (.ref fI))) (tI : PySem.W.typeIn X.K (.ref fI) = some (.type "function"))
    (F1 : FnOk X.prog X.w X.K X.mg X.base CX0 k fI fd ps sp) (hr : Room (k + 1) X.A) (hb : Binds X.K fd ps []) (hg : Gl X x) (hm : X.mg x = some (.ref C)) (ha : PA X (e :: es) ta)
    (hdb : (x == ("__debug__" : Str)) = false := by decide) (he : starEach (e :: es) X.env = (false, eval e X.env) :: starEach es X.env := by rfl) (hpl : (backTo pos (starEach es X.env)).any (·.1) = false := by rfl) :
    PE X (.Call (.Name x p) (e :: es) [] pos) (tNew C sp ta) := by
  refine ⟨fun pins s σ H Q I h => ?_⟩
  obtain ⟨nm, q, N, bs, bm, sn, sub, ab, col, dd, k0, k1, k2, k3, k5, hC, hbm⟩ := T.cls
  refine wpAny_Call_Name_kw (ld_glob I hg hm ?_ hdb)
  refine PySem.W.callWith_K I.ok.mod.kin T.kC (thn (ha.run pos pins s σ H _ I h) fun us s1 ⟨vs, H1, I1, r1, hz, q1⟩ => ⟨I1.kIn, ?_⟩) he hpl
  obtain ⟨hp, g, dr, tk, os⟩ := s1
  have hsz := Nat.le_succ hp.objs.size
  have hn := HOk.fresh I1.hok hsz
  have hq := q1 _ hn
  have kk : ∀ (b : Addr) (o : Obj), hp.get? b = some o → ((hp.push (PySem.W.kdv_tup us)).push (HandSPX.excO C hp.objs.size)).get? b = some o := fun b o e => Heap.get?_push_of_some _ (Heap.get?_push_of_some _ e)
  have hget : ((hp.push (PySem.W.kdv_tup us)).push (HandSPX.excO C hp.objs.size)).get? (hp.objs.size + 1) = some (HandSPX.excO C hp.objs.size) := Heap.get?_push_at (by rw [Heap.size_push]) rfl
  have I2 := Inv.laid (t' := tk) I1 kk hsz (exo_ok hget)
  have r2 : Vals (.ref (hp.objs.size + 1) :: vs) (.ref (hp.objs.size + 1) :: us) := .cons rfl r1
  have hl : (Value.ref (hp.objs.size + 1) :: us ++ []).length = ps.length := by
    have := F1.len _ _ _ _ hq
    rw [← this, r2.length, List.append_nil]
  have hb' := hb ⟨(hp.push (PySem.W.kdv_tup us)).push (HandSPX.excO C hp.objs.size), g, dr, tk, os⟩ (Value.ref (hp.objs.size + 1) :: us) I2.kIn hl
  rw [List.append_nil] at hb'
  have hus : us.length ≤ sizeLine := by
    rw [← r1.length, sizeLine_eq]
    omega
  refine wpAny_call (HandSPX.call_own PySem.F.excBase_ValueError (fun Y => HandSPX.refsVE_contains Y bm hbm) (I1.kIn C _ hC) (PySem.W.looks_findIn I1.kIn iC) (fun self => PySem.W.bind_fn I1.kIn self tI) hus (codeAny_mono
    (F1.run (X.A.under (.builtin "type.__call__" ⟨Value.ref C :: us, []⟩)) X.stack ⟨(hp.push (PySem.W.kdv_tup us)).push (HandSPX.excO C hp.objs.size), g, dr, tk, os⟩ _ _ _ _ _ _ (Room.make hr C us []) (Env0.make I2.env0 C us []) hb' r2 hq) fun r s' hq' => ?_))
  cases r with
  | error er => exact pass0 pins σ _ _ er s' I2 hq'
  | ok fl =>
    cases fl with
    | next => exact hq'.elim
    | brk => exact hq'.elim
    | cont => exact hq'.elim
    | ret u =>
      obtain ⟨v, H2, J, rv, rfl, q2⟩ := I2.after hq'
      exact ⟨rv, .ref (hp.objs.size + 1), H2, J, rfl, q2⟩
/-- a class without its own __init__, called with nothing -/
theorem pe_new0 {X : Cx} {C : Addr} {bmB : List Value} {B newId initId : String} {x : Str} {p pos : Pos} (F : ExcBaseFacts B newId initId bmB) (q : PySem.W.excIn X.K C bmB newId = true) (gC : X.mg x = some (.ref C)) (kC : PySem.W.keepIn X.K (.ref C) = true) (hg : Gl X x)
    (hdb : (x == ("__debug__" : Str)) = false := by decide) : PE X (.Call (.Name x p) [] [] pos) (fun σ H Q => ∀ a, H a = none → Q (.ref a) (upd H a (exo a C none))) := by
  refine ⟨fun pins s σ H Q I h => ?_⟩
  refine wpAny_Call_Name_kw (ld_glob I hg gC (PySem.W.callWith_K0 I.kIn kC ?_) hdb)
  obtain ⟨bm, N, nm, qn, bs, hdct, sn, sub, ab, col, dd, k0, k1, k2, k3, k5, mN, hC, hN, hni, T⟩ := exc_obj I.kIn q
  refine wpAny_call_exc_subT F T hC hN hni (fun h' a hm => ?_) (by rw [sizeLine_eq]; decide)
  have hn := HOk.gone I.hok hm.new
  obtain ⟨t, ht, _, _⟩ := hm.there
  exact ⟨.ref a, upd H a (exo a C none), Inv.laidN I hm.keeps hm.new hn (exo_ok ht), rfl, h a hn⟩

/-! ### the __init__ of one, of two fields -/
def spI1 (K : PySem.W.Frag) (C : Addr) (f : Str) : Sp := fun vs H Q _ => ∃ a x, vs = [.ref a, x] ∧ H a = some (exo a C none) ∧ ∀ dx, H dx = none → dx ≠ a → Q .non (upd (upd H dx (exd dx [(f, x)])) a (exo a C (some dx)))
def spI2 (K : PySem.W.Frag) (C : Addr) (f g : Str) : Sp := fun vs H Q _ => ∃ a x y, vs = [.ref a, x, y] ∧ H a = some (exo a C none) ∧ ∀ dx, H dx = none → dx ≠ a → Q .non (upd (upd (upd H dx (exd dx [(f, x)])) a (exo a C (some dx))) dx (exd dx [(g, y), (f, x)]))
section
variable {P : Program} {w : World} {K : PySem.W.Frag} {mg : Str → Option Value} {base : Heap} {f C : Addr} {fd : FuncData} {qual : Str} {st : Stmt} {p1 p2 p3 p4 q1 q2 q3 q4 : Pos} {a b : Str}
theorem init1 (F : Fun K "__init__" qual st f fd) (S : FnScope ["self", a] ["self", a] (defScope st)) (T : OexC K C) (n : PySem.W.findIn K (.ref C) a = some none)
    (hv0 : (defScope st).names.lookup ("self" : Str) = some .local := by rfl) (hv1 : (defScope st).names.lookup a = some .local := by rfl) (hd : (a == ("__debug__" : Str)) = false := by decide) (hcd : (a == ("__classdict__" : Str)) = false := by decide)
    (hb : defBody st = [.Assign [.Attribute (.Name "self" p1) a p2] (.Name a p3) p4] := by rfl) : FnOk P w K mg base CX0 1 f fd ["self", a] (spI1 K C a) := by
  refine F.ok S (fun vs H Q E h => ?_) (fun cdv A outer s H vs Q E hr h => ?_)
  · obtain ⟨x, y, rfl, _⟩ := h
    rfl
  · obtain ⟨x, y, rfl, h1, k⟩ := h
    rw [hb]
    refine ⟨_, pss_one (ps_ost (pe_var (i := 0) rfl (.inl hv0)) (pe_var (i := 1) rfl (.inl hv1) hd hcd)), ?_⟩
    exact ⟨y, rfl, .ref x, rfl, x, C, rfl, T, n, .inl ⟨h1, fun dx hn hx => k dx hn hx⟩⟩
theorem init2 (F : Fun K "__init__" qual st f fd) (S : FnScope ["self", a, b] ["self", a, b] (defScope st)) (T : OexC K C) (n : PySem.W.findIn K (.ref C) a = some none) (n2 : PySem.W.findIn K (.ref C) b = some none)
    (hv0 : (defScope st).names.lookup ("self" : Str) = some .local := by rfl) (hv1 : (defScope st).names.lookup a = some .local := by rfl) (hv2 : (defScope st).names.lookup b = some .local := by rfl) (hd : (a == ("__debug__" : Str)) = false := by decide) (hcd : (a == ("__classdict__" : Str)) = false := by decide) (hd2 : (b == ("__debug__" : Str)) = false := by decide) (hcd2 : (b == ("__classdict__" : Str)) = false := by decide)
    (hb : defBody st = [.Assign [.Attribute (.Name "self" p1) a p2] (.Name a p3) p4, .Assign [.Attribute (.Name "self" q1) b q2] (.Name b q3) q4] := by rfl) : FnOk P w K mg base CX0 1 f fd ["self", a, b] (spI2 K C a b) := by
  refine F.ok S (fun vs H Q E h => ?_) (fun cdv A outer s H vs Q E hr h => ?_)
  · obtain ⟨x, y, z, rfl, _⟩ := h
    rfl
  · obtain ⟨x, y, z, rfl, h1, k⟩ := h
    rw [hb]
    refine ⟨_, pss_cons (ps_ost (pe_var (i := 0) rfl (.inl hv0)) (pe_var (i := 1) rfl (.inl hv1) hd hcd)) (pss_one (ps_ost (pe_var (i := 0) rfl (.inl hv0)) (pe_var (i := 2) rfl (.inl hv2) hd2 hcd2))), ?_⟩
    refine ⟨y, rfl, .ref x, rfl, x, C, rfl, T, n, .inl ⟨h1, fun dx hn hx => ?_⟩⟩
    refine ⟨z, rfl, .ref x, rfl, x, C, rfl, T, n2, .inr ⟨dx, [(a, y)], upd_same, by rw [upd_ne hx, upd_same], by simp, k dx hn hx⟩⟩
end

/-! ### the Z rules -/
def eNew1 (C f : Str) (a : AF) : EF := fun ρ m => (a ρ m).bind fun ds m1 => match ds with
  | [x] => .ok (.exc C [f] [x]) m1
  | _ => .bad
def eNew2 (C f g : Str) (a : AF) : EF := fun ρ m => (a ρ m).bind fun ds m1 => match ds with
  | [x, y] => .ok (.exc C [g, f] [y, x]) m1
  | _ => .bad
def eNew0 (C : Str) : EF := fun _ m => .ok (.exc C [] []) m
section
variable {X : Cx} {W : WX} {pos p : Pos} {x : Str} {C fI : Addr} {k : Nat} {fd : FuncData} {e e2 : Expr} {fe fe2 : EF} {f g : Str}
theorem notMem {K : PySem.W.Frag} {mg : G} {ι : List Addr} {H : Hp} {m : M} (hm : HR K mg ι H m) {a : Addr} (h : H a = none) : a ∉ ι := fun q => by
  obtain ⟨o, z⟩ := hm.mem q
  rw [h] at z; cases z
theorem z_new1 (T : OexC X.K C) (iC : PySem.W.findIn X.K (.ref C) "__init__" = some (some (.ref fI))) (tI : PySem.W.typeIn X.K (.ref fI) = some (.type "function"))
    (F1 : FnOk X.prog X.w X.K X.mg X.base CX0 k fI fd ["self", f] (spI1 X.K C f)) (hb : Binds X.K fd ["self", f] []) (hr : Room (k + 1) X.A) (hg : Gl X x) (hm : X.mg x = some (.ref C)) (ha : ZE X W e fe)
    (hdb : (x == ("__debug__" : Str)) = false := by decide) (he : starEach [e] X.env = (false, eval e X.env) :: starEach [] X.env := by rfl) (hpl : (backTo pos (starEach ([] : List Expr) X.env)).any (·.1) = false := by rfl) :
    ZE X W (.Call (.Name x p) [e] [] pos) (eNew1 x f (aCons fe aNil)) := by
  refine PE.imp (pe_new T iC tI F1 hr hb hg hm (za_cons ha za_nil he) hdb he hpl) fun σ H Q ⟨F, ι, ρ, m, hρ, hm', hp⟩ => ⟨F, ι, ρ, m, hρ, hm', ?_⟩
  refine Post.seq hp fun ds m1 ι1 H1 vs _ e1 h1 r1 hp1 => ?_
  split at hp1
  · rename_i y
    cases r1 with
    | @cons _ v _ _ r1 r2 =>
    cases r2
    refine ⟨by simp, fun a hn => ⟨a, v, rfl, upd_same, fun dx hd hne => ⟨rfl, ?_⟩⟩⟩
    have hd1 : H1 dx = none := by rw [upd_ne hne] at hd; exact hd
    have ex : Ext ι1 H1 ι1 (upd (upd (upd H1 a (exo a C none)) dx (exd dx [(f, v)])) a (exo a C (some dx))) := (((Ext.side hn).hide hd1).hide hn)
    have hh : HR X.K (X.mg, F) ι1 (upd (upd (upd H1 a (exo a C none)) dx (exd dx [(f, v)])) a (exo a C (some dx))) m1 := by
      have hi := notMem h1 hn
      have hi2 := notMem h1 hd1
      refine ⟨h1.len, h1.nd, fun b hb => ex.dom b (h1.fd b hb), fun n b c z1 z2 => (h1.at' n b c z1 z2).mono ex fun o z => ?_⟩
      rw [upd_ne (ne_of_none z hn), upd_ne (ne_of_none z hd1), upd_ne (ne_of_none z hn)]
      exact z
    exact hp1 ι1 _ _ ex hh (.exc (dx := dx) hm (notMem h1 hn) (notMem h1 hd1) upd_same (by rw [upd_ne hne, upd_same]; rfl) (.cons (r1.mono ex) .nil))
  · exact hp1.elim
theorem z_new2 (T : OexC X.K C) (iC : PySem.W.findIn X.K (.ref C) "__init__" = some (some (.ref fI))) (tI : PySem.W.typeIn X.K (.ref fI) = some (.type "function"))
    (F1 : FnOk X.prog X.w X.K X.mg X.base CX0 k fI fd ["self", f, g] (spI2 X.K C f g)) (hb : Binds X.K fd ["self", f, g] []) (hr : Room (k + 1) X.A) (hg : Gl X x) (hm : X.mg x = some (.ref C)) (ha : ZE X W e fe) (ha2 : ZE X W e2 fe2)
    (hdb : (x == ("__debug__" : Str)) = false := by decide) (he : starEach [e, e2] X.env = (false, eval e X.env) :: starEach [e2] X.env := by rfl) (he2 : starEach [e2] X.env = (false, eval e2 X.env) :: starEach [] X.env := by rfl) (hpl : (backTo pos (starEach [e2] X.env)).any (·.1) = false := by rfl) :
    ZE X W (.Call (.Name x p) [e, e2] [] pos) (eNew2 x f g (aCons fe (aCons fe2 aNil))) := by
  refine PE.imp (pe_new T iC tI F1 hr hb hg hm (za_cons ha (za_cons ha2 za_nil he2) he) hdb he hpl) fun σ H Q ⟨F, ι, ρ, m, hρ, hm', hp⟩ => ⟨F, ι, ρ, m, hρ, hm', ?_⟩
  refine Post.seq hp fun ds m1 ι1 H1 vs _ e1 h1 r1 hp1 => ?_
  split at hp1
  · rename_i y1 y2
    cases r1 with
    | @cons _ v _ _ r1 r2 =>
    cases r2 with
    | @cons _ u _ _ r2 r3 =>
    cases r3
    refine ⟨by simp, fun a hn => ⟨a, v, u, rfl, upd_same, fun dx hd hne => ⟨rfl, ?_⟩⟩⟩
    have hd1 : H1 dx = none := by rw [upd_ne hne] at hd; exact hd
    have ex : Ext ι1 H1 ι1 (upd (upd (upd (upd H1 a (exo a C none)) dx (exd dx [(f, v)])) a (exo a C (some dx))) dx (exd dx [(g, u), (f, v)])) := ((((Ext.side hn).hide hd1).hide hn).hide hd1)
    have hh : HR X.K (X.mg, F) ι1 (upd (upd (upd (upd H1 a (exo a C none)) dx (exd dx [(f, v)])) a (exo a C (some dx))) dx (exd dx [(g, u), (f, v)])) m1 := by
      refine ⟨h1.len, h1.nd, fun b hb => ex.dom b (h1.fd b hb), fun n b c z1 z2 => (h1.at' n b c z1 z2).mono ex fun o z => ?_⟩
      rw [upd_ne (ne_of_none z hd1), upd_ne (ne_of_none z hn), upd_ne (ne_of_none z hd1), upd_ne (ne_of_none z hn)]
      exact z
    exact hp1 ι1 _ _ ex hh (.exc (dx := dx) hm (notMem h1 hn) (notMem h1 hd1) (by rw [upd_ne hne.symm, upd_same]) upd_same (.cons (r2.mono ex) (.cons (r1.mono ex) .nil)))
  · exact hp1.elim
theorem z_new0 {bmB : List Value} {B newId initId : String} (T : ExcBaseFacts B newId initId bmB) (q : PySem.W.excIn X.K C bmB newId = true) (hm : X.mg x = some (.ref C)) (kC : PySem.W.keepIn X.K (.ref C) = true) (hg : Gl X x)
    (hdb : (x == ("__debug__" : Str)) = false := by decide) : ZE X W (.Call (.Name x p) [] [] pos) (eNew0 x) :=
  PE.imp (pe_new0 T q hm kC hg hdb) fun σ H Q ⟨F, ι, ρ, m, hρ, hm', hp⟩ a hn => hp ι _ _ (Ext.side hn) (hm'.side hn) (.ex0 hm (notMem hm' hn) upd_same)

/-! ### isinstance -/
structure XCls (K : PySem.W.Frag) (C : Addr) : Prop where
  ex : ExcC K C
  cl : (PySem.W.clsIn K C).isSome = true
def rIsx (K : PySem.W.Frag) : List V → Hp → VK → Prop := fun xs H Q => ∃ a CA c cv b, xs = [.ref a, c] ∧ ((∃ dx fs, H a = some (exo a CA (some dx)) ∧ H dx = some (exd dx fs)) ∨ H a = some (exo a CA none)) ∧ XCls K CA ∧ ClsV c cv ∧ PySem.W.kitOne K (.ref CA) cv = some b ∧ Q (.bl b) H
theorem inst_of {P : Program} {w : World} {H : Hp} {h : Heap} {a CA : Addr} (ok : HOk P w H h) (hh : (∃ dx fs, H a = some (exo a CA (some dx)) ∧ H dx = some (exd dx fs)) ∨ H a = some (exo a CA none)) : ∃ ox od, PySem.W.InstAt h a ox CA od := by
  rcases hh with ⟨dx, fs, h1, h2⟩ | h1
  · obtain ⟨⟨t1, g1⟩, _⟩ := ok _ _ h1
    obtain ⟨⟨mA, g2, _⟩, _⟩ := ok _ _ h2
    obtain ⟨od, g3, _⟩ := lookIn_ns g2
    exact ⟨_, some od, g1, rfl, rfl, g3⟩
  · obtain ⟨⟨t1, g1⟩, _⟩ := ok _ _ h1
    exact ⟨_, none, g1, rfl, rfl, trivial⟩
theorem call_isx : CallR X (.builtin "isinstance") (rIsx X.K) := fun pins s σ H xs us Q I r ⟨a, CA, c, cv, b, e, hh, T, hc, hk, q⟩ => by
  subst e
  cases r with
  | @cons _ u1 _ _ ra r =>
  cases r with
  | @cons _ u2 _ _ rc r =>
  cases r
  cases ra
  have e2 : u2 = cv := by cases hc <;> exact rc
  subst e2
  obtain ⟨ox, od, J⟩ := inst_of I.hok hh
  exact PySem.W.kia_one (PySem.W.kitx_exc T.cl T.ex.hg T.ex.hk T.ex.hs T.ex.ha T.ex.hn T.ex.ht T.ex.hm) I.kIn J hk (fun z => nomatch z) fun tk => ⟨.bl b, H, I.kept fun _ _ z => z, rfl, q⟩
/-- what isinstance answers of own exceptions: a table -/
abbrev KTab := Str → D → Option Bool
def KOk (K : PySem.W.Frag) (mg : Str → Option Value) (tb : KTab) : Prop := ∀ C c b, tb C c = some b → ∀ CA, mg C = some (.ref CA) → XCls K CA ∧ ((∃ n, c = .ty n ∧ PySem.W.kitOne K (.ref CA) (.type n) = some b) ∨ ∃ C2, c = .glo C2 ∧ ∀ A2, mg C2 = some (.ref A2) → PySem.W.kitOne K (.ref CA) (.ref A2) = some b)
def bIsx (tb : KTab) (ds : List D) (m : M) : R D := match ds with
  | [.exc C ns es, c] => match tb C c with
    | some b => .ok (.bl b) m
    | none => .bad
  | _ => .bad
theorem opl_isx {tb : KTab} (hk : KOk X.K X.mg tb) : OpL X (rIsx X.K) (bIsx tb) := fun F E ι H m xs vs Q hm r hp => by
  unfold bIsx at hp
  split at hp
  · rename_i C ns es c
    split at hp
    · rename_i b hb
      cases r with
      | @cons _ v1 _ _ r1 r2 =>
      cases r2 with
      | @cons _ v2 _ _ r2 r3 =>
      cases r3
      have fin : ∀ CA a, X.mg C = some (.ref CA) → v1 = .ref a → ((∃ dx fs, H a = some (exo a CA (some dx)) ∧ H dx = some (exd dx fs)) ∨ H a = some (exo a CA none)) → rIsx X.K [v1, v2] H Q := by
        rintro CA a hC rfl hh
        obtain ⟨T, h⟩ := hk C c b hb CA hC
        rcases h with ⟨n, rfl, hn⟩ | ⟨C2, rfl, hn⟩
        · cases r2
          exact ⟨a, CA, _, _, b, rfl, hh, T, .ty n, hn, hp.okI hm (.bl b)⟩
        · cases r2 with
          | @glo _ A2 h2 => exact ⟨a, CA, _, _, b, rfl, hh, T, .own A2, hn A2 h2, hp.okI hm (.bl b)⟩
      cases r1 with
      | exc hC na nd ha hd _ => exact fin _ _ hC rfl (.inl ⟨_, _, ha, hd⟩)
      | ex0 hC na ha => exact fin _ _ hC rfl (.inr ha)
    · exact hp.elim
  · exact hp.elim
/-! ### fields -/
def lookD : List Str → List D → Str → Option D
  | n :: ns, d :: ds, x => if x = n then some d else lookD ns ds x
  | _, _, _ => none
theorem lookD_rep {K : PySem.W.Frag} {mg : G} {ι : List Addr} {H : Hp} {x : Str} {d : D} : ∀ {ns : List Str} {ds : List D} {vs : List V}, RepL K mg ι H ds vs → lookD ns ds x = some d → ∃ v, (ns.zip vs).lookup x = some v ∧ Rep K mg ι H d v
  | [], _, _, _, h => by simp [lookD] at h
  | n :: ns, _, _, .nil, h => by simp [lookD] at h
  | n :: ns, _, _, .cons (v := v) r rs, h => by
    unfold lookD at h
    split at h
    · rename_i e
      cases h
      refine ⟨v, ?_, r⟩
      rw [List.zip_cons_cons, List.lookup_cons, e]
      simp
    · rename_i e
      obtain ⟨w, h1, h2⟩ := lookD_rep rs h
      refine ⟨w, ?_, h2⟩
      rw [List.zip_cons_cons, List.lookup_cons]
      have : (x == n) = false := by simpa using e
      rw [this]
      exact h1
def eFldX (cs : List Str) (n : Str) (f : EF) : EF := fun ρ m => (f ρ m).bind fun d m1 => match d with
  | .exc C ns ds => if cs.contains C = true then (match lookD ns ds n with
    | some v => .ok v m1
    | none => .bad) else .bad
  | _ => .bad
theorem pe_fx {te : TE} {n : Str} (he : PE X e te) (hb : attributeBase e n X.env (eval e X.env) = eval e X.env := by rfl) : PE X (.Attribute e n pos) (fun σ H Q => te σ H fun x H1 => ∃ a CA dx fs v, x = .ref a ∧ XfC X.K CA ∧ PySem.W.findIn X.K (.ref CA) n = some none ∧ H1 a = some (exo a CA (some dx)) ∧ H1 dx = some (exd dx fs) ∧ fs.lookup n = some v ∧ Q v H1) :=
  ⟨fun pins s σ H Q I h => attr_of hb (thn (he.run pins s σ H _ I h) fun u s1 ⟨x, H1, I1, rx, a, CA, dx, fs, v, ex, T, hno, ha, hd, hl, q⟩ => by
    subst ex
    cases rx
    obtain ⟨⟨t1, g1⟩, _⟩ := I1.hok _ _ ha
    obtain ⟨⟨mA, g2, hr⟩, _⟩ := I1.hok _ _ hd
    obtain ⟨od, g3, hlk⟩ := lookIn_ns g2
    have hn := hr n
    rw [hl] at hn
    obtain ⟨u, hu, ru⟩ := RelO.some_of hn
    have J : PySem.W.InstAt s1.heap a _ CA (some od) := ⟨g1, rfl, rfl, g3⟩
    exact HandSPX.exc_get I1.kIn J T.ga T.gg T.exC (PySem.W.findObj_own T.hdC hno rfl (by rw [hlk n, hu])) (handed_of ru) ⟨v, H1, I1.tok _, ru, q⟩)⟩
theorem z_fx {cs : List Str} {n : Str} (he : ZE X W e fe) (hc : ∀ C ∈ cs, ∀ CA, X.mg C = some (.ref CA) → XfC X.K CA ∧ PySem.W.findIn X.K (.ref CA) n = some none) (hb : attributeBase e n X.env (eval e X.env) = eval e X.env := by rfl) : ZE X W (.Attribute e n pos) (eFldX cs n fe) := by
  refine PE.imp (pe_fx he hb) fun σ H Q ⟨F, ι, ρ, m, hρ, hm', hp⟩ => ⟨F, ι, ρ, m, hρ, hm', ?_⟩
  refine Post.seq hp fun d m1 ι1 H1 v _ e1 h1 r1 hp1 => ?_
  split at hp1
  · split at hp1
    · rename_i hcs
      split at hp1
      · rename_i y hy
        cases r1 with
        | @exc _ _ _ _ a CA dx hC na nd ha hd r =>
          obtain ⟨z1, z2⟩ := hc _ (by simpa using hcs) CA hC
          obtain ⟨w, hw, rw⟩ := lookD_rep r hy
          exact ⟨a, CA, dx, _, w, rfl, z1, z2, ha, hd, hw, hp1.okI h1 rw⟩
        | ex0 hC na ha => cases hy
      · exact hp1.elim
    · exact hp1.elim
  · exact hp1.elim
end
end Z

namespace Z
open PySem PySem.Spec PyProof.Rows L2

/-! ### the end: the law is called with its script -/
theorem cx_false {P : Program} {w : World} {outer : List Env} {H : Hp} {s s' : Shared} {e : Value} (h : L2.CX P w outer H s (fun _ _ _ => False) e s') : False := by
  obtain ⟨_, _, _, h⟩ := h
  simp_all
theorem ints_rep {K : PySem.W.Frag} {mg : G} {ι : List Addr} {H : Hp} : ∀ l : List Int, RepL K mg ι H (l.map D.int) (l.map V.int)
  | [] => .nil
  | y :: l => .cons (.int y) (ints_rep l)
theorem law_callZ {P : Program} {w : World} {K : PySem.W.Frag} {mg mb : Str → Option Value} {k : Nat} {fa a : Addr} {fd : FuncData} {x : Str} {g : FF} {s₁ : Shared} {vs : List Value} {ns : List Int}
    (KX : K.In s₁.heap) (hns : s₁.heap.Ns mainGlobals mg) (hb : s₁.heap.Ns builtinsNs mb) (hbb : ∀ (x : Str), x ≠ "__name__" → mb x = bootBuiltins x) (hlim : s₁.heap.NoLimit) (hg : s₁.gens = #[])
    (ha : s₁.heap.get? a = some { cls := .type "list", data := .seq vs.toArray }) (hi : IntsAre vs ns) (hl : ns.length ≤ sizeLine) (hr : Room k callerA)
    (F : ∀ base : Heap, K.In base → base.Ns mainGlobals mg → ZF P w K mg base k fa fd [x] g) (hbind : ∀ (s : Shared) (u : Value), BindsTo s fd ⟨[u], []⟩ [(x, u)])
    (hsp : ∃ m, g [.fl (ns.map .int)] [] = .ok (.bl true) m) :
    codeAny (model P w) callerA (.call (.ref fa) ⟨[.ref a], []⟩) (fun r s' => r = .ok (.ret (.bool true)) ∧ OldK s₁.heap s'.heap ∧ s'.os = s₁.os ∧ AllBare s'.gens) s₁ := by
  have rv : Vals (ns.map V.int) vs := vals_ints hi
  have lenV := IntsAre.length hi
  have core : ∀ H : Hp, Only H → SqF K H a (ns.map V.int) → HOk P w H s₁.heap → (∀ b, H b ≠ none → b = a) → (H a ≠ none → K.lookup a = none) →
      codeAny (model P w) callerA (.call (.ref fa) ⟨[.ref a], []⟩) (fun r s' => r = .ok (.ret (.bool true)) ∧ OldK s₁.heap s'.heap ∧ s'.os = s₁.os ∧ AllBare s'.gens) s₁ := by
    intro H hO hS hok hA hK
    have base_of : ∀ {b : Addr} {o : Obj}, s₁.heap.get? b = some o → H b = none → (hidT s₁.heap H).get? b = some o := fun e n => hidT_get e n
    have noA : ∀ {b : Addr} {o : Obj} {es ep}, s₁.heap.get? b = some o → o.data = .dict es ep → H b = none := by
      intro b o es ep e d
      cases q : H b with
      | none => rfl
      | some u =>
        have e' := hA b (by rw [q]; simp)
        subst e'
        rw [ha] at e
        cases e
        cases d
    have nsK : ∀ {b m}, s₁.heap.Ns b m → (hidT s₁.heap H).Ns b m := fun ⟨o, es, ep, e, d, r⟩ => ⟨o, es, ep, base_of e (noA e d), d, r⟩
    have hKb : K.In (hidT s₁.heap H) := fun b o e => base_of (KX b o e) (by
      cases q : H b with
      | none => rfl
      | some u =>
        have e' := hA b (by rw [q]; simp)
        subst e'
        have := hK (by rw [q]; simp)
        rw [this] at e
        cases e)
    obtain ⟨mc, hc1, hc2⟩ := hlim
    have e0 : Env0 P w K mg (hidT s₁.heap H) callerA [] s₁ H :=
      { frames := rfl
        mod := { kin := hKb, glob := nsK hns, blt := ⟨mb, nsK hb, hbb⟩, nolimit := ⟨mc, nsK hc1, hc2⟩ }
        bs := fun b o e => of_hidT e
        bsz := Nat.le_of_eq (hidT_size s₁.heap H)
        funs := trivial
        frf := fun b hb => by simp [frs] at hb
        hok := hok
        bare := AllBare.of_eq hg }
    have start : spZ K mg 1 g [.ref a] H (fun v _ => v = .bl true) (fun _ _ _ => False) := by
      refine ⟨rfl, [], [], [.fl (ns.map .int)], [], .cons (.fl hS ?_) .nil, ⟨rfl, List.nodup_nil, by simp, by simp⟩, ?_⟩
      · exact ints_rep ns
      · obtain ⟨m, hm⟩ := hsp
        rw [hm]
        intro ι' H' b e h r
        cases r
        rfl
    refine codeAny_mono ((F (hidT s₁.heap H) hKb (nsK hns)).run callerA [] s₁ H ⟨[.ref a], []⟩ [.ref a] [.ref a] _ _ hr rfl e0 (hbind s₁ (.ref a)) (.cons rfl .nil) start) fun r s' h => ?_
    cases r with
    | error e => exact (cx_false h).elim
    | ok fl =>
      cases fl with
      | next => exact h.elim
      | brk => exact h.elim
      | cont => exact h.elim
      | ret u =>
        obtain ⟨v, H', os, bare, un, hok', r', q⟩ := h
        have q' : v = .bl true := q
        subst q'
        cases r'
        refine ⟨rfl, OldK.of_keep fun b o e => ?_, os, bare⟩
        cases q : H b with
        | none => exact un.keep b o e q (by simp [frs]) (by simp)
        | some u =>
          rcases hO b with z | ⟨ob, xs, z⟩
          · rw [q] at z; cases z
          · have z2 := un.frzs b ob (.lst xs) z
            have e1 := (hok b _ z).1
            have e2 := (hok' b _ z2).1
            rw [e] at e1
            cases e1
            exact e2
  cases hk : K.lookup a with
  | none =>
    refine core (fun b => if b = a then some (.frz { cls := .type "list", data := .seq vs.toArray } (.lst (ns.map V.int))) else none) (fun b => ?_) (.inl ⟨_, if_pos rfl⟩) (fun b u z => ?_) (fun b z => ?_) fun _ => hk
    · by_cases hb : b = a
      · exact .inr ⟨_, _, if_pos hb⟩
      · exact .inl (if_neg hb)
    · by_cases hb : b = a
      · have z' := (if_pos hb).symm.trans z
        cases z'
        subst hb
        exact ⟨ha, by rw [List.length_map]; exact hl, vs, 0, rv, ha⟩
      · have z' := (if_neg hb).symm.trans z
        cases z'
    · by_cases hb : b = a
      · exact hb
      · exact absurd (if_neg hb) z
  | some o =>
    have e := KX a o hk
    rw [ha] at e
    cases e
    refine core (fun _ => none) (fun _ => .inl rfl) (.inr ⟨_, vs.toArray, 0, hk, rfl, rfl, rfl, by rw [List.size_toArray, lenV]; exact hl, rv⟩) (fun b u z => by cases z) (fun b z => absurd rfl z) fun z => absurd rfl z
/-- the end of a law: what the top has written, and that the law's function answers True -/
theorem walkZ {l : PySem.W.OpenLaw} {n k : Nat} {q : Program} {loose : List Str} {XP : (Str → Option Value) → Heap → Prop} {YP : World → Heap → Prop} {d : DefRec} {K : Params → PySem.W.Frag} {g : FF} {x : Str} (hn : l.most = some n) (hn2 : n ≤ sizeLine) (hdf : d.params.defaults = []) (hr : Room k callerA)
    (hY : ∀ (w : World) (h : Heap), YP w h → (K w.params).In h)
    (F : ∀ (w : World) (mg : Str → Option Value) (fa : Addr) (h : Heap), (K w.params).In h → h.Ns mainGlobals mg → mg d.name = some (.ref fa) →
      ∃ fd : FuncData, (∀ (s : Shared) (u : Value), BindsTo s fd ⟨[u], []⟩ [(x, u)]) ∧ ∀ base : Heap, (K w.params).In base → base.Ns mainGlobals mg → ZF l.prog w (K w.params) mg base k fa fd [x] g)
    (hsp : ∀ ns : List Int, ns.length ≤ n → ∃ m, g [.fl (ns.map .int)] [] = .ok (.bl true) m) :
    PySem.W.WalkO q loose XP YP l.row.toRowW d [] (fun f vs => PySem.call f vs) :=
  Att.attach_call hn hdf fun w s₀ s₁ mg mb fa o pm cd doc a vs ns G Y ho hd hcd hmg hobj hints hlen hg => by
    obtain ⟨fd, hb, hF⟩ := F w mg fa s₁.heap (hY w s₁.heap Y) G.T.g hmg
    exact law_callZ (hY w s₁.heap Y) G.T.g G.T.b G.T.builtins G.T.nolimit hg hobj hints (Nat.le_trans hlen hn2) hr hF hb (hsp ns hlen)
end Z

namespace Z
open PySem PySem.Spec PyProof.Rows L2

/-! ### defs by their names -/
def DefAt (K : PySem.W.Frag) (mg : Str → Option Value) (x : Str) (st : Stmt) (ps : List Str) : Prop := ∃ f fd, Fun K x x st f fd ∧ mg x = some (.ref f) ∧ PySem.W.keepIn K (.ref f) = true ∧ Binds K fd ps []
def ZD (P : Program) (w : World) (K : PySem.W.Frag) (mg : Str → Option Value) (base : Heap) (k : Nat) (x : Str) (ps : List Str) (g : FF) : Prop := ∃ f fd, mg x = some (.ref f) ∧ PySem.W.keepIn K (.ref f) = true ∧ Binds K fd ps [] ∧ ZF P w K mg base k f fd ps g
theorem zd_of {P : Program} {w : World} {K : PySem.W.Frag} {mg : Str → Option Value} {base : Heap} {x : Str} {st : Stmt} {N ps : List Str} {k : Nat} {b : SF} (T : DefAt K mg x st ps) (S : FnScope N ps (defScope st))
    (hbody : ∀ (f : Addr) (cdv : Value) (A : Around) (outer : List Env) (s : Shared) (H : Hp) (E : XK), Room k (A.deeper (envOfC x (defScope st) s.heap.objs.size f cdv)) → A.guards = some [] →
      ZB (cxOf (L2.CX P w) P w K mg base N x (defScope st) f cdv A outer s H E) (fun c d _ H' => E c d H') (defBody st) b) : ZD P w K mg base (k + 1) x ps (fnF ps.length N.length b) := by
  obtain ⟨f, fd, F, h1, h2, h3⟩ := T
  exact ⟨f, fd, h1, h2, h3, zf_of F S (hbody f)⟩
theorem ZD.mono {P : Program} {w : World} {K : PySem.W.Frag} {mg : Str → Option Value} {base : Heap} {j k : Nat} {x : Str} {ps : List Str} {g : FF} (h : ZD P w K mg base j x ps g) (hj : j ≤ k) : ZD P w K mg base k x ps g := by
  obtain ⟨f, fd, h1, h2, h3, h4⟩ := h
  exact ⟨f, fd, h1, h2, h3, h4.mono hj⟩
section
variable {X : Cx} {W : WX} {pos p : Pos} {k : Nat} {ps : List Str} {x : Str} {e : Expr} {es : List Expr} {t : AF} {g : FF}
theorem z_fn (Z0 : ZD X.prog X.w X.K X.mg X.base k x ps g) (hgl : ∀ ds m, ds.length ≠ ps.length → g ds m = .bad) (hr : Room k X.A) (hgd : X.A.guards = some []) (hg : Gl X x) (tk : Takes X W)
    (ha : ZA X W (e :: es) t) (hdb : (x == ("__debug__" : Str)) = false := by decide) (he : starEach (e :: es) X.env = (false, eval e X.env) :: starEach es X.env := by rfl) (hpl : (backTo pos (starEach es X.env)).any (·.1) = false := by rfl) :
    ZE X W (.Call (.Name x p) (e :: es) [] pos) (eBlt g t) := by
  obtain ⟨f, fd, h1, h2, h3, h4⟩ := Z0
  exact z_call h4 hgl hr hgd hg h1 h2 h3 tk ha hdb he hpl
theorem z_fn0 (Z0 : ZD X.prog X.w X.K X.mg X.base k x [] g) (hr : Room k X.A) (hgd : X.A.guards = some []) (hg : Gl X x) (tk : Takes X W) (hdb : (x == ("__debug__" : Str)) = false := by decide) : ZE X W (.Call (.Name x p) [] [] pos) (eBlt g aNil) := by
  obtain ⟨f, fd, h1, h2, h3, h4⟩ := Z0
  refine ⟨fun pins s σ H Q I ⟨F, ι, ρ, m, hρ, hm', hp⟩ => ?_⟩
  refine wpAny_Call_Name_kw (ld_glob I hg h1 (PySem.W.callWith_K0 I.kIn h2 ?_) hdb)
  have hb' := h3 s [] I.kIn rfl
  exact zrun h4 hr hgd tk I hb' .nil rfl .nil hm' hp
end
/-! an exception class of the text: with one field, with two, with none -/
structure Cls1 (K : PySem.W.Frag) (mg : Str → Option Value) (C : Str) (st : Stmt) (f : Str) : Prop where
  at' : ∃ CA fI fd, mg C = some (.ref CA) ∧ OexC K CA ∧ XCls K CA ∧ XfC K CA ∧ PySem.W.findIn K (.ref CA) f = some none ∧ PySem.W.findIn K (.ref CA) "__init__" = some (some (.ref fI)) ∧ PySem.W.typeIn K (.ref fI) = some (.type "function") ∧ Fun K "__init__" (C ++ ".__init__") st fI fd ∧ Binds K fd ["self", f] []
structure Cls2 (K : PySem.W.Frag) (mg : Str → Option Value) (C : Str) (st : Stmt) (f g : Str) : Prop where
  at' : ∃ CA fI fd, mg C = some (.ref CA) ∧ OexC K CA ∧ XCls K CA ∧ XfC K CA ∧ PySem.W.findIn K (.ref CA) f = some none ∧ PySem.W.findIn K (.ref CA) g = some none ∧ PySem.W.findIn K (.ref CA) "__init__" = some (some (.ref fI)) ∧ PySem.W.typeIn K (.ref fI) = some (.type "function") ∧ Fun K "__init__" (C ++ ".__init__") st fI fd ∧ Binds K fd ["self", f, g] []
structure Cls0 (K : PySem.W.Frag) (mg : Str → Option Value) (C : Str) : Prop where
  at' : ∃ CA bmB B newId initId, mg C = some (.ref CA) ∧ ExcBaseFacts B newId initId bmB ∧ PySem.W.excIn K CA bmB newId = true ∧ PySem.W.keepIn K (.ref CA) = true ∧ XCls K CA
section
variable {X : Cx} {W : WX} {pos p p1 p2 p3 p4 q1 q2 q3 q4 : Pos} {C f g : Str} {st : Stmt} {e e2 : Expr} {fe fe2 : EF}
theorem z_mk1 (T : Cls1 X.K X.mg C st f) (S : FnScope ["self", f] ["self", f] (defScope st)) (hr : Room 2 X.A) (hg : Gl X C) (ha : ZE X W e fe)
    (hb : defBody st = [.Assign [.Attribute (.Name "self" p1) f p2] (.Name f p3) p4] := by rfl)
    (hv0 : (defScope st).names.lookup ("self" : Str) = some .local := by rfl) (hv1 : (defScope st).names.lookup f = some .local := by rfl) (hd : (f == ("__debug__" : Str)) = false := by decide) (hcd : (f == ("__classdict__" : Str)) = false := by decide)
    (hdb : (C == ("__debug__" : Str)) = false := by decide) (he : starEach [e] X.env = (false, eval e X.env) :: starEach [] X.env := by rfl) (hpl : (backTo pos (starEach ([] : List Expr) X.env)).any (·.1) = false := by rfl) :
    ZE X W (.Call (.Name C p) [e] [] pos) (eNew1 C f (aCons fe aNil)) := by
  obtain ⟨CA, fI, fd, hm, hO, hX, hF, hn, hi, ht, hFn, hB⟩ := T.at'
  exact z_new1 hO hi ht (init1 (p1 := p1) (p2 := p2) (p3 := p3) (p4 := p4) hFn S hO hn hv0 hv1 hd hcd hb) hB hr hg hm ha hdb he hpl
theorem z_mk2 (T : Cls2 X.K X.mg C st f g) (S : FnScope ["self", f, g] ["self", f, g] (defScope st)) (hr : Room 2 X.A) (hg : Gl X C) (ha : ZE X W e fe) (ha2 : ZE X W e2 fe2)
    (hb : defBody st = [.Assign [.Attribute (.Name "self" p1) f p2] (.Name f p3) p4, .Assign [.Attribute (.Name "self" q1) g q2] (.Name g q3) q4] := by rfl)
    (hv0 : (defScope st).names.lookup ("self" : Str) = some .local := by rfl) (hv1 : (defScope st).names.lookup f = some .local := by rfl) (hv2 : (defScope st).names.lookup g = some .local := by rfl) (hd : (f == ("__debug__" : Str)) = false := by decide) (hcd : (f == ("__classdict__" : Str)) = false := by decide) (hd2 : (g == ("__debug__" : Str)) = false := by decide) (hcd2 : (g == ("__classdict__" : Str)) = false := by decide)
    (hdb : (C == ("__debug__" : Str)) = false := by decide) (he : starEach [e, e2] X.env = (false, eval e X.env) :: starEach [e2] X.env := by rfl) (he2 : starEach [e2] X.env = (false, eval e2 X.env) :: starEach [] X.env := by rfl) (hpl : (backTo pos (starEach [e2] X.env)).any (·.1) = false := by rfl) :
    ZE X W (.Call (.Name C p) [e, e2] [] pos) (eNew2 C f g (aCons fe (aCons fe2 aNil))) := by
  obtain ⟨CA, fI, fd, hm, hO, hX, hF, hn, hn2, hi, ht, hFn, hB⟩ := T.at'
  exact z_new2 hO hi ht (init2 (p1 := p1) (p2 := p2) (p3 := p3) (p4 := p4) (q1 := q1) (q2 := q2) (q3 := q3) (q4 := q4) hFn S hO hn hn2 hv0 hv1 hv2 hd hcd hd2 hcd2 hb) hB hr hg hm ha ha2 hdb he he2 hpl
theorem z_mk0 (T : Cls0 X.K X.mg C) (hg : Gl X C) (hdb : (C == ("__debug__" : Str)) = false := by decide) : ZE X W (.Call (.Name C p) [] [] pos) (eNew0 C) := by
  obtain ⟨CA, bmB, B, newId, initId, hm, h1, h2, h3, h4⟩ := T.at'
  exact z_new0 h1 h2 hm h3 hg hdb
theorem Cls1.fld {K : PySem.W.Frag} {mg : Str → Option Value} (T : Cls1 K mg C st f) : ∀ CA, mg C = some (.ref CA) → XfC K CA ∧ PySem.W.findIn K (.ref CA) f = some none := fun CA h => by
  obtain ⟨CA', fI, fd, hm, hO, hX, hF, hn, _⟩ := T.at'
  rw [hm] at h
  cases h
  exact ⟨hF, hn⟩
theorem Cls2.fld1 {K : PySem.W.Frag} {mg : Str → Option Value} (T : Cls2 K mg C st f g) : ∀ CA, mg C = some (.ref CA) → XfC K CA ∧ PySem.W.findIn K (.ref CA) f = some none := fun CA h => by
  obtain ⟨CA', fI, fd, hm, hO, hX, hF, hn, _⟩ := T.at'
  rw [hm] at h
  cases h
  exact ⟨hF, hn⟩
theorem Cls2.fld2 {K : PySem.W.Frag} {mg : Str → Option Value} (T : Cls2 K mg C st f g) : ∀ CA, mg C = some (.ref CA) → XfC K CA ∧ PySem.W.findIn K (.ref CA) g = some none := fun CA h => by
  obtain ⟨CA', fI, fd, hm, hO, hX, hF, hn, hn2, _⟩ := T.at'
  rw [hm] at h
  cases h
  exact ⟨hF, hn2⟩
end
theorem Cls1.mg {K : PySem.W.Frag} {mg : Str → Option Value} {C f : Str} {st : Stmt} (T : Cls1 K mg C st f) : ∃ CA, mg C = some (.ref CA) := by
  obtain ⟨CA, fI, fd, hm, _⟩ := T.at'
  exact ⟨CA, hm⟩
theorem Cls2.mg {K : PySem.W.Frag} {mg : Str → Option Value} {C f g : Str} {st : Stmt} (T : Cls2 K mg C st f g) : ∃ CA, mg C = some (.ref CA) := by
  obtain ⟨CA, fI, fd, hm, _⟩ := T.at'
  exact ⟨CA, hm⟩
theorem Cls0.mg {K : PySem.W.Frag} {mg : Str → Option Value} {C : Str} (T : Cls0 K mg C) : ∃ CA, mg C = some (.ref CA) := by
  obtain ⟨CA, bmB, B, newId, initId, hm, _⟩ := T.at'
  exact ⟨CA, hm⟩
theorem z_gloC {X : Cx} {W : WX} {pos : Pos} {x : Str} (hg : Gl X x) (h : ∃ CA, X.mg x = some (.ref CA)) (hd : (x == ("__debug__" : Str)) = false := by decide) : ZE X W (.Name x pos) (eCon (.glo x)) := by
  obtain ⟨CA, h⟩ := h
  exact z_glo hg h hd
theorem z_gloD {X : Cx} {W : WX} {pos : Pos} {x : Str} {st : Stmt} {ps : List Str} (hg : Gl X x) (h : DefAt X.K X.mg x st ps) (hd : (x == ("__debug__" : Str)) = false := by decide) : ZE X W (.Name x pos) (eCon (.glo x)) := by
  obtain ⟨f, fd, _, h, _⟩ := h
  exact z_glo hg h hd
/-! comprehensions as statements -/
section
variable {X : Cx} {W : WX} {elt tg iter : Expr} {ifs : List Expr} {scope : Scope} {own : List (Str × Nat)} {pos spos py : Pos} {it : IF} {g : GF} {tt : TF} {f : EF} {i : Nat} {y : Str}
theorem z_setLc (hc : X.calm = true) (hN : X.N.Nodup) (hy : X.N[i]? = some y) (hyl : X.env.scope.names.lookup y = some .local) (hsw : swapsWith (.ListComp elt [⟨tg, iter, ifs, 0⟩] scope pos) (some (.Name y py)) spos.line X.env = pure true)
    (hi : ZI X W tg iter it) (ok : BlkOk X.N X.env.scope scope own)
    (hg : ∀ (s : Shared) (H : Hp) (C : Addr) (cl : List (Str × Addr)) (fp : List Addr), ZGo (X.blk s H scope (compEnvC scope cl C X.env) fp) (own.map (·.2)) tg g)
    (ht : ∀ (s : Shared) (H : Hp) (C : Addr) (cl : List (Str × Addr)) (fp : List Addr), ZTs (X.blk s H scope (compEnvC scope cl C X.env) fp) ifs tt)
    (he : ∀ (s : Shared) (H : Hp) (C : Addr) (cl : List (Str × Addr)) (fp : List Addr), ZE (X.blk s H scope (compEnvC scope cl C X.env) fp) WN elt f)
    (hs : ∀ x, foldedSetIterable iter X.env x = pure x := by intro _; rfl) : ZS X W (.Assign [.Name y py] (.ListComp elt [⟨tg, iter, ifs, 0⟩] scope pos) spos) (sSet i (eLc it (own.map (·.2)) g tt f)) := by
  refine PS.imp (ps_setLc (g := tGo X.K X.mg (own.map (·.2)) g) (tt := tT X.K X.mg WN tt) (te := tE X.K X.mg WN f) hc hN hy hyl hsw hi ok hg ht he hs) fun D σ H ⟨F, ι, ρ, m, hρ, hm, hp⟩ => ?_
  refine lcS ⟨F, ι, ρ, m, hρ, hm, ?_⟩
  exact Post.stm hp hρ fun d m1 ι1 H1 v _ e1 h1 r1 hp1 => hp1 ι1 H1 _ .refl h1 ((hρ.mono e1).set i r1)
theorem z_setLcC (hc : X.calm = true) (hN : X.N.Nodup) (hy : X.N[i]? = some y) (hyl : X.env.scope.names.lookup y = some .local) (hsw : swapsWith (.ListComp elt [⟨tg, iter, ifs, 0⟩] scope pos) (some (.Name y py)) spos.line X.env = pure true)
    (hi : ZI X W tg iter it) (ok : BlkOk X.N X.env.scope scope own)
    (hg : ∀ (s : Shared) (H : Hp) (C : Addr) (cl : List (Str × Addr)) (fp : List Addr), ZGo (X.blk s H scope (compEnvC scope cl C X.env) fp) (own.map (·.2)) tg g)
    (ht : ∀ (s : Shared) (H : Hp) (C : Addr) (cl : List (Str × Addr)) (fp : List Addr), ZTs (X.blk s H scope (compEnvC scope cl C X.env) fp) ifs tt)
    (he : ∀ (s : Shared) (H : Hp) (C : Addr) (cl : List (Str × Addr)) (fp : List Addr), ZE (X.blk s H scope (compEnvC scope cl C X.env) fp) WN elt f)
    (hs : ∀ x, foldedSetIterable iter X.env x = pure x := by intro _; rfl) : ZS X W (.Assign [.Name y py] (.ListComp elt [⟨tg, iter, ifs, 0⟩] scope pos) spos) (sSet i (eLcC it (own.map (·.2)) g tt f)) := by
  refine PS.imp (ps_setLc (g := tGo X.K X.mg (own.map (·.2)) g) (tt := tT X.K X.mg WN tt) (te := tE X.K X.mg WN f) hc hN hy hyl hsw hi ok hg ht he hs) fun D σ H ⟨F, ι, ρ, m, hρ, hm, hp⟩ => ?_
  refine lcC ⟨F, ι, ρ, m, hρ, hm, ?_⟩
  exact Post.stm hp hρ fun d m1 ι1 H1 v _ e1 h1 r1 hp1 => hp1 ι1 H1 _ .refl h1 ((hρ.mono e1).set i r1)
theorem blkOk {N : List Str} {sc scope : Scope} {own : List (Str × Nat)} (h1 : scope.kind = .function) (h2 : ∀ y ∈ scope.names, scope.names.lookup y.1 = some y.2) (h3 : ∀ p ∈ own, N[p.2]? = some p.1)
    (h4 : ∀ y ∈ scope.names, y.2 = .free → sc.names.lookup y.1 = some .cell ∨ sc.names.lookup y.1 = some .free) (h5 : ∀ y ∈ scope.names, y.2 = .local ∨ y.2 = .cell → y.1 ∈ own.map (·.1) ∨ ¬ y.1 ∈ N) : BlkOk N sc scope own := ⟨h1, h2, h3, h4, h5⟩
end
end Z

namespace Z
open PySem PySem.Spec PyProof.Rows L2

/-! ### what the top has written -/
section
variable {K : PySem.W.Frag} {h : Heap} {mg : Str → Option Value} (X : K.In h) (G : h.Ns mainGlobals mg)
include X G
theorem def_mk {x : Str} {st : Stmt} {ps : List Str} {f : Addr} {od an : Option Addr} {sl : Array (Option Value)} {oc kV dc pm cd ct : Value}
    (a : PySem.W.nsIn K mainGlobals x = some (some (.ref f))) (l : K.lookup f = some ⟨oc, od, .func (PySem.W.fnOf x x (defArgs st) (defBody st) (defScope st) .none kV dc pm an cd ct), sl⟩) (c : PySem.W.codeIn K cd x = true) (k : PySem.W.keepIn K (.ref f) = true)
    (hb : ∀ fd, Fun K x x st f fd → Binds K fd ps []) : DefAt K mg x st ps :=
  ⟨f, _, fun_mk (st := st) l c k, PySem.W.mg_of X G a, k, hb _ (fun_mk (st := st) l c k)⟩
theorem ns_mk {x : Str} {A : Addr} (a : PySem.W.nsIn K mainGlobals x = some (some (.ref A))) : PySem.W.nsIn K mainGlobals x = some (some (.ref A)) := a
theorem xcls_mk {C : Str} {CA : Addr} (aC : PySem.W.nsIn K mainGlobals C = some (some (.ref CA))) (ga : PySem.W.findIn K (.ref CA) "__getattribute__" = some (some (.builtin "BaseException.__getattribute__"))) (gg : PySem.W.findIn K (.ref CA) "__getattr__" = some none) (eC : PySem.W.subIn K (.ref CA) (.type "BaseException") = some true) (hC : PySem.W.hasDictIn K CA = true)
    (hc : PySem.W.findIn K (.ref CA) "__class__" = some (some (.builtin "object.__class__"))) (hn : PySem.W.specialIn K (.builtin "object.__class__") "__get__" = some (some (.builtin "getset_descriptor.__get__"))) (ht : PySem.W.takesIn K (.builtin "object.__class__") = some true) (hm : PySem.W.mroIn K CA (.type "object") = some true) (iC : PySem.W.isClsIn K CA = true) : XCls K CA :=
  ⟨⟨ga, gg, eC, hC, hc, hn, ht, hm⟩, iC⟩
theorem cls1_mk {C f : Str} {st : Stmt} {CA fI N : Addr} {nm q : Str} {bs bm : List Value} {sn : List Str} {sub : List Value} {ab : Bool} {col : Option Bool} {dd : Option Addr} {m0 m1 m2 m3 m5 : Option Value} {od an : Option Addr} {sl : Array (Option Value)} {oc kV dc pm cd ct : Value}
    (aC : PySem.W.nsIn K mainGlobals C = some (some (.ref CA))) (xL : K.lookup CA = some (excClassObj nm q CA N bs bm true sn sub ab col dd m0 m1 m2 m3 m5 "ValueError.__new__")) (rB : HandSPX.refsVE bm = true)
    (sa : PySem.W.findIn K (.ref CA) "__setattr__" = some (some (.builtin "object.__setattr__"))) (eC : PySem.W.subIn K (.ref CA) (.type "BaseException") = some true) (tC : PySem.W.typeIn K (.ref CA) = some (.type "type")) (kC : PySem.W.keepIn K (.ref CA) = true)
    (xc : XCls K CA) (nf : PySem.W.findIn K (.ref CA) f = some none)
    (a1 : PySem.W.findIn K (.ref CA) "__init__" = some (some (.ref fI))) (t1 : PySem.W.typeIn K (.ref fI) = some (.type "function"))
    (l1 : K.lookup fI = some ⟨oc, od, .func (PySem.W.fnOf "__init__" (C ++ ".__init__") (defArgs st) (defBody st) (defScope st) .none kV dc pm an cd ct), sl⟩) (c1 : PySem.W.codeIn K cd (C ++ ".__init__") = true) (k1 : PySem.W.keepIn K (.ref fI) = true)
    (hb : ∀ fd, Fun K "__init__" (C ++ ".__init__") st fI fd → Binds K fd ["self", f] []) : Cls1 K mg C st f :=
  ⟨CA, fI, _, PySem.W.mg_of X G aC, ⟨⟨nm, q, N, bs, bm, sn, sub, ab, col, dd, m0, m1, m2, m3, m5, xL, rB⟩, sa, eC, tC, kC⟩, xc, ⟨xc.ex.hg, xc.ex.hk, xc.ex.hs, xc.ex.hd⟩, nf, a1, t1, fun_mk (st := st) l1 c1 k1, hb _ (fun_mk (st := st) l1 c1 k1)⟩
theorem cls2_mk {C f g : Str} {st : Stmt} {CA fI N : Addr} {nm q : Str} {bs bm : List Value} {sn : List Str} {sub : List Value} {ab : Bool} {col : Option Bool} {dd : Option Addr} {m0 m1 m2 m3 m5 : Option Value} {od an : Option Addr} {sl : Array (Option Value)} {oc kV dc pm cd ct : Value}
    (aC : PySem.W.nsIn K mainGlobals C = some (some (.ref CA))) (xL : K.lookup CA = some (excClassObj nm q CA N bs bm true sn sub ab col dd m0 m1 m2 m3 m5 "ValueError.__new__")) (rB : HandSPX.refsVE bm = true)
    (sa : PySem.W.findIn K (.ref CA) "__setattr__" = some (some (.builtin "object.__setattr__"))) (eC : PySem.W.subIn K (.ref CA) (.type "BaseException") = some true) (tC : PySem.W.typeIn K (.ref CA) = some (.type "type")) (kC : PySem.W.keepIn K (.ref CA) = true)
    (xc : XCls K CA) (nf : PySem.W.findIn K (.ref CA) f = some none) (nf2 : PySem.W.findIn K (.ref CA) g = some none)
    (a1 : PySem.W.findIn K (.ref CA) "__init__" = some (some (.ref fI))) (t1 : PySem.W.typeIn K (.ref fI) = some (.type "function"))
    (l1 : K.lookup fI = some ⟨oc, od, .func (PySem.W.fnOf "__init__" (C ++ ".__init__") (defArgs st) (defBody st) (defScope st) .none kV dc pm an cd ct), sl⟩) (c1 : PySem.W.codeIn K cd (C ++ ".__init__") = true) (k1 : PySem.W.keepIn K (.ref fI) = true)
    (hb : ∀ fd, Fun K "__init__" (C ++ ".__init__") st fI fd → Binds K fd ["self", f, g] []) : Cls2 K mg C st f g :=
  ⟨CA, fI, _, PySem.W.mg_of X G aC, ⟨⟨nm, q, N, bs, bm, sn, sub, ab, col, dd, m0, m1, m2, m3, m5, xL, rB⟩, sa, eC, tC, kC⟩, xc, ⟨xc.ex.hg, xc.ex.hk, xc.ex.hs, xc.ex.hd⟩, nf, nf2, a1, t1, fun_mk (st := st) l1 c1 k1, hb _ (fun_mk (st := st) l1 c1 k1)⟩
theorem cls0_mk {C : Str} {CA : Addr} {bmB : List Value} {B newId initId : String} (aC : PySem.W.nsIn K mainGlobals C = some (some (.ref CA))) (F : ExcBaseFacts B newId initId bmB) (q : PySem.W.excIn K CA bmB newId = true) (kC : PySem.W.keepIn K (.ref CA) = true) (xc : XCls K CA) : Cls0 K mg C :=
  ⟨CA, bmB, B, newId, initId, PySem.W.mg_of X G aC, F, q, kC, xc⟩
theorem none_mk {x : Str} (z : PySem.W.nsIn K mainGlobals x = some none) : mg x = none := PySem.W.mg_none_of X G z
end
/-! kinds of errors that are each its own class under one root -/
def ktOf (root : Str) (kids : List Str) : KTab := fun C c => if kids.contains C = true then (match c with
  | .ty n => if n = "ValueError" then some true else none
  | .glo x => if x = root then some true else if kids.contains x = true then some (decide (C = x)) else none
  | _ => none) else none
def kitChk (K : PySem.W.Frag) (L : List (Str × Addr)) (R : Addr) : Bool := L.all fun p => PySem.W.kitOne K (.ref p.2) (.type "ValueError") == some true && PySem.W.kitOne K (.ref p.2) (.ref R) == some true && L.all fun q => PySem.W.kitOne K (.ref p.2) (.ref q.2) == some (decide (p.1 = q.1))
theorem kok_mk {K : PySem.W.Frag} {mg : Str → Option Value} {root : Str} {kids : List Str} (L : List (Str × Addr)) (R : Addr) (hk : kids = L.map (·.1)) (hm : ∀ p ∈ L, mg p.1 = some (.ref p.2)) (hx : ∀ p ∈ L, XCls K p.2) (hR : mg root = some (.ref R)) (h : kitChk K L R = true) : KOk K mg (ktOf root kids) := by
  intro C c b hb CA hC
  unfold ktOf at hb
  split at hb
  · rename_i h1
    rw [hk] at h1
    have h1 : C ∈ L.map (·.1) := by simpa using h1
    obtain ⟨p, hp, rfl⟩ := List.mem_map.mp h1
    have e := hm p hp
    rw [hC] at e
    cases e
    refine ⟨hx p hp, ?_⟩
    have hq := List.all_eq_true.mp h p hp
    rw [Bool.and_eq_true, Bool.and_eq_true] at hq
    obtain ⟨⟨q1, q2⟩, q3⟩ := hq
    split at hb
    · rename_i n
      split at hb
      · rename_i e
        cases hb
        subst e
        exact .inl ⟨_, rfl, by simpa using q1⟩
      · cases hb
    · rename_i x
      refine .inr ⟨x, rfl, fun A2 hA => ?_⟩
      split at hb
      · rename_i e
        cases hb
        subst e
        rw [hR] at hA
        cases hA
        simpa using q2
      · split at hb
        · rename_i h2
          cases hb
          rw [hk] at h2
          have h2 : x ∈ L.map (·.1) := by simpa using h2
          obtain ⟨q, hq, rfl⟩ := List.mem_map.mp h2
          have e := hm q hq
          rw [hA] at e
          cases e
          have := List.all_eq_true.mp q3 q hq
          simpa using this
        · cases hb
    · cases hb
  · cases hb
theorem bindsTo_of {K : PySem.W.Frag} {x : Str} {st : Stmt} {f : Addr} {fd : FuncData} {y : Str} (F : Fun K x x st f fd) (hb : ∀ (kV doc pm : Value) (an : Option Addr) (cdv ct u : Value), bindArgs (PySem.W.fnOf x x (defArgs st) (defBody st) (defScope st) .none kV doc pm an cdv ct) ⟨[u], []⟩ = pure [(y, u)]) (s : Shared) (u : Value) : BindsTo s fd ⟨[u], []⟩ [(y, u)] := by
  obtain ⟨oc, od, kV, doc, pm, an, cdv, ct, osl, rfl, lk, hcd⟩ := F.ex
  exact .of_eq (hb kV doc pm an cdv ct u)
def AllAt (K : PySem.W.Frag) (mg : Str → Option Value) (L : List (Str × Addr)) : Prop := ∀ p ∈ L, mg p.1 = some (.ref p.2) ∧ XCls K p.2
section
variable {K : PySem.W.Frag} {h : Heap} {mg : Str → Option Value} (X : K.In h) (G : h.Ns mainGlobals mg)
theorem allat_nil : AllAt K mg [] := fun p hp => by cases hp
include X G
theorem allat_cons {C : Str} {CA : Addr} {L : List (Str × Addr)} (aC : PySem.W.nsIn K mainGlobals C = some (some (.ref CA))) (xC : XCls K CA) (r : AllAt K mg L) : AllAt K mg ((C, CA) :: L) := fun p hp => by
  rcases List.mem_cons.mp hp with q | q
  · subst q; exact ⟨PySem.W.mg_of X G aC, xC⟩
  · exact r p q
theorem kok_of {root : Str} {kids : List Str} {L : List (Str × Addr)} {R : Addr} (r : AllAt K mg L) (hk : kids = L.map (·.1)) (aR : PySem.W.nsIn K mainGlobals root = some (some (.ref R))) (hc : kitChk K L R = true) : KOk K mg (ktOf root kids) :=
  kok_mk L R hk (fun p hp => (r p hp).1) (fun p hp => (r p hp).2) (PySem.W.mg_of X G aR) hc
end
theorem fin_mk {P : Program} {w : World} {K : PySem.W.Frag} {mg : Str → Option Value} {k : Nat} {fa : Addr} {st : Stmt} {g : FF} (D : DefAt K mg "law" st ["script"]) (hfa : mg "law" = some (.ref fa))
    (hb : ∀ (kV doc pm : Value) (an : Option Addr) (cdv ct u : Value), bindArgs (PySem.W.fnOf "law" "law" (defArgs st) (defBody st) (defScope st) .none kV doc pm an cdv ct) ⟨[u], []⟩ = pure [(("script" : Str), u)])
    (hz : ∀ f fd, Fun K "law" "law" st f fd → ∀ base, ZF P w K mg base k f fd ["script"] g) :
    ∃ fd : FuncData, (∀ (s : Shared) (u : Value), BindsTo s fd ⟨[u], []⟩ [("script", u)]) ∧ ∀ base : Heap, K.In base → base.Ns mainGlobals mg → ZF P w K mg base k fa fd ["script"] g := by
  obtain ⟨f, fd, F, h1, _, _⟩ := D
  rw [hfa] at h1
  cases h1
  exact ⟨fd, fun s u => bindsTo_of F hb s u, fun base _ _ => hz fa fd F base⟩
end Z

namespace K00
open PySem PySem.Spec PyProof.Rows L2 Z
def topS (i : Nat) : Stmt := PySem.Challenge.pw_notednames_k00_errors.main.body.getD i (.Pass ⟨0, 0, 0, 0⟩)

abbrev sc_BadText : Stmt := inClass (topS 2) 0
theorem i_BadText : FnScope ["self", "line", "column"] ["self", "line", "column"] (defScope sc_BadText) := ⟨rfl, rfl, rfl, by decide +kernel, rfl, by decide +kernel, by decide +kernel⟩

abbrev sc_BadNumber : Stmt := inClass (topS 3) 0
theorem i_BadNumber : FnScope ["self", "what", "number"] ["self", "what", "number"] (defScope sc_BadNumber) := ⟨rfl, rfl, rfl, by decide +kernel, rfl, by decide +kernel, by decide +kernel⟩

abbrev sc_BadName : Stmt := inClass (topS 4) 0
theorem i_BadName : FnScope ["self", "name"] ["self", "name"] (defScope sc_BadName) := ⟨rfl, rfl, rfl, by decide +kernel, rfl, by decide +kernel, by decide +kernel⟩

abbrev sc_NoName : Stmt := inClass (topS 5) 0
theorem i_NoName : FnScope ["self", "name"] ["self", "name"] (defScope sc_NoName) := ⟨rfl, rfl, rfl, by decide +kernel, rfl, by decide +kernel, by decide +kernel⟩

abbrev sc_TakenName : Stmt := inClass (topS 6) 0
theorem i_TakenName : FnScope ["self", "name"] ["self", "name"] (defScope sc_TakenName) := ⟨rfl, rfl, rfl, by decide +kernel, rfl, by decide +kernel, by decide +kernel⟩

abbrev sc_BadKinds : Stmt := inClass (topS 7) 0
theorem i_BadKinds : FnScope ["self", "kinds"] ["self", "kinds"] (defScope sc_BadKinds) := ⟨rfl, rfl, rfl, by decide +kernel, rfl, by decide +kernel, by decide +kernel⟩

abbrev sc_BadLog : Stmt := inClass (topS 8) 0
theorem i_BadLog : FnScope ["self", "log"] ["self", "log"] (defScope sc_BadLog) := ⟨rfl, rfl, rfl, by decide +kernel, rfl, by decide +kernel, by decide +kernel⟩

abbrev sc_BadMachine : Stmt := inClass (topS 9) 0
theorem i_BadMachine : FnScope ["self", "machine"] ["self", "machine"] (defScope sc_BadMachine) := ⟨rfl, rfl, rfl, by decide +kernel, rfl, by decide +kernel, by decide +kernel⟩

abbrev sc_BadWriter : Stmt := inClass (topS 10) 0
theorem i_BadWriter : FnScope ["self", "writer"] ["self", "writer"] (defScope sc_BadWriter) := ⟨rfl, rfl, rfl, by decide +kernel, rfl, by decide +kernel, by decide +kernel⟩

abbrev sc_BadPair : Stmt := inClass (topS 11) 0
theorem i_BadPair : FnScope ["self", "pair"] ["self", "pair"] (defScope sc_BadPair) := ⟨rfl, rfl, rfl, by decide +kernel, rfl, by decide +kernel, by decide +kernel⟩

abbrev sc_BadLot : Stmt := inClass (topS 12) 0
theorem i_BadLot : FnScope ["self", "lot"] ["self", "lot"] (defScope sc_BadLot) := ⟨rfl, rfl, rfl, by decide +kernel, rfl, by decide +kernel, by decide +kernel⟩

abbrev sc_BadJob : Stmt := inClass (topS 13) 0
theorem i_BadJob : FnScope ["self", "job"] ["self", "job"] (defScope sc_BadJob) := ⟨rfl, rfl, rfl, by decide +kernel, rfl, by decide +kernel, by decide +kernel⟩

abbrev sc_BadAnswers : Stmt := inClass (topS 14) 0
theorem i_BadAnswers : FnScope ["self", "answers"] ["self", "answers"] (defScope sc_BadAnswers) := ⟨rfl, rfl, rfl, by decide +kernel, rfl, by decide +kernel, by decide +kernel⟩

abbrev sc_BadPaper : Stmt := inClass (topS 15) 0
theorem i_BadPaper : FnScope ["self", "paper"] ["self", "paper"] (defScope sc_BadPaper) := ⟨rfl, rfl, rfl, by decide +kernel, rfl, by decide +kernel, by decide +kernel⟩

abbrev sc_BadEntry : Stmt := inClass (topS 16) 0
theorem i_BadEntry : FnScope ["self", "line"] ["self", "line"] (defScope sc_BadEntry) := ⟨rfl, rfl, rfl, by decide +kernel, rfl, by decide +kernel, by decide +kernel⟩

abbrev sc_NotKept : Stmt := inClass (topS 17) 0
theorem i_NotKept : FnScope ["self", "promise", "witness"] ["self", "promise", "witness"] (defScope sc_NotKept) := ⟨rfl, rfl, rfl, by decide +kernel, rfl, by decide +kernel, by decide +kernel⟩

abbrev st__law_draw : Stmt := topS 22
abbrev n__law_draw_N : List Str := ["pen", "many", "blend", "cell", "digit"]
theorem n__law_draw : FnScope n__law_draw_N ["pen", "many"] (defScope st__law_draw) := ⟨rfl, rfl, rfl, by decide +kernel, rfl, by decide +kernel, by decide +kernel⟩

abbrev st__law_single : Stmt := topS 25
abbrev n__law_single_N : List Str := ["kind", "a", "e"]
theorem n__law_single : FnScope n__law_single_N ["kind", "a"] (defScope st__law_single) := ⟨rfl, rfl, rfl, by decide +kernel, rfl, by decide +kernel, by decide +kernel⟩

abbrev st__law_one : Stmt := topS 24
abbrev n__law_one_N : List Str := ["kind", "a", "b", "e"]
theorem n__law_one : FnScope n__law_one_N ["kind", "a", "b"] (defScope st__law_one) := ⟨rfl, rfl, rfl, by decide +kernel, rfl, by decide +kernel, by decide +kernel⟩

abbrev st__law_pen : Stmt := topS 21
abbrev n__law_pen_N : List Str := ["script", "fold", "cell"]
theorem n__law_pen : FnScope n__law_pen_N ["script"] (defScope st__law_pen) := ⟨rfl, rfl, rfl, by decide +kernel, rfl, by decide +kernel, by decide +kernel⟩

abbrev st__law_pick : Stmt := topS 23
abbrev n__law_pick_N : List Str := ["pen", "some"]
theorem n__law_pick : FnScope n__law_pick_N ["pen", "some"] (defScope st__law_pick) := ⟨rfl, rfl, rfl, by decide +kernel, rfl, by decide +kernel, by decide +kernel⟩

abbrev st__law_which : Stmt := topS 26
abbrev n__law_which_N : List Str := ["e", "found"]
theorem n__law_which : FnScope n__law_which_N ["e"] (defScope st__law_which) := ⟨rfl, rfl, rfl, by decide +kernel, rfl, by decide +kernel, by decide +kernel⟩

abbrev st_law : Stmt := topS 27
abbrev n_law_N : List Str := ["script", "pen", "menu", "kind", "a", "b", "dues", "e", "fields", "many", "k"]
theorem n_law : FnScope n_law_N ["script"] (defScope st_law) := ⟨rfl, rfl, rfl, by decide +kernel, rfl, by decide +kernel, by decide +kernel⟩

def kids : List Str := ["BadText", "BadNumber", "BadName", "NoName", "TakenName", "BadKinds", "BadLog", "BadMachine", "BadWriter", "BadPair", "BadLot", "BadJob", "BadAnswers", "BadPaper", "BadEntry", "NotKept", "NothingToUndo", "NothingToRedo"]
def kt : KTab := ktOf "NoteError" kids

def s__law_draw : FF := fnF 2 5 (sSeq (sAsg (eBin oAdd (eBin oIx (eVar 0) (eCon (.str "count"))) (eCon (.int 1))) (gSubZ (eVar 0) (eCon (.str "count"))))
  (sSeq (sIf (tAndF (tVal (eBin oEq (eBin oIx (eVar 0) (eCon (.str "digits"))) (eCon (.int 0)))) (tVal (eBin oLt (eBin oIx (eVar 0) (eCon (.str "at"))) (eBlt bLen (aCons (eBin oIx (eVar 0) (eCon (.str "cells"))) aNil))))) (sSeq (sSet 3 (eBin oIx (eBin oIx (eVar 0) (eCon (.str "cells"))) (eBin oIx (eVar 0) (eCon (.str "at")))))
  (sSeq (sAsg (eBin oAdd (eBin oIx (eVar 0) (eCon (.str "at"))) (eCon (.int 1))) (gSubZ (eVar 0) (eCon (.str "at"))))
  (sIf (tVal (eBin oGe (eVar 3) (eBin oPow (eCon (.int 10)) (eCon (.int 18))))) (sAsg (eBin oSub (eVar 3) (eBin oPow (eCon (.int 10)) (eCon (.int 18)))) (gSubZ (eVar 0) (eCon (.str "digits")))) (sAsg (eBin oMod (eBlt bInt (aCons (eBin oAdd (eBin oMul (eBin oIx (eVar 0) (eCon (.str "fold"))) (eCon (.int 73673))) (eVar 3)) aNil)) (eCon (.int 2147483543))) (gSubZ (eVar 0) (eCon (.str "fold"))))))) sNil)
  (sSeq (sIf (tVal (eBin oGt (eBin oIx (eVar 0) (eCon (.str "digits"))) (eCon (.int 0)))) (sSeq (sSet 4 (eBin oMod (eBlt bInt (aCons (eBin oIx (eVar 0) (eCon (.str "digits"))) aNil)) (eVar 1)))
  (sSeq (sAsg (eBin oFdiv (eBin oIx (eVar 0) (eCon (.str "digits"))) (eVar 1)) (gSubZ (eVar 0) (eCon (.str "digits"))))
  (sRet (eVar 4)))) sNil)
  (sSeq (sSet 2 (eBin oAdd (eBin oAdd (eBin oIx (eVar 0) (eCon (.str "fold"))) (eBin oMul (eBin oIx (eVar 0) (eCon (.str "count"))) (eCon (.int 9743)))) (eCon (.int 179))))
  (sRet (eBin oMod (eBin oFdiv (eBlt bInt (aCons (eBin oMod (eBin oPow (eVar 2) (eCon (.int 23))) (eCon (.int 2305843009213693951))) aNil)) (eCon (.int 128))) (eVar 1)))))))

def s__law_single : FF := fnF 2 3 (sSeq (sIf (tVal (eBin oEq (eVar 0) (eCon (.int 3)))) (sSeq (sSet 2 (eNew1 "BadKinds" "kinds" (aCons (eVar 1) aNil)))
  (sRet (eTup (aCons (eVar 2) (aCons (eTup (aCons (eFldX ["BadKinds"] "kinds" (eVar 2)) aNil)) aNil))))) sNil)
  (sSeq (sIf (tVal (eBin oEq (eVar 0) (eCon (.int 4)))) (sSeq (sSet 2 (eNew1 "BadLog" "log" (aCons (eVar 1) aNil)))
  (sRet (eTup (aCons (eVar 2) (aCons (eTup (aCons (eFldX ["BadLog"] "log" (eVar 2)) aNil)) aNil))))) sNil)
  (sSeq (sIf (tVal (eBin oEq (eVar 0) (eCon (.int 5)))) (sSeq (sSet 2 (eNew1 "BadMachine" "machine" (aCons (eVar 1) aNil)))
  (sRet (eTup (aCons (eVar 2) (aCons (eTup (aCons (eFldX ["BadMachine"] "machine" (eVar 2)) aNil)) aNil))))) sNil)
  (sSeq (sIf (tVal (eBin oEq (eVar 0) (eCon (.int 6)))) (sSeq (sSet 2 (eNew1 "BadWriter" "writer" (aCons (eVar 1) aNil)))
  (sRet (eTup (aCons (eVar 2) (aCons (eTup (aCons (eFldX ["BadWriter"] "writer" (eVar 2)) aNil)) aNil))))) sNil)
  (sSeq (sIf (tVal (eBin oEq (eVar 0) (eCon (.int 7)))) (sSeq (sSet 2 (eNew1 "BadPair" "pair" (aCons (eVar 1) aNil)))
  (sRet (eTup (aCons (eVar 2) (aCons (eTup (aCons (eFldX ["BadPair"] "pair" (eVar 2)) aNil)) aNil))))) sNil)
  (sSeq (sIf (tVal (eBin oEq (eVar 0) (eCon (.int 8)))) (sSeq (sSet 2 (eNew1 "BadLot" "lot" (aCons (eVar 1) aNil)))
  (sRet (eTup (aCons (eVar 2) (aCons (eTup (aCons (eFldX ["BadLot"] "lot" (eVar 2)) aNil)) aNil))))) sNil)
  (sSeq (sIf (tVal (eBin oEq (eVar 0) (eCon (.int 9)))) (sSeq (sSet 2 (eNew1 "BadJob" "job" (aCons (eVar 1) aNil)))
  (sRet (eTup (aCons (eVar 2) (aCons (eTup (aCons (eFldX ["BadJob"] "job" (eVar 2)) aNil)) aNil))))) sNil)
  (sSeq (sIf (tVal (eBin oEq (eVar 0) (eCon (.int 10)))) (sSeq (sSet 2 (eNew1 "BadAnswers" "answers" (aCons (eVar 1) aNil)))
  (sRet (eTup (aCons (eVar 2) (aCons (eTup (aCons (eFldX ["BadAnswers"] "answers" (eVar 2)) aNil)) aNil))))) sNil)
  (sSeq (sIf (tVal (eBin oEq (eVar 0) (eCon (.int 11)))) (sSeq (sSet 2 (eNew1 "BadPaper" "paper" (aCons (eVar 1) aNil)))
  (sRet (eTup (aCons (eVar 2) (aCons (eTup (aCons (eFldX ["BadPaper"] "paper" (eVar 2)) aNil)) aNil))))) sNil)
  (sSeq (sSet 2 (eNew1 "BadEntry" "line" (aCons (eVar 1) aNil)))
  (sRet (eTup (aCons (eVar 2) (aCons (eTup (aCons (eFldX ["BadText", "BadEntry"] "line" (eVar 2)) aNil)) aNil))))))))))))))

def s__law_one : FF := fnF 3 4 (sSeq (sIf (tVal (eBin oLt (eVar 0) (eCon (.int 3)))) (sSeq (sSet 3 (eBin oIx (eLstS (aCons (eNew1 "BadName" "name" (aCons (eVar 1) aNil)) (aCons (eNew1 "NoName" "name" (aCons (eVar 1) aNil)) (aCons (eNew1 "TakenName" "name" (aCons (eVar 1) aNil)) aNil)))) (eVar 0)))
  (sRet (eTup (aCons (eVar 3) (aCons (eTup (aCons (eFldX ["BadName", "NoName", "TakenName"] "name" (eVar 3)) aNil)) aNil))))) sNil)
  (sSeq (sIf (tVal (eBin oLt (eVar 0) (eCon (.int 13)))) (sRet (eBlt s__law_single (aCons (eVar 0) (aCons (eVar 1) aNil)))) sNil)
  (sSeq (sIf (tVal (eBin oEq (eVar 0) (eCon (.int 13)))) (sSeq (sSet 3 (eNew2 "BadText" "line" "column" (aCons (eVar 1) (aCons (eVar 2) aNil))))
  (sRet (eTup (aCons (eVar 3) (aCons (eTup (aCons (eFldX ["BadText", "BadEntry"] "line" (eVar 3)) (aCons (eFldX ["BadText"] "column" (eVar 3)) aNil))) aNil))))) sNil)
  (sSeq (sIf (tVal (eBin oEq (eVar 0) (eCon (.int 14)))) (sSeq (sSet 3 (eNew2 "BadNumber" "what" "number" (aCons (eVar 1) (aCons (eVar 2) aNil))))
  (sRet (eTup (aCons (eVar 3) (aCons (eTup (aCons (eFldX ["BadNumber"] "what" (eVar 3)) (aCons (eFldX ["BadNumber"] "number" (eVar 3)) aNil))) aNil))))) sNil)
  (sSeq (sIf (tVal (eBin oEq (eVar 0) (eCon (.int 15)))) (sSeq (sSet 3 (eNew2 "NotKept" "promise" "witness" (aCons (eVar 1) (aCons (eVar 2) aNil))))
  (sRet (eTup (aCons (eVar 3) (aCons (eTup (aCons (eFldX ["NotKept"] "promise" (eVar 3)) (aCons (eFldX ["NotKept"] "witness" (eVar 3)) aNil))) aNil))))) sNil)
  (sRet (eTup (aCons (eIf (tVal (eBin oEq (eVar 0) (eCon (.int 16)))) (eNew0 "NothingToUndo") (eNew0 "NothingToRedo")) (aCons (eTup aNil) aNil)))))))))

def s__law_pen_b1 : SF := (sSet 1 (eBin oMod (eBlt bInt (aCons (eBin oAdd (eBin oMul (eVar 1) (eCon (.int 179))) (eVar 2)) aNil)) (eCon (.int 1000000033))))
def s__law_pen : FF := fnF 1 3 (sSeq (sSet 1 (eCon (.int 0)))
  (sSeq (sFor (iSeq (eVar 0)) (gNm 2) s__law_pen_b1)
  (sRet (eDisp [((eCon (.str "cells")), (eBlt bListS (aCons (eVar 0) aNil))), ((eCon (.str "at")), (eCon (.int 0))), ((eCon (.str "digits")), (eCon (.int 0))), ((eCon (.str "count")), (eCon (.int 0))), ((eCon (.str "fold")), (eVar 1))]))))

def s__law_pick : FF := fnF 2 2 (sRet (eBin oIx (eVar 1) (eBlt s__law_draw (aCons (eVar 0) (aCons (eBlt bLen (aCons (eVar 1) aNil)) aNil)))))

def s__law_which : FF := fnF 1 2 (sSeq (sSet 1 (eLstS (aCons (eBlt (bIsx kt) (aCons (eVar 0) (aCons (eCon (.glo "BadName")) aNil))) (aCons (eBlt (bIsx kt) (aCons (eVar 0) (aCons (eCon (.glo "NoName")) aNil))) (aCons (eBlt (bIsx kt) (aCons (eVar 0) (aCons (eCon (.glo "TakenName")) aNil))) aNil)))))
  (sSeq (sSet 1 (eBin oAddS (eVar 1) (eLstS (aCons (eBlt (bIsx kt) (aCons (eVar 0) (aCons (eCon (.glo "BadKinds")) aNil))) (aCons (eBlt (bIsx kt) (aCons (eVar 0) (aCons (eCon (.glo "BadLog")) aNil))) (aCons (eBlt (bIsx kt) (aCons (eVar 0) (aCons (eCon (.glo "BadMachine")) aNil))) (aCons (eBlt (bIsx kt) (aCons (eVar 0) (aCons (eCon (.glo "BadWriter")) aNil))) aNil)))))))
  (sSeq (sSet 1 (eBin oAddS (eVar 1) (eLstS (aCons (eBlt (bIsx kt) (aCons (eVar 0) (aCons (eCon (.glo "BadPair")) aNil))) (aCons (eBlt (bIsx kt) (aCons (eVar 0) (aCons (eCon (.glo "BadLot")) aNil))) (aCons (eBlt (bIsx kt) (aCons (eVar 0) (aCons (eCon (.glo "BadJob")) aNil))) (aCons (eBlt (bIsx kt) (aCons (eVar 0) (aCons (eCon (.glo "BadAnswers")) aNil))) aNil)))))))
  (sSeq (sSet 1 (eBin oAddS (eVar 1) (eLstS (aCons (eBlt (bIsx kt) (aCons (eVar 0) (aCons (eCon (.glo "BadPaper")) aNil))) (aCons (eBlt (bIsx kt) (aCons (eVar 0) (aCons (eCon (.glo "BadEntry")) aNil))) aNil)))))
  (sSeq (sSet 1 (eBin oAddS (eVar 1) (eLstS (aCons (eBlt (bIsx kt) (aCons (eVar 0) (aCons (eCon (.glo "BadText")) aNil))) (aCons (eBlt (bIsx kt) (aCons (eVar 0) (aCons (eCon (.glo "BadNumber")) aNil))) (aCons (eBlt (bIsx kt) (aCons (eVar 0) (aCons (eCon (.glo "NotKept")) aNil))) aNil))))))
  (sRet (eBin oAddS (eVar 1) (eLstS (aCons (eBlt (bIsx kt) (aCons (eVar 0) (aCons (eCon (.glo "NothingToUndo")) aNil))) (aCons (eBlt (bIsx kt) (aCons (eVar 0) (aCons (eCon (.glo "NothingToRedo")) aNil))) aNil))))))))))

def s_law_e1 : EF := (eBin oEq (eVar 10) (eVar 3))
def s_law_e2 : EF := (eBlt bRepr (aCons (eSl (eTup (aCons (eVar 4) (aCons (eVar 5) aNil))) oNo (oSome (eVar 9))) aNil))
def s_law_b3 : SF := (sSeq (sAsg (eTup (aCons (eBlt s__law_pick (aCons (eVar 1) (aCons (eVar 2) aNil))) (aCons (eBlt s__law_pick (aCons (eVar 1) (aCons (eVar 2) aNil))) aNil))) (gTp 2 (gsCons (gNm 4) (gsCons (gNm 5) gsNil))))
  (sSeq (sSet 6 (eLc (iRange (aCons (eCon (.int 3)) aNil)) [9] (gNm 9) tYesF s_law_e2))
  (sSeq (sAsg (eBlt s__law_one (aCons (eVar 3) (aCons (eVar 4) (aCons (eVar 5) aNil)))) (gTp 2 (gsCons (gNm 7) (gsCons (gNm 8) gsNil))))
  (sSeq (sIf (tVal (eBin oNe (eBlt bRepr (aCons (eVar 8) aNil)) (eBin oIx (eVar 6) (eBlt bLen (aCons (eVar 8) aNil))))) (sRet (eCon (.bl false))) sNil)
  (sSeq (sIf (tOrF (tNotF (tVal (eBlt (bIsx kt) (aCons (eVar 7) (aCons (eCon (.glo "NoteError")) aNil))))) (tNotF (tVal (eBlt (bIsx kt) (aCons (eVar 7) (aCons (eCon (.ty "ValueError")) aNil)))))) (sRet (eCon (.bl false))) sNil)
  (sIf (tVal (eBin oNe (eBlt s__law_which (aCons (eVar 7) aNil)) (eLc (iRange (aCons (eCon (.int 18)) aNil)) [10] (gNm 10) tYesF s_law_e1))) (sRet (eCon (.bl false))) sNil))))))
def s_law : FF := fnF 1 11 (sSeq (sSet 1 (eBlt s__law_pen (aCons (eVar 0) aNil)))
  (sSeq (sSet 2 (eLst (aCons (eCon .non) (aCons (eCon (.bl true)) (aCons (eCon (.int 0)) (aCons (eBin oSub (eUn oNeg (eCon (.int 1))) (eBlt s__law_draw (aCons (eVar 1) (aCons (eCon (.int 9)) aNil)))) (aCons (eBin oAdd (eBin oPow (eCon (.int 10)) (eCon (.int 40))) (eBlt s__law_draw (aCons (eVar 1) (aCons (eCon (.int 99)) aNil)))) (aCons (eCon (.str "")) (aCons (eCon (.str "log")) (aCons (eTup (aCons (eCon (.int 1)) (aCons (eCon (.int 2)) aNil))) (aCons (eLstS (aCons (eCon (.int 3)) aNil)) (aCons (eTup (aCons (eCon (.str "b")) (aCons (eCon (.str "c")) aNil))) aNil))))))))))))
  (sSeq (sExpr (eMethL mAppend (eVar 2) (aCons (eTup (aCons (eTup (aCons (eCon (.int 0)) (aCons (eCon (.int 0)) aNil))) aNil)) aNil)))
  (sSeq (sFor (iRange (aCons (eCon (.int 18)) aNil)) (gNm 3) s_law_b3)
  (sRet (eCon (.bl true)))))))


structure Txt (P : Program) (w : World) (K : PySem.W.Frag) (mg : Str → Option Value) : Prop where
  d__law_draw : DefAt K mg "_law_draw" st__law_draw ["pen", "many"]
  d__law_single : DefAt K mg "_law_single" st__law_single ["kind", "a"]
  d__law_one : DefAt K mg "_law_one" st__law_one ["kind", "a", "b"]
  d__law_pen : DefAt K mg "_law_pen" st__law_pen ["script"]
  d__law_pick : DefAt K mg "_law_pick" st__law_pick ["pen", "some"]
  d__law_which : DefAt K mg "_law_which" st__law_which ["e"]
  d_law : DefAt K mg "law" st_law ["script"]
  c_NoteError : Cls0 K mg "NoteError"
  c_BadText : Cls2 K mg "BadText" sc_BadText "line" "column"
  c_BadNumber : Cls2 K mg "BadNumber" sc_BadNumber "what" "number"
  c_BadName : Cls1 K mg "BadName" sc_BadName "name"
  c_NoName : Cls1 K mg "NoName" sc_NoName "name"
  c_TakenName : Cls1 K mg "TakenName" sc_TakenName "name"
  c_BadKinds : Cls1 K mg "BadKinds" sc_BadKinds "kinds"
  c_BadLog : Cls1 K mg "BadLog" sc_BadLog "log"
  c_BadMachine : Cls1 K mg "BadMachine" sc_BadMachine "machine"
  c_BadWriter : Cls1 K mg "BadWriter" sc_BadWriter "writer"
  c_BadPair : Cls1 K mg "BadPair" sc_BadPair "pair"
  c_BadLot : Cls1 K mg "BadLot" sc_BadLot "lot"
  c_BadJob : Cls1 K mg "BadJob" sc_BadJob "job"
  c_BadAnswers : Cls1 K mg "BadAnswers" sc_BadAnswers "answers"
  c_BadPaper : Cls1 K mg "BadPaper" sc_BadPaper "paper"
  c_BadEntry : Cls1 K mg "BadEntry" sc_BadEntry "line"
  c_NotKept : Cls2 K mg "NotKept" sc_NotKept "promise" "witness"
  c_NothingToUndo : Cls0 K mg "NothingToUndo"
  c_NothingToRedo : Cls0 K mg "NothingToRedo"
  n_ValueError : mg "ValueError" = none
  n_int : mg "int" = none
  n_isinstance : mg "isinstance" = none
  n_len : mg "len" = none
  n_list : mg "list" = none
  n_range : mg "range" = none
  n_repr : mg "repr" = none
  kt : KOk K mg kt

theorem b__law_draw {K : PySem.W.Frag} {f : Addr} (fd : FuncData) (F : Fun K "_law_draw" "_law_draw" st__law_draw f fd) : Binds K fd ["pen", "many"] [] := F.binds (ps := ["pen", "many"]) fun _ _ _ _ _ _ us hl => match us, hl with | [_, _], _ => rfl

theorem b__law_single {K : PySem.W.Frag} {f : Addr} (fd : FuncData) (F : Fun K "_law_single" "_law_single" st__law_single f fd) : Binds K fd ["kind", "a"] [] := F.binds (ps := ["kind", "a"]) fun _ _ _ _ _ _ us hl => match us, hl with | [_, _], _ => rfl

theorem b__law_one {K : PySem.W.Frag} {f : Addr} (fd : FuncData) (F : Fun K "_law_one" "_law_one" st__law_one f fd) : Binds K fd ["kind", "a", "b"] [] := F.binds (ps := ["kind", "a", "b"]) fun _ _ _ _ _ _ us hl => match us, hl with | [_, _, _], _ => rfl

theorem b__law_pen {K : PySem.W.Frag} {f : Addr} (fd : FuncData) (F : Fun K "_law_pen" "_law_pen" st__law_pen f fd) : Binds K fd ["script"] [] := F.binds (ps := ["script"]) fun _ _ _ _ _ _ us hl => match us, hl with | [_], _ => rfl

theorem b__law_pick {K : PySem.W.Frag} {f : Addr} (fd : FuncData) (F : Fun K "_law_pick" "_law_pick" st__law_pick f fd) : Binds K fd ["pen", "some"] [] := F.binds (ps := ["pen", "some"]) fun _ _ _ _ _ _ us hl => match us, hl with | [_, _], _ => rfl

theorem b__law_which {K : PySem.W.Frag} {f : Addr} (fd : FuncData) (F : Fun K "_law_which" "_law_which" st__law_which f fd) : Binds K fd ["e"] [] := F.binds (ps := ["e"]) fun _ _ _ _ _ _ us hl => match us, hl with | [_], _ => rfl

theorem b_law {K : PySem.W.Frag} {f : Addr} (fd : FuncData) (F : Fun K "law" "law" st_law f fd) : Binds K fd ["script"] [] := F.binds (ps := ["script"]) fun _ _ _ _ _ _ us hl => match us, hl with | [_], _ => rfl

theorem b_BadText {K : PySem.W.Frag} {f : Addr} (fd : FuncData) (F : Fun K "__init__" ("BadText" ++ ".__init__") sc_BadText f fd) : Binds K fd ["self", "line", "column"] [] := F.binds (ps := ["self", "line", "column"]) fun _ _ _ _ _ _ us hl => match us, hl with | [_, _, _], _ => rfl

theorem b_BadNumber {K : PySem.W.Frag} {f : Addr} (fd : FuncData) (F : Fun K "__init__" ("BadNumber" ++ ".__init__") sc_BadNumber f fd) : Binds K fd ["self", "what", "number"] [] := F.binds (ps := ["self", "what", "number"]) fun _ _ _ _ _ _ us hl => match us, hl with | [_, _, _], _ => rfl

theorem b_BadName {K : PySem.W.Frag} {f : Addr} (fd : FuncData) (F : Fun K "__init__" ("BadName" ++ ".__init__") sc_BadName f fd) : Binds K fd ["self", "name"] [] := F.binds (ps := ["self", "name"]) fun _ _ _ _ _ _ us hl => match us, hl with | [_, _], _ => rfl

theorem b_NoName {K : PySem.W.Frag} {f : Addr} (fd : FuncData) (F : Fun K "__init__" ("NoName" ++ ".__init__") sc_NoName f fd) : Binds K fd ["self", "name"] [] := F.binds (ps := ["self", "name"]) fun _ _ _ _ _ _ us hl => match us, hl with | [_, _], _ => rfl

theorem b_TakenName {K : PySem.W.Frag} {f : Addr} (fd : FuncData) (F : Fun K "__init__" ("TakenName" ++ ".__init__") sc_TakenName f fd) : Binds K fd ["self", "name"] [] := F.binds (ps := ["self", "name"]) fun _ _ _ _ _ _ us hl => match us, hl with | [_, _], _ => rfl

theorem b_BadKinds {K : PySem.W.Frag} {f : Addr} (fd : FuncData) (F : Fun K "__init__" ("BadKinds" ++ ".__init__") sc_BadKinds f fd) : Binds K fd ["self", "kinds"] [] := F.binds (ps := ["self", "kinds"]) fun _ _ _ _ _ _ us hl => match us, hl with | [_, _], _ => rfl

theorem b_BadLog {K : PySem.W.Frag} {f : Addr} (fd : FuncData) (F : Fun K "__init__" ("BadLog" ++ ".__init__") sc_BadLog f fd) : Binds K fd ["self", "log"] [] := F.binds (ps := ["self", "log"]) fun _ _ _ _ _ _ us hl => match us, hl with | [_, _], _ => rfl

theorem b_BadMachine {K : PySem.W.Frag} {f : Addr} (fd : FuncData) (F : Fun K "__init__" ("BadMachine" ++ ".__init__") sc_BadMachine f fd) : Binds K fd ["self", "machine"] [] := F.binds (ps := ["self", "machine"]) fun _ _ _ _ _ _ us hl => match us, hl with | [_, _], _ => rfl

theorem b_BadWriter {K : PySem.W.Frag} {f : Addr} (fd : FuncData) (F : Fun K "__init__" ("BadWriter" ++ ".__init__") sc_BadWriter f fd) : Binds K fd ["self", "writer"] [] := F.binds (ps := ["self", "writer"]) fun _ _ _ _ _ _ us hl => match us, hl with | [_, _], _ => rfl

theorem b_BadPair {K : PySem.W.Frag} {f : Addr} (fd : FuncData) (F : Fun K "__init__" ("BadPair" ++ ".__init__") sc_BadPair f fd) : Binds K fd ["self", "pair"] [] := F.binds (ps := ["self", "pair"]) fun _ _ _ _ _ _ us hl => match us, hl with | [_, _], _ => rfl

theorem b_BadLot {K : PySem.W.Frag} {f : Addr} (fd : FuncData) (F : Fun K "__init__" ("BadLot" ++ ".__init__") sc_BadLot f fd) : Binds K fd ["self", "lot"] [] := F.binds (ps := ["self", "lot"]) fun _ _ _ _ _ _ us hl => match us, hl with | [_, _], _ => rfl

theorem b_BadJob {K : PySem.W.Frag} {f : Addr} (fd : FuncData) (F : Fun K "__init__" ("BadJob" ++ ".__init__") sc_BadJob f fd) : Binds K fd ["self", "job"] [] := F.binds (ps := ["self", "job"]) fun _ _ _ _ _ _ us hl => match us, hl with | [_, _], _ => rfl

theorem b_BadAnswers {K : PySem.W.Frag} {f : Addr} (fd : FuncData) (F : Fun K "__init__" ("BadAnswers" ++ ".__init__") sc_BadAnswers f fd) : Binds K fd ["self", "answers"] [] := F.binds (ps := ["self", "answers"]) fun _ _ _ _ _ _ us hl => match us, hl with | [_, _], _ => rfl

theorem b_BadPaper {K : PySem.W.Frag} {f : Addr} (fd : FuncData) (F : Fun K "__init__" ("BadPaper" ++ ".__init__") sc_BadPaper f fd) : Binds K fd ["self", "paper"] [] := F.binds (ps := ["self", "paper"]) fun _ _ _ _ _ _ us hl => match us, hl with | [_, _], _ => rfl

theorem b_BadEntry {K : PySem.W.Frag} {f : Addr} (fd : FuncData) (F : Fun K "__init__" ("BadEntry" ++ ".__init__") sc_BadEntry f fd) : Binds K fd ["self", "line"] [] := F.binds (ps := ["self", "line"]) fun _ _ _ _ _ _ us hl => match us, hl with | [_, _], _ => rfl

theorem b_NotKept {K : PySem.W.Frag} {f : Addr} (fd : FuncData) (F : Fun K "__init__" ("NotKept" ++ ".__init__") sc_NotKept f fd) : Binds K fd ["self", "promise", "witness"] [] := F.binds (ps := ["self", "promise", "witness"]) fun _ _ _ _ _ _ us hl => match us, hl with | [_, _, _], _ => rfl

section
variable {P : Program} {w : World} {K : PySem.W.Frag} {mg : Str → Option Value} {base : Heap}

theorem w__law_draw (T : Txt P w K mg) : ZD P w K mg base 1 "_law_draw" ["pen", "many"] s__law_draw := by
  refine zd_of T.d__law_draw n__law_draw fun f cdv A outer s H E hr hgd => ?_
  have hu : (A.deeper (envOfC "_law_draw" (defScope st__law_draw) s.heap.objs.size f cdv)).units + 64 < cLine := by have := hr.un; omega
  have hu1 : (A.deeper (envOfC "_law_draw" (defScope st__law_draw) s.heap.objs.size f cdv)).units + 65 < cLine := by have := hr.un; omega
  exact (zs_cons (z_asg (z_bin opr_add op2_add (z_ix hu1 (zv 0) z_str) z_int) (zg_sub (W := WN) hu (zv 0) z_str))
    (zs_cons (z_sif (zt_w (zw_and (zt_cmp (op_eqD hu) op2_eq (z_ix hu1 (zv 0) z_str) z_int rfl) (zw_and1 (zt_cmp (opr_lt hu) op2_ord (z_ix hu1 (zv 0) z_str) (z_blt cr_len opl_len (by rfl) T.n_len rfl (za_cons (z_ix hu1 (zv 0) z_str) za_nil)) rfl)))) (zs_cons (z_set (i := 3) n__law_draw.nd rfl (by first | exact .inl rfl | exact .inr rfl) (z_ix hu1 (z_ix hu1 (zv 0) z_str) (z_ix hu1 (zv 0) z_str)))
    (zs_cons (z_asg (z_bin opr_add op2_add (z_ix hu1 (zv 0) z_str) z_int) (zg_sub (W := WN) hu (zv 0) z_str))
    (zs_one (z_sif (zt_cmp (opr_ge hu) op2_ord (zv 3) (z_bin op_pow op2_pow z_int z_int) rfl) (zs_one (z_asg (z_bin op_sub op2_sub (zv 3) (z_bin op_pow op2_pow z_int z_int)) (zg_sub (W := WN) hu (zv 0) z_str))) (zs_one (z_asg (z_bin op_mod op2_mod (z_bty call_int1 opl_int (by rfl) T.n_int rfl (za_cons (z_bin opr_add op2_add (z_bin opr_mul op2_mul (z_ix hu1 (zv 0) z_str) z_int) (zv 3)) za_nil)) z_int) (zg_sub (W := WN) hu (zv 0) z_str))))))) zs_nil)
    (zs_cons (z_sif (zt_cmp (opr_gt hu) op2_ord (z_ix hu1 (zv 0) z_str) z_int rfl) (zs_cons (z_set (i := 4) n__law_draw.nd rfl (by first | exact .inl rfl | exact .inr rfl) (z_bin op_mod op2_mod (z_bty call_int1 opl_int (by rfl) T.n_int rfl (za_cons (z_ix hu1 (zv 0) z_str) za_nil)) (zv 1)))
    (zs_cons (z_asg (z_bin op_fdiv op2_fdiv (z_ix hu1 (zv 0) z_str) (zv 1)) (zg_sub (W := WN) hu (zv 0) z_str))
    (zs_one (z_ret (zv 4))))) zs_nil)
    (zs_cons (z_set (i := 2) n__law_draw.nd rfl (by first | exact .inl rfl | exact .inr rfl) (z_bin opr_add op2_add (z_bin opr_add op2_add (z_ix hu1 (zv 0) z_str) (z_bin opr_mul op2_mul (z_ix hu1 (zv 0) z_str) z_int)) z_int))
    (zs_one (z_ret (z_bin op_mod op2_mod (z_bin op_fdiv op2_fdiv (z_bty call_int1 opl_int (by rfl) T.n_int rfl (za_cons (z_bin op_mod op2_mod (z_bin op_pow op2_pow (zv 2) z_int) z_int) za_nil)) z_int) (zv 1))))))))

theorem w__law_single (T : Txt P w K mg) : ZD P w K mg base 3 "_law_single" ["kind", "a"] s__law_single := by
  refine zd_of T.d__law_single n__law_single fun f cdv A outer s H E hr hgd => ?_
  have hu : (A.deeper (envOfC "_law_single" (defScope st__law_single) s.heap.objs.size f cdv)).units + 64 < cLine := by have := hr.un; omega
  have hu1 : (A.deeper (envOfC "_law_single" (defScope st__law_single) s.heap.objs.size f cdv)).units + 65 < cLine := by have := hr.un; omega
  exact (zs_cons (z_sif (zt_cmp (op_eqD hu) op2_eq (zv 0) z_int rfl) (zs_cons (z_set (i := 2) n__law_single.nd rfl (by first | exact .inl rfl | exact .inr rfl) (z_mk1 T.c_BadKinds i_BadKinds (hr.mono (by decide)) (by rfl) (zv 1)))
    (zs_one (z_ret (z_tup (za_cons (zv 2) (za_cons (z_tup (za_cons (z_fx (cs := ["BadKinds"]) (zv 2) (fun C hC => by rw [List.mem_singleton.mp hC]; exact T.c_BadKinds.fld)) za_nil)) za_nil)))))) zs_nil)
    (zs_cons (z_sif (zt_cmp (op_eqD hu) op2_eq (zv 0) z_int rfl) (zs_cons (z_set (i := 2) n__law_single.nd rfl (by first | exact .inl rfl | exact .inr rfl) (z_mk1 T.c_BadLog i_BadLog (hr.mono (by decide)) (by rfl) (zv 1)))
    (zs_one (z_ret (z_tup (za_cons (zv 2) (za_cons (z_tup (za_cons (z_fx (cs := ["BadLog"]) (zv 2) (fun C hC => by rw [List.mem_singleton.mp hC]; exact T.c_BadLog.fld)) za_nil)) za_nil)))))) zs_nil)
    (zs_cons (z_sif (zt_cmp (op_eqD hu) op2_eq (zv 0) z_int rfl) (zs_cons (z_set (i := 2) n__law_single.nd rfl (by first | exact .inl rfl | exact .inr rfl) (z_mk1 T.c_BadMachine i_BadMachine (hr.mono (by decide)) (by rfl) (zv 1)))
    (zs_one (z_ret (z_tup (za_cons (zv 2) (za_cons (z_tup (za_cons (z_fx (cs := ["BadMachine"]) (zv 2) (fun C hC => by rw [List.mem_singleton.mp hC]; exact T.c_BadMachine.fld)) za_nil)) za_nil)))))) zs_nil)
    (zs_cons (z_sif (zt_cmp (op_eqD hu) op2_eq (zv 0) z_int rfl) (zs_cons (z_set (i := 2) n__law_single.nd rfl (by first | exact .inl rfl | exact .inr rfl) (z_mk1 T.c_BadWriter i_BadWriter (hr.mono (by decide)) (by rfl) (zv 1)))
    (zs_one (z_ret (z_tup (za_cons (zv 2) (za_cons (z_tup (za_cons (z_fx (cs := ["BadWriter"]) (zv 2) (fun C hC => by rw [List.mem_singleton.mp hC]; exact T.c_BadWriter.fld)) za_nil)) za_nil)))))) zs_nil)
    (zs_cons (z_sif (zt_cmp (op_eqD hu) op2_eq (zv 0) z_int rfl) (zs_cons (z_set (i := 2) n__law_single.nd rfl (by first | exact .inl rfl | exact .inr rfl) (z_mk1 T.c_BadPair i_BadPair (hr.mono (by decide)) (by rfl) (zv 1)))
    (zs_one (z_ret (z_tup (za_cons (zv 2) (za_cons (z_tup (za_cons (z_fx (cs := ["BadPair"]) (zv 2) (fun C hC => by rw [List.mem_singleton.mp hC]; exact T.c_BadPair.fld)) za_nil)) za_nil)))))) zs_nil)
    (zs_cons (z_sif (zt_cmp (op_eqD hu) op2_eq (zv 0) z_int rfl) (zs_cons (z_set (i := 2) n__law_single.nd rfl (by first | exact .inl rfl | exact .inr rfl) (z_mk1 T.c_BadLot i_BadLot (hr.mono (by decide)) (by rfl) (zv 1)))
    (zs_one (z_ret (z_tup (za_cons (zv 2) (za_cons (z_tup (za_cons (z_fx (cs := ["BadLot"]) (zv 2) (fun C hC => by rw [List.mem_singleton.mp hC]; exact T.c_BadLot.fld)) za_nil)) za_nil)))))) zs_nil)
    (zs_cons (z_sif (zt_cmp (op_eqD hu) op2_eq (zv 0) z_int rfl) (zs_cons (z_set (i := 2) n__law_single.nd rfl (by first | exact .inl rfl | exact .inr rfl) (z_mk1 T.c_BadJob i_BadJob (hr.mono (by decide)) (by rfl) (zv 1)))
    (zs_one (z_ret (z_tup (za_cons (zv 2) (za_cons (z_tup (za_cons (z_fx (cs := ["BadJob"]) (zv 2) (fun C hC => by rw [List.mem_singleton.mp hC]; exact T.c_BadJob.fld)) za_nil)) za_nil)))))) zs_nil)
    (zs_cons (z_sif (zt_cmp (op_eqD hu) op2_eq (zv 0) z_int rfl) (zs_cons (z_set (i := 2) n__law_single.nd rfl (by first | exact .inl rfl | exact .inr rfl) (z_mk1 T.c_BadAnswers i_BadAnswers (hr.mono (by decide)) (by rfl) (zv 1)))
    (zs_one (z_ret (z_tup (za_cons (zv 2) (za_cons (z_tup (za_cons (z_fx (cs := ["BadAnswers"]) (zv 2) (fun C hC => by rw [List.mem_singleton.mp hC]; exact T.c_BadAnswers.fld)) za_nil)) za_nil)))))) zs_nil)
    (zs_cons (z_sif (zt_cmp (op_eqD hu) op2_eq (zv 0) z_int rfl) (zs_cons (z_set (i := 2) n__law_single.nd rfl (by first | exact .inl rfl | exact .inr rfl) (z_mk1 T.c_BadPaper i_BadPaper (hr.mono (by decide)) (by rfl) (zv 1)))
    (zs_one (z_ret (z_tup (za_cons (zv 2) (za_cons (z_tup (za_cons (z_fx (cs := ["BadPaper"]) (zv 2) (fun C hC => by rw [List.mem_singleton.mp hC]; exact T.c_BadPaper.fld)) za_nil)) za_nil)))))) zs_nil)
    (zs_cons (z_set (i := 2) n__law_single.nd rfl (by first | exact .inl rfl | exact .inr rfl) (z_mk1 T.c_BadEntry i_BadEntry (hr.mono (by decide)) (by rfl) (zv 1)))
    (zs_one (z_ret (z_tup (za_cons (zv 2) (za_cons (z_tup (za_cons (z_fx (cs := ["BadText", "BadEntry"]) (zv 2) (fun C hC => by
      simp only [List.mem_cons, List.not_mem_nil, or_false] at hC
      rcases hC with rfl | rfl
      · exact T.c_BadText.fld1
      · exact T.c_BadEntry.fld)) za_nil)) za_nil)))))))))))))))

theorem w__law_one (T : Txt P w K mg) : ZD P w K mg base 4 "_law_one" ["kind", "a", "b"] s__law_one := by
  refine zd_of T.d__law_one n__law_one fun f cdv A outer s H E hr hgd => ?_
  have hu : (A.deeper (envOfC "_law_one" (defScope st__law_one) s.heap.objs.size f cdv)).units + 64 < cLine := by have := hr.un; omega
  have hu1 : (A.deeper (envOfC "_law_one" (defScope st__law_one) s.heap.objs.size f cdv)).units + 65 < cLine := by have := hr.un; omega
  exact (zs_cons (z_sif (zt_cmp (opr_lt hu) op2_ord (zv 0) z_int rfl) (zs_cons (z_set (i := 3) n__law_one.nd rfl (by first | exact .inl rfl | exact .inr rfl) (z_ix hu1 (z_lstS (za_cons (z_mk1 T.c_BadName i_BadName (hr.mono (by decide)) (by rfl) (zv 1)) (za_cons (z_mk1 T.c_NoName i_NoName (hr.mono (by decide)) (by rfl) (zv 1)) (za_cons (z_mk1 T.c_TakenName i_TakenName (hr.mono (by decide)) (by rfl) (zv 1)) za_nil)))) (zv 0)))
    (zs_one (z_ret (z_tup (za_cons (zv 3) (za_cons (z_tup (za_cons (z_fx (cs := ["BadName", "NoName", "TakenName"]) (zv 3) (fun C hC => by
      simp only [List.mem_cons, List.not_mem_nil, or_false] at hC
      rcases hC with rfl | rfl | rfl
      · exact T.c_BadName.fld
      · exact T.c_NoName.fld
      · exact T.c_TakenName.fld)) za_nil)) za_nil)))))) zs_nil)
    (zs_cons (z_sif (zt_cmp (opr_lt hu) op2_ord (zv 0) z_int rfl) (zs_one (z_ret (z_fn (w__law_single T) (fun _ _ h => fnF_len h) (hr.mono (by decide)) hgd (by rfl) takesF (za_cons (zv 0) (za_cons (zv 1) za_nil))))) zs_nil)
    (zs_cons (z_sif (zt_cmp (op_eqD hu) op2_eq (zv 0) z_int rfl) (zs_cons (z_set (i := 3) n__law_one.nd rfl (by first | exact .inl rfl | exact .inr rfl) (z_mk2 T.c_BadText i_BadText (hr.mono (by decide)) (by rfl) (zv 1) (zv 2)))
    (zs_one (z_ret (z_tup (za_cons (zv 3) (za_cons (z_tup (za_cons (z_fx (cs := ["BadText", "BadEntry"]) (zv 3) (fun C hC => by
      simp only [List.mem_cons, List.not_mem_nil, or_false] at hC
      rcases hC with rfl | rfl
      · exact T.c_BadText.fld1
      · exact T.c_BadEntry.fld)) (za_cons (z_fx (cs := ["BadText"]) (zv 3) (fun C hC => by rw [List.mem_singleton.mp hC]; exact T.c_BadText.fld2)) za_nil))) za_nil)))))) zs_nil)
    (zs_cons (z_sif (zt_cmp (op_eqD hu) op2_eq (zv 0) z_int rfl) (zs_cons (z_set (i := 3) n__law_one.nd rfl (by first | exact .inl rfl | exact .inr rfl) (z_mk2 T.c_BadNumber i_BadNumber (hr.mono (by decide)) (by rfl) (zv 1) (zv 2)))
    (zs_one (z_ret (z_tup (za_cons (zv 3) (za_cons (z_tup (za_cons (z_fx (cs := ["BadNumber"]) (zv 3) (fun C hC => by rw [List.mem_singleton.mp hC]; exact T.c_BadNumber.fld1)) (za_cons (z_fx (cs := ["BadNumber"]) (zv 3) (fun C hC => by rw [List.mem_singleton.mp hC]; exact T.c_BadNumber.fld2)) za_nil))) za_nil)))))) zs_nil)
    (zs_cons (z_sif (zt_cmp (op_eqD hu) op2_eq (zv 0) z_int rfl) (zs_cons (z_set (i := 3) n__law_one.nd rfl (by first | exact .inl rfl | exact .inr rfl) (z_mk2 T.c_NotKept i_NotKept (hr.mono (by decide)) (by rfl) (zv 1) (zv 2)))
    (zs_one (z_ret (z_tup (za_cons (zv 3) (za_cons (z_tup (za_cons (z_fx (cs := ["NotKept"]) (zv 3) (fun C hC => by rw [List.mem_singleton.mp hC]; exact T.c_NotKept.fld1)) (za_cons (z_fx (cs := ["NotKept"]) (zv 3) (fun C hC => by rw [List.mem_singleton.mp hC]; exact T.c_NotKept.fld2)) za_nil))) za_nil)))))) zs_nil)
    (zs_one (z_ret (z_tup (za_cons (z_if (zt_cmp (op_eqD hu) op2_eq (zv 0) z_int rfl) (z_mk0 T.c_NothingToUndo (by rfl)) (z_mk0 T.c_NothingToRedo (by rfl))) (za_cons (z_tup za_nil) za_nil))))))))))

theorem w__law_pen (T : Txt P w K mg) : ZD P w K mg base 1 "_law_pen" ["script"] s__law_pen := by
  refine zd_of T.d__law_pen n__law_pen fun f cdv A outer s H E hr hgd => ?_
  have hu : (A.deeper (envOfC "_law_pen" (defScope st__law_pen) s.heap.objs.size f cdv)).units + 64 < cLine := by have := hr.un; omega
  have hu1 : (A.deeper (envOfC "_law_pen" (defScope st__law_pen) s.heap.objs.size f cdv)).units + 65 < cLine := by have := hr.un; omega
  exact (zs_cons (z_set (i := 1) n__law_pen.nd rfl (by first | exact .inl rfl | exact .inr rfl) z_int)
    (zs_cons (z_for passF rfl (zi_seq (zv 0)) (zg_name (i := 2) n__law_pen.nd rfl (by first | exact .inl rfl | exact .inr rfl)) (zs_one (z_set (i := 1) n__law_pen.nd rfl (by first | exact .inl rfl | exact .inr rfl) (z_bin op_mod op2_mod (z_bty call_int1 opl_int (by rfl) T.n_int rfl (za_cons (z_bin opr_add op2_add (z_bin opr_mul op2_mul (zv 1) z_int) (zv 2)) za_nil)) z_int))))
    (zs_one (z_ret (z_disp (zps_cons z_str (z_bty call_list_of opl_listS (by rfl) T.n_list rfl (za_cons (zv 0) za_nil)) (zps_cons z_str z_int (zps_cons z_str z_int (zps_cons z_str z_int (zps_cons z_str (zv 1) zps_nil))))))))))

theorem w__law_pick (T : Txt P w K mg) : ZD P w K mg base 2 "_law_pick" ["pen", "some"] s__law_pick := by
  refine zd_of T.d__law_pick n__law_pick fun f cdv A outer s H E hr hgd => ?_
  have hu : (A.deeper (envOfC "_law_pick" (defScope st__law_pick) s.heap.objs.size f cdv)).units + 64 < cLine := by have := hr.un; omega
  have hu1 : (A.deeper (envOfC "_law_pick" (defScope st__law_pick) s.heap.objs.size f cdv)).units + 65 < cLine := by have := hr.un; omega
  exact (zs_one (z_ret (z_ix hu1 (zv 1) (z_fn (w__law_draw T) (fun _ _ h => fnF_len h) (hr.mono (by decide)) hgd (by rfl) takesF (za_cons (zv 0) (za_cons (z_blt cr_len opl_len (by rfl) T.n_len rfl (za_cons (zv 1) za_nil)) za_nil))))))

theorem w__law_which (T : Txt P w K mg) : ZD P w K mg base 1 "_law_which" ["e"] s__law_which := by
  refine zd_of T.d__law_which n__law_which fun f cdv A outer s H E hr hgd => ?_
  have hu : (A.deeper (envOfC "_law_which" (defScope st__law_which) s.heap.objs.size f cdv)).units + 64 < cLine := by have := hr.un; omega
  have hu1 : (A.deeper (envOfC "_law_which" (defScope st__law_which) s.heap.objs.size f cdv)).units + 65 < cLine := by have := hr.un; omega
  exact (zs_cons (z_set (i := 1) n__law_which.nd rfl (by first | exact .inl rfl | exact .inr rfl) (z_lstS (za_cons (z_blt call_isx (opl_isx T.kt) (by rfl) T.n_isinstance rfl (za_cons (zv 0) (za_cons (z_gloC (by rfl) T.c_BadName.mg) za_nil))) (za_cons (z_blt call_isx (opl_isx T.kt) (by rfl) T.n_isinstance rfl (za_cons (zv 0) (za_cons (z_gloC (by rfl) T.c_NoName.mg) za_nil))) (za_cons (z_blt call_isx (opl_isx T.kt) (by rfl) T.n_isinstance rfl (za_cons (zv 0) (za_cons (z_gloC (by rfl) T.c_TakenName.mg) za_nil))) za_nil)))))
    (zs_cons (z_set (i := 1) n__law_which.nd rfl (by first | exact .inl rfl | exact .inr rfl) (z_bin opr_add op2_addS (zv 1) (z_lstS (za_cons (z_blt call_isx (opl_isx T.kt) (by rfl) T.n_isinstance rfl (za_cons (zv 0) (za_cons (z_gloC (by rfl) T.c_BadKinds.mg) za_nil))) (za_cons (z_blt call_isx (opl_isx T.kt) (by rfl) T.n_isinstance rfl (za_cons (zv 0) (za_cons (z_gloC (by rfl) T.c_BadLog.mg) za_nil))) (za_cons (z_blt call_isx (opl_isx T.kt) (by rfl) T.n_isinstance rfl (za_cons (zv 0) (za_cons (z_gloC (by rfl) T.c_BadMachine.mg) za_nil))) (za_cons (z_blt call_isx (opl_isx T.kt) (by rfl) T.n_isinstance rfl (za_cons (zv 0) (za_cons (z_gloC (by rfl) T.c_BadWriter.mg) za_nil))) za_nil)))))))
    (zs_cons (z_set (i := 1) n__law_which.nd rfl (by first | exact .inl rfl | exact .inr rfl) (z_bin opr_add op2_addS (zv 1) (z_lstS (za_cons (z_blt call_isx (opl_isx T.kt) (by rfl) T.n_isinstance rfl (za_cons (zv 0) (za_cons (z_gloC (by rfl) T.c_BadPair.mg) za_nil))) (za_cons (z_blt call_isx (opl_isx T.kt) (by rfl) T.n_isinstance rfl (za_cons (zv 0) (za_cons (z_gloC (by rfl) T.c_BadLot.mg) za_nil))) (za_cons (z_blt call_isx (opl_isx T.kt) (by rfl) T.n_isinstance rfl (za_cons (zv 0) (za_cons (z_gloC (by rfl) T.c_BadJob.mg) za_nil))) (za_cons (z_blt call_isx (opl_isx T.kt) (by rfl) T.n_isinstance rfl (za_cons (zv 0) (za_cons (z_gloC (by rfl) T.c_BadAnswers.mg) za_nil))) za_nil)))))))
    (zs_cons (z_set (i := 1) n__law_which.nd rfl (by first | exact .inl rfl | exact .inr rfl) (z_bin opr_add op2_addS (zv 1) (z_lstS (za_cons (z_blt call_isx (opl_isx T.kt) (by rfl) T.n_isinstance rfl (za_cons (zv 0) (za_cons (z_gloC (by rfl) T.c_BadPaper.mg) za_nil))) (za_cons (z_blt call_isx (opl_isx T.kt) (by rfl) T.n_isinstance rfl (za_cons (zv 0) (za_cons (z_gloC (by rfl) T.c_BadEntry.mg) za_nil))) za_nil)))))
    (zs_cons (z_set (i := 1) n__law_which.nd rfl (by first | exact .inl rfl | exact .inr rfl) (z_bin opr_add op2_addS (zv 1) (z_lstS (za_cons (z_blt call_isx (opl_isx T.kt) (by rfl) T.n_isinstance rfl (za_cons (zv 0) (za_cons (z_gloC (by rfl) T.c_BadText.mg) za_nil))) (za_cons (z_blt call_isx (opl_isx T.kt) (by rfl) T.n_isinstance rfl (za_cons (zv 0) (za_cons (z_gloC (by rfl) T.c_BadNumber.mg) za_nil))) (za_cons (z_blt call_isx (opl_isx T.kt) (by rfl) T.n_isinstance rfl (za_cons (zv 0) (za_cons (z_gloC (by rfl) T.c_NotKept.mg) za_nil))) za_nil))))))
    (zs_one (z_ret (z_bin opr_add op2_addS (zv 1) (z_lstS (za_cons (z_blt call_isx (opl_isx T.kt) (by rfl) T.n_isinstance rfl (za_cons (zv 0) (za_cons (z_gloC (by rfl) T.c_NothingToUndo.mg) za_nil))) (za_cons (z_blt call_isx (opl_isx T.kt) (by rfl) T.n_isinstance rfl (za_cons (zv 0) (za_cons (z_gloC (by rfl) T.c_NothingToRedo.mg) za_nil))) za_nil)))))))))))

theorem wl_law (T : Txt P w K mg) {f : Addr} {fd : FuncData} (F : Fun K "law" "law" st_law f fd) : ZF P w K mg base 5 f fd ["script"] s_law := by
  refine zf_of F n_law fun cdv A outer s H E hr hgd => ?_
  have hu : (A.deeper (envOfC "law" (defScope st_law) s.heap.objs.size f cdv)).units + 64 < cLine := by have := hr.un; omega
  have hu1 : (A.deeper (envOfC "law" (defScope st_law) s.heap.objs.size f cdv)).units + 65 < cLine := by have := hr.un; omega
  exact (zs_cons (z_set (i := 1) n_law.nd rfl (by first | exact .inl rfl | exact .inr rfl) (z_fn (w__law_pen T) (fun _ _ h => fnF_len h) (hr.mono (by decide)) hgd (by rfl) takesF (za_cons (zv 0) za_nil)))
    (zs_cons (z_set (i := 2) n_law.nd rfl (by first | exact .inl rfl | exact .inr rfl) (z_lst (za_cons z_non (za_cons z_bl (za_cons z_int (za_cons (z_bin op_sub op2_sub (z_neg z_int) (z_fn (w__law_draw T) (fun _ _ h => fnF_len h) (hr.mono (by decide)) hgd (by rfl) takesF (za_cons (zv 1) (za_cons z_int za_nil)))) (za_cons (z_bin opr_add op2_add (z_bin op_pow op2_pow z_int z_int) (z_fn (w__law_draw T) (fun _ _ h => fnF_len h) (hr.mono (by decide)) hgd (by rfl) takesF (za_cons (zv 1) (za_cons z_int za_nil)))) (za_cons z_str (za_cons z_str (za_cons (z_tup (za_cons z_int (za_cons z_int za_nil))) (za_cons (z_lstS (za_cons z_int za_nil)) (za_cons (z_tup (za_cons z_str (za_cons z_str za_nil))) za_nil))))))))))))
    (zs_cons (z_expr (z_append (zv 2) (z_tup (za_cons (z_tup (za_cons z_int (za_cons z_int za_nil))) za_nil))))
    (zs_cons (z_for passF rfl (zi_range1 (by rfl) T.n_range z_int) (zg_name (i := 3) n_law.nd rfl (by first | exact .inl rfl | exact .inr rfl)) (zs_cons (z_asg (z_tup (za_cons (z_fn (w__law_pick T) (fun _ _ h => fnF_len h) (hr.mono (by decide)) hgd (by rfl) takesF (za_cons (zv 1) (za_cons (zv 2) za_nil))) (za_cons (z_fn (w__law_pick T) (fun _ _ h => fnF_len h) (hr.mono (by decide)) hgd (by rfl) takesF (za_cons (zv 1) (za_cons (zv 2) za_nil))) za_nil))) (zg_tup rfl (zgs_cons (zg_name (i := 4) n_law.nd rfl (by first | exact .inl rfl | exact .inr rfl)) (zgs_cons (zg_name (i := 5) n_law.nd rfl (by first | exact .inl rfl | exact .inr rfl)) zgs_nil))))
    (zs_cons (by first | exact z_set (i := 6) n_law.nd rfl (by first | exact .inl rfl | exact .inr rfl) (z_lc (own := [("many", 9)]) rfl n_law.nd (zi_range1 (by rfl) T.n_range z_int) (by show BlkOk n_law_N (defScope st_law) _ [("many", 9)]; exact blkOk rfl (by decide +kernel) (by decide +kernel) (by decide +kernel) (by decide +kernel)) (fun _ _ _ _ _ => (zgo_name (i := 9) n_law.nd rfl (by first | exact .inl rfl | exact .inr rfl))) (fun _ _ _ _ _ => zts_nil) (fun _ _ _ _ _ => (z_blt (cr_repr hu hgd) opl_repr (by rfl) T.n_repr rfl (za_cons (z_slice (z_tup (za_cons (zv 4) (za_cons (zv 5) za_nil))) zo_none (zo_some (zv 9))) za_nil)))) | exact z_setLc (i := 6) (own := [("many", 9)]) rfl n_law.nd rfl rfl (by rfl) (zi_range1 (by rfl) T.n_range z_int) (by show BlkOk n_law_N (defScope st_law) _ [("many", 9)]; exact blkOk rfl (by decide +kernel) (by decide +kernel) (by decide +kernel) (by decide +kernel)) (fun _ _ _ _ _ => (zgo_name (i := 9) n_law.nd rfl (by first | exact .inl rfl | exact .inr rfl))) (fun _ _ _ _ _ => zts_nil) (fun _ _ _ _ _ => (z_blt (cr_repr hu hgd) opl_repr (by rfl) T.n_repr rfl (za_cons (z_slice (z_tup (za_cons (zv 4) (za_cons (zv 5) za_nil))) zo_none (zo_some (zv 9))) za_nil))))
    (zs_cons (z_asg (z_fn (w__law_one T) (fun _ _ h => fnF_len h) (hr.mono (by decide)) hgd (by rfl) takesF (za_cons (zv 3) (za_cons (zv 4) (za_cons (zv 5) za_nil)))) (zg_tup rfl (zgs_cons (zg_name (i := 7) n_law.nd rfl (by first | exact .inl rfl | exact .inr rfl)) (zgs_cons (zg_name (i := 8) n_law.nd rfl (by first | exact .inl rfl | exact .inr rfl)) zgs_nil))))
    (zs_cons (z_sif (zt_cmp (op_neD hu) op2_ne (z_blt (cr_repr hu hgd) opl_repr (by rfl) T.n_repr rfl (za_cons (zv 8) za_nil)) (z_ix hu1 (zv 6) (z_blt cr_len opl_len (by rfl) T.n_len rfl (za_cons (zv 8) za_nil))) rfl) (zs_one (z_ret z_bl)) zs_nil)
    (zs_cons (z_sif (zt_w (zw_or (zt_not (zt_val (z_blt call_isx (opl_isx T.kt) (by rfl) T.n_isinstance rfl (za_cons (zv 7) (za_cons (z_gloC (by rfl) T.c_NoteError.mg) za_nil))))) (zw_or1 (zt_not (zt_val (z_blt call_isx (opl_isx T.kt) (by rfl) T.n_isinstance rfl (za_cons (zv 7) (za_cons (z_ty (by rfl) T.n_ValueError rfl) za_nil)))))))) (zs_one (z_ret z_bl)) zs_nil)
    (zs_one (z_sif (zt_cmp (op_neD hu) op2_ne (z_fn (w__law_which T) (fun _ _ h => fnF_len h) (hr.mono (by decide)) hgd (by rfl) takesF (za_cons (zv 7) za_nil)) (z_lc (own := [("k", 10)]) rfl n_law.nd (zi_range1 (by rfl) T.n_range z_int) (by show BlkOk n_law_N (defScope st_law) _ [("k", 10)]; exact blkOk rfl (by decide +kernel) (by decide +kernel) (by decide +kernel) (by decide +kernel)) (fun _ _ _ _ _ => (zgo_name (i := 10) n_law.nd rfl (by first | exact .inl rfl | exact .inr rfl))) (fun _ _ _ _ _ => zts_nil) (fun _ _ _ _ _ => (z_cmp (op_eqD hu) op2_eq (zv 10) (zv 3) rfl))) rfl) (zs_one (z_ret z_bl)) zs_nil))))))))
    (zs_one (z_ret z_bl))))))

end


end K00

namespace Zm
open PySem PySem.Spec L2 Z
abbrev penC (cs : List D) (a d k f : Int) : Cell := .dic [(.str "cells", .sl cs), (.str "at", .int a), (.str "digits", .int d), (.str "count", .int k), (.str "fold", .int f)]
theorem ix_dic {m : M} {n : Nat} {kvs : List (D × D)} {y d : D} (h : m[n]? = some (.dic kvs)) (hf : keyFits kvs y = true) (hv : valD kvs y = some d) : oIx (.ref n) y m = .ok d m := by
  simp [oIx, h, hf, hv]
theorem ix_lst {m : M} {n : Nat} {xs : List D} {i : Int} {d : D} (h : m[n]? = some (.lst xs)) (hv : atD xs i = some d) : oIx (.ref n) (.int i) m = .ok d m := by
  simp [oIx, h, hv]
theorem ix_sl {m : M} {xs : List D} {i : Int} {d : D} (hv : atD xs i = some d) : oIx (.sl xs) (.int i) m = .ok d m := by
  simp [oIx, hv]
theorem st_dic {m : M} {n : Nat} {kvs : List (D × D)} {y v : D} (h : m[n]? = some (.dic kvs)) (hf : keyFits kvs y = true) (hl : kvs.length < line) : oSet (.ref n) y v m = some (m.set n (.dic (putD kvs y v))) := by
  simp [oSet, h, hf, hl]
section
variable {m : M} {p : Nat} {cs : List D} {a d k f : Int} (hp : p < m.length)
include hp
theorem pen_at {c : Cell} : (m.set p c)[p]? = some c := List.getElem?_set_self hp
theorem ix_cells : oIx (.ref p) (.str "cells") (m.set p (penC cs a d k f)) = .ok (.sl cs) (m.set p (penC cs a d k f)) := ix_dic (pen_at hp) rfl rfl
theorem ix_at : oIx (.ref p) (.str "at") (m.set p (penC cs a d k f)) = .ok (.int a) (m.set p (penC cs a d k f)) := ix_dic (pen_at hp) rfl rfl
theorem ix_digits : oIx (.ref p) (.str "digits") (m.set p (penC cs a d k f)) = .ok (.int d) (m.set p (penC cs a d k f)) := ix_dic (pen_at hp) rfl rfl
theorem ix_count : oIx (.ref p) (.str "count") (m.set p (penC cs a d k f)) = .ok (.int k) (m.set p (penC cs a d k f)) := ix_dic (pen_at hp) rfl rfl
theorem ix_fold : oIx (.ref p) (.str "fold") (m.set p (penC cs a d k f)) = .ok (.int f) (m.set p (penC cs a d k f)) := ix_dic (pen_at hp) rfl rfl
theorem set_at {v : Int} : oSet (.ref p) (.str "at") (.int v) (m.set p (penC cs a d k f)) = some (m.set p (penC cs v d k f)) := by
  rw [st_dic (pen_at hp) rfl (by show 5 < 16777216; decide), List.set_set]
  rfl
theorem set_digits {v : Int} : oSet (.ref p) (.str "digits") (.int v) (m.set p (penC cs a d k f)) = some (m.set p (penC cs a v k f)) := by
  rw [st_dic (pen_at hp) rfl (by show 5 < 16777216; decide), List.set_set]
  rfl
theorem set_count {v : Int} : oSet (.ref p) (.str "count") (.int v) (m.set p (penC cs a d k f)) = some (m.set p (penC cs a d v f)) := by
  rw [st_dic (pen_at hp) rfl (by show 5 < 16777216; decide), List.set_set]
  rfl
theorem set_fold {v : Int} : oSet (.ref p) (.str "fold") (.int v) (m.set p (penC cs a d k f)) = some (m.set p (penC cs a d k v)) := by
  rw [st_dic (pen_at hp) rfl (by show 5 < 16777216; decide), List.set_set]
  rfl
end
theorem eq_int {a b : Int} {m : M} : oEq (.int a) (.int b) m = .ok (.bl (decide (a = b))) m := by
  show (if (SeqAt.shaped (.int a) && SeqAt.shaped (.int b)) = true then R.ok (D.bl (PyData.eqv (.int a) (.int b))) m else .bad) = _
  rw [show PyData.eqv (.int a) (.int b) = decide (a = b) from ?_]
  · rfl
  · rfl
theorem lt_int {a b : Int} {m : M} : oLt (.int a) (.int b) m = .ok (.bl (decide (a < b))) m := rfl
theorem gt_int {a b : Int} {m : M} : oGt (.int a) (.int b) m = .ok (.bl (decide (b < a))) m := rfl
theorem ge_int {a b : Int} {m : M} : oGe (.int a) (.int b) m = .ok (.bl (decide (b ≤ a))) m := rfl
theorem le_int {a b : Int} {m : M} : oLe (.int a) (.int b) m = .ok (.bl (decide (a ≤ b))) m := rfl

theorem bind_ok {α β : Type} (a : α) (m : M) (k : α → M → R β) : (R.ok a m).bind k = k a m := rfl
theorem stm_ok {α : Type} (a : α) (m : M) (ρ : Rho) (k : α → M → Option (Fl × M)) : (R.ok a m).stm ρ k = k a m := rfl
theorem add_int {a b : Int} {m : M} : oAdd (.int a) (.int b) m = .ok (.int (a + b)) m := rfl
theorem sub_int {a b : Int} {m : M} : oSub (.int a) (.int b) m = .ok (.int (a - b)) m := rfl
theorem mul_int {a b : Int} {m : M} (h : small64b b = true) : oMul (.int a) (.int b) m = .ok (.int (a * b)) m := by
  show (if (small64b a || small64b b) = true then R.ok (D.int (a * b)) m else .bad) = _
  rw [h, Bool.or_true]
  rfl
theorem mod_int {a b : Int} {m : M} (h : 0 < b) : oMod (.int a) (.int b) m = .ok (.int (a % b)) m := by
  show (if 0 < b then R.ok (D.int (a % b)) m else .bad) = _
  rw [if_pos h]
theorem div_int {a b : Int} {m : M} (h : 0 < b) (h2 : b < 1073741824) : oFdiv (.int a) (.int b) m = .ok (.int (a / b)) m := by
  show (if 0 < b ∧ b < 1073741824 then R.ok (D.int (a / b)) m else .bad) = _
  rw [if_pos ⟨h, h2⟩]
theorem pow_int {a b : Int} {m : M} (h : 0 ≤ b) (h2 : b ≤ 1000000) (h3 : a.natAbs < 2 ^ 64) : oPow (.int a) (.int b) m = .ok (.int (a ^ b.toNat)) m := by
  show (if 0 ≤ b ∧ b ≤ 1000000 ∧ a.natAbs < 2 ^ 64 then R.ok (D.int (a ^ b.toNat)) m else .bad) = _
  rw [if_pos ⟨h, h2, h3⟩]
theorem int_int {a : Int} {m : M} : bInt [.int a] m = .ok (.int a) m := rfl
theorem len_sl {xs : List D} {m : M} : bLen [.sl xs] m = .ok (.int xs.length) m := rfl
/-- a draw -/
def finR : Option (Fl × M) → R D
  | some (.nx _, m1) => .ok .non m1
  | some (.rt d, m1) => .ok d m1
  | some (.er x _, m1) => .err x m1
  | _ => .bad
theorem fn1 {ns : Nat} {b : SF} {x : D} {m : M} : fnF 1 ns b [x] m = finR (b (some x :: List.replicate (ns - 1) none) m) := rfl
theorem fn2 {ns : Nat} {b : SF} {x y : D} {m : M} : fnF 2 ns b [x, y] m = finR (b (some x :: some y :: List.replicate (ns - 2) none) m) := rfl
theorem fn3 {ns : Nat} {b : SF} {x y z : D} {m : M} : fnF 3 ns b [x, y, z] m = finR (b (some x :: some y :: some z :: List.replicate (ns - 3) none) m) := rfl
theorem fin_nx {ρ : Rho} {m : M} : finR (some (.nx ρ, m)) = .ok .non m := rfl
theorem fin_rt {d : D} {m : M} : finR (some (.rt d, m)) = .ok d m := rfl
theorem at_sl {cs : List Int} {a : Int} (h0 : 0 ≤ a) (h : a < cs.length) : ∃ c, cs[a.toNat]? = some c ∧ atD (cs.map D.int) a = some (.int c) := by
  have h1 : a.toNat < cs.length := by omega
  refine ⟨cs[a.toNat], List.getElem?_eq_getElem h1, ?_⟩
  unfold atD ixD
  rw [if_pos h0, List.length_map, if_pos h]
  show (cs.map D.int)[a.toNat]? = _
  rw [List.getElem?_map, List.getElem?_eq_getElem h1]
  rfl
def stepA (cs : List Int) (a d f : Int) : Int × Int × Int := match (if d = 0 ∧ a < cs.length then cs[a.toNat]? else none) with
  | some c => if (10 : Int) ^ 18 ≤ c then (a + 1, c - 10 ^ 18, f) else (a + 1, d, (f * 73673 + c) % 2147483543)
  | none => (a, d, f)
def drawV (k many : Int) (s : Int × Int × Int) : Int × Int × Int × Int := if 0 < s.2.1 then (s.2.1 % many, s.1, s.2.1 / many, s.2.2) else
  ((s.2.2 + (k + 1) * 9743 + 179) ^ 23 % 2305843009213693951 / 128 % many, s.1, s.2.1, s.2.2)
theorem pow10 {m : M} : oPow (.int 10) (.int 18) m = .ok (.int (10 ^ 18)) m := rfl
theorem mul73 {a : Int} {m : M} : oMul (.int a) (.int 73673) m = .ok (.int (a * 73673)) m := mul_int rfl
theorem mul97 {a : Int} {m : M} : oMul (.int a) (.int 9743) m = .ok (.int (a * 9743)) m := mul_int rfl
theorem mod21 {a : Int} {m : M} : oMod (.int a) (.int 2147483543) m = .ok (.int (a % 2147483543)) m := mod_int (by decide)
theorem mod23 {a : Int} {m : M} : oMod (.int a) (.int 2305843009213693951) m = .ok (.int (a % 2305843009213693951)) m := mod_int (by decide)
theorem div128 {a : Int} {m : M} : oFdiv (.int a) (.int 128) m = .ok (.int (a / 128)) m := div_int (by decide) (by decide)
theorem draw_eq {m : M} {p : Nat} {cs : List Int} {a d k f many : Int} (hp : p < m.length) (hm : 0 < many) (hm2 : many < 1073741824) (ha : 0 ≤ a) (hk : 0 ≤ k) (hk2 : k ≤ 1000000) (hf : 0 ≤ (stepA cs a d f).2.2) (hf2 : (stepA cs a d f).2.2 < 2147483543) :
    K00.s__law_draw [.ref p, .int many] (m.set p (penC (cs.map .int) a d k f)) = .ok (.int (drawV k many (stepA cs a d f)).1) (m.set p (penC (cs.map .int) (drawV k many (stepA cs a d f)).2.1 (drawV k many (stepA cs a d f)).2.2.1 (k + 1) (drawV k many (stepA cs a d f)).2.2.2)) := by
  unfold K00.s__law_draw
  rw [fn2]
  generalize hS : stepA cs a d f = S at *
  obtain ⟨a1, d1, f1⟩ := S
  have hb : ((f1 + (k + 1) * 9743 + 179).natAbs) < 2 ^ 64 := by
    simp only at hf hf2
    omega
  have hpw : ∀ m : M, oPow (.int (f1 + (k + 1) * 9743 + 179)) (.int 23) m = .ok (.int ((f1 + (k + 1) * 9743 + 179) ^ 23)) m := fun m => pow_int (by decide) (by decide) hb
  have tail : ∀ (ρ : Rho), ρ[0]? = some (some (.ref p)) → ρ[1]? = some (some (.int many)) → ρ.length = 5 → finR (sSeq (sIf (tVal (eBin oGt (eBin oIx (eVar 0) (eCon (.str "digits"))) (eCon (.int 0)))) (sSeq (sSet 4 (eBin oMod (eBlt bInt (aCons (eBin oIx (eVar 0) (eCon (.str "digits"))) aNil)) (eVar 1)))
      (sSeq (sAsg (eBin oFdiv (eBin oIx (eVar 0) (eCon (.str "digits"))) (eVar 1)) (gSubZ (eVar 0) (eCon (.str "digits"))))
      (sRet (eVar 4)))) sNil)
      (sSeq (sSet 2 (eBin oAdd (eBin oAdd (eBin oIx (eVar 0) (eCon (.str "fold"))) (eBin oMul (eBin oIx (eVar 0) (eCon (.str "count"))) (eCon (.int 9743)))) (eCon (.int 179))))
      (sRet (eBin oMod (eBin oFdiv (eBlt bInt (aCons (eBin oMod (eBin oPow (eVar 2) (eCon (.int 23))) (eCon (.int 2305843009213693951))) aNil)) (eCon (.int 128))) (eVar 1)))) ρ (m.set p (penC (cs.map .int) a1 d1 (k + 1) f1))) =
      .ok (.int (drawV k many (a1, d1, f1)).1) (m.set p (penC (cs.map .int) (drawV k many (a1, d1, f1)).2.1 (drawV k many (a1, d1, f1)).2.2.1 (k + 1) (drawV k many (a1, d1, f1)).2.2.2)) := by
    intro ρ r0 r1 hl
    match ρ, hl with
    | [x0, x1, x2, x3, x4], _ =>
      simp only [List.getElem?_cons_zero, List.getElem?_cons_succ, Option.some.injEq] at r0 r1
      subst r0; subst r1
      unfold drawV
      by_cases h : 0 < d1
      · rw [if_pos h]
        simp only [sSeq, sAsg, sIf, sSet, sRet, sNil, eBin, eVar, eCon, eBlt, aCons, aNil, gSubZ, tAndF, tVal, bind_ok, stm_ok, ix_count hp, add_int, set_count hp, ix_digits hp, eq_int, lt_int, gt_int, ix_at hp, ix_cells hp, ix_fold hp, len_sl, set_at hp, ge_int, sub_int, set_digits hp, set_fold hp, pow10, int_int, mul73, mod21, mul97, mod23, div128, mod_int hm, div_int hm hm2, fin_rt, List.map_cons, List.map_nil, List.cons_append, List.nil_append, List.getElem?_cons_zero, List.getElem?_cons_succ, Option.map_some, decide_true, if_true, List.length_map, List.replicate_succ, List.replicate_zero, Nat.reduceSub, List.set_cons_zero, List.set_cons_succ, h]
      · rw [if_neg h]
        simp only [sSeq, sAsg, sIf, sSet, sRet, sNil, eBin, eVar, eCon, eBlt, aCons, aNil, gSubZ, tAndF, tVal, bind_ok, stm_ok, ix_count hp, add_int, set_count hp, ix_digits hp, eq_int, lt_int, gt_int, ix_at hp, ix_cells hp, ix_fold hp, len_sl, set_at hp, ge_int, sub_int, set_digits hp, set_fold hp, pow10, int_int, mul73, mod21, mul97, mod23, div128, mod_int hm, div_int hm hm2, fin_rt, List.map_cons, List.map_nil, List.cons_append, List.nil_append, List.getElem?_cons_zero, List.getElem?_cons_succ, Option.map_some, decide_true, if_true, List.length_map, List.replicate_succ, List.replicate_zero, Nat.reduceSub, List.set_cons_zero, List.set_cons_succ, h, hpw, decide_false, Bool.false_eq_true, if_false]
  unfold stepA at hS
  split at hS
  · rename_i c hc
    split at hc
    · rename_i h1
      obtain ⟨c', hc', hc2⟩ := at_sl ha h1.2
      rw [hc'] at hc
      cases hc
      split at hS
      · rename_i h3
        cases hS
        rw [← tail [some (.ref p), some (.int many), none, some (.int c), none] rfl rfl rfl]
        simp only [sAsg, sIf, sSet, eBin, eVar, eCon, eBlt, aCons, aNil, gSubZ, tAndF, tVal, sSeq, sAsg, sIf, sSet, sRet, sNil, eBin, eVar, eCon, eBlt, aCons, aNil, gSubZ, tAndF, tVal, bind_ok, stm_ok, ix_count hp, add_int, set_count hp, ix_digits hp, eq_int, lt_int, gt_int, ix_at hp, ix_cells hp, ix_fold hp, len_sl, set_at hp, ge_int, sub_int, set_digits hp, set_fold hp, pow10, int_int, mul73, mod21, mul97, mod23, div128, mod_int hm, div_int hm hm2, fin_rt, List.map_cons, List.map_nil, List.cons_append, List.nil_append, List.getElem?_cons_zero, List.getElem?_cons_succ, Option.map_some, decide_true, if_true, List.length_map, List.replicate_succ, List.replicate_zero, Nat.reduceSub, List.set_cons_zero, List.set_cons_succ, h1.1, h1.2, h3, ix_sl hc2]
      · rename_i h3
        cases hS
        rw [← tail [some (.ref p), some (.int many), none, some (.int c), none] rfl rfl rfl]
        simp only [sAsg, sIf, sSet, eBin, eVar, eCon, eBlt, aCons, aNil, gSubZ, tAndF, tVal, sSeq, sAsg, sIf, sSet, sRet, sNil, eBin, eVar, eCon, eBlt, aCons, aNil, gSubZ, tAndF, tVal, bind_ok, stm_ok, ix_count hp, add_int, set_count hp, ix_digits hp, eq_int, lt_int, gt_int, ix_at hp, ix_cells hp, ix_fold hp, len_sl, set_at hp, ge_int, sub_int, set_digits hp, set_fold hp, pow10, int_int, mul73, mod21, mul97, mod23, div128, mod_int hm, div_int hm hm2, fin_rt, List.map_cons, List.map_nil, List.cons_append, List.nil_append, List.getElem?_cons_zero, List.getElem?_cons_succ, Option.map_some, decide_true, if_true, List.length_map, List.replicate_succ, List.replicate_zero, Nat.reduceSub, List.set_cons_zero, List.set_cons_succ, h1.1, h1.2, h3, ix_sl hc2, decide_false, Bool.false_eq_true, if_false]
    · cases hc
  · rename_i hc
    cases hS
    have hn : ¬ (d = 0 ∧ a < cs.length) := fun h => by
      rw [if_pos h] at hc
      obtain ⟨c', hc', _⟩ := at_sl ha h.2
      rw [hc'] at hc
      cases hc
    rw [← tail [some (.ref p), some (.int many), none, none, none] rfl rfl rfl]
    by_cases h1 : d = 0
    · have h2 : ¬ (a < (cs.length : Int)) := fun h => hn ⟨h1, h⟩
      simp only [sAsg, sIf, sSet, eBin, eVar, eCon, eBlt, aCons, aNil, gSubZ, tAndF, tVal, sSeq, sAsg, sIf, sSet, sRet, sNil, eBin, eVar, eCon, eBlt, aCons, aNil, gSubZ, tAndF, tVal, bind_ok, stm_ok, ix_count hp, add_int, set_count hp, ix_digits hp, eq_int, lt_int, gt_int, ix_at hp, ix_cells hp, ix_fold hp, len_sl, set_at hp, ge_int, sub_int, set_digits hp, set_fold hp, pow10, int_int, mul73, mod21, mul97, mod23, div128, mod_int hm, div_int hm hm2, fin_rt, List.map_cons, List.map_nil, List.cons_append, List.nil_append, List.getElem?_cons_zero, List.getElem?_cons_succ, Option.map_some, decide_true, if_true, List.length_map, List.replicate_succ, List.replicate_zero, Nat.reduceSub, List.set_cons_zero, List.set_cons_succ, h1, h2, decide_false, Bool.false_eq_true, if_false]
    · simp only [sAsg, sIf, sSet, eBin, eVar, eCon, eBlt, aCons, aNil, gSubZ, tAndF, tVal, sSeq, sAsg, sIf, sSet, sRet, sNil, eBin, eVar, eCon, eBlt, aCons, aNil, gSubZ, tAndF, tVal, bind_ok, stm_ok, ix_count hp, add_int, set_count hp, ix_digits hp, eq_int, lt_int, gt_int, ix_at hp, ix_cells hp, ix_fold hp, len_sl, set_at hp, ge_int, sub_int, set_digits hp, set_fold hp, pow10, int_int, mul73, mod21, mul97, mod23, div128, mod_int hm, div_int hm hm2, fin_rt, List.map_cons, List.map_nil, List.cons_append, List.nil_append, List.getElem?_cons_zero, List.getElem?_cons_succ, Option.map_some, decide_true, if_true, List.length_map, List.replicate_succ, List.replicate_zero, Nat.reduceSub, List.set_cons_zero, List.set_cons_succ, h1, decide_false, Bool.false_eq_true, if_false]
end Zm

namespace Zm
open PySem PySem.Spec L2 Z
/-! data that is small -/
structure Good (d : D) (p : PyData) : Prop where
  to : ∀ n m, toP (n + 8) m d = some p
  sh : p.showable = true
  hd : p.hasDict = false
  dp : p.depth ≤ 4
  ln : p.shown.length ≤ 400
  ok : PyData.strOk p.shown = true
theorem strOk_app {a b : Str} (ha : PyData.strOk a = true) (hb : PyData.strOk b = true) : PyData.strOk (a ++ b) = true := by
  show (a.cps ++ b.cps).all _ = true
  rw [Array.all_append]
  exact Bool.and_eq_true_iff.mpr ⟨ha, hb⟩
theorem shownT0 : (PyData.tuple []).shown = "()" := by rfl
theorem shownT1 (p : PyData) : (PyData.tuple [p]).shown = "(" ++ p.shown ++ ",)" := by rfl
theorem shownT2 (p q : PyData) : (PyData.tuple [p, q]).shown = "(" ++ (p.shown ++ ", " ++ q.shown) ++ ")" := by rfl
/-- the text of a tuple of small data -/
structure Told (ds : List D) (s : Str) : Prop where
  re : ∀ m, bRepr [.tup ds] m = .ok (.str s) m
  ok : PyData.strOk s = true
theorem repr_of {d : D} {p : PyData} (h : ∀ m, toP deepest m d = some p) (h1 : p.showable = true) (h2 : p.hasDict = false) (h3 : p.depth ≤ 60) (h4 : p.shown.length ≤ line) (m : M) : bRepr [d] m = .ok (.str p.shown) m := by
  unfold bRepr
  simp only [h m]
  have : noLong p = true := by
    unfold noLong
    rw [h1, h2, decide_eq_true h3, decide_eq_true h4]
    rfl
  rw [if_pos this]
theorem told0 : Told [] "()" := ⟨fun m => repr_of (p := .tuple []) (fun m => rfl) rfl rfl (by decide) (by decide) m, by decide +kernel⟩
theorem told1 {a : D} {p : PyData} (g : Good a p) : Told [a] ("(" ++ p.shown ++ ",)") := by
  refine ⟨fun m => ?_, strOk_app (strOk_app (by decide +kernel) g.ok) (by decide +kernel)⟩
  rw [← shownT1]
  refine repr_of (p := .tuple [p]) (fun m => ?_) ?_ ?_ ?_ ?_ m
  · show (match toP 23 m a, (some [] : Option (List PyData)) with | some p, some ps => some (p :: ps) | _, _ => none).map PyData.tuple = _
    rw [g.to 15 m]
    rfl
  · rw [PyData.showable.eq_6, PyData.showableAll.eq_2, g.sh]; rfl
  · show (p.hasDict || false) = false
    rw [g.hd]; rfl
  · show max p.depth 0 + 1 ≤ 60
    have := g.dp
    omega
  · rw [shownT1, Str.length_append, Str.length_append]
    have := g.ln
    show 1 + p.shown.length + 2 ≤ 16777216
    omega
theorem told2 {a b : D} {p q : PyData} (g : Good a p) (g2 : Good b q) : Told [a, b] ("(" ++ (p.shown ++ ", " ++ q.shown) ++ ")") := by
  refine ⟨fun m => ?_, strOk_app (strOk_app (by decide +kernel) (strOk_app (strOk_app g.ok (by decide +kernel)) g2.ok)) (by decide +kernel)⟩
  rw [← shownT2]
  refine repr_of (p := .tuple [p, q]) (fun m => ?_) ?_ ?_ ?_ ?_ m
  · show (match toP 23 m a, (match toP 23 m b, (some [] : Option (List PyData)) with | some p, some ps => some (p :: ps) | _, _ => none) with | some p, some ps => some (p :: ps) | _, _ => none).map PyData.tuple = _
    rw [g.to 15 m, g2.to 15 m]
    rfl
  · rw [PyData.showable.eq_6, PyData.showableAll.eq_2, PyData.showableAll.eq_2, g.sh, g2.sh]; rfl
  · show (p.hasDict || (q.hasDict || false)) = false
    rw [g.hd, g2.hd]; rfl
  · show max p.depth (max q.depth 0) + 1 ≤ 60
    have := g.dp
    have := g2.dp
    omega
  · rw [shownT2, Str.length_append, Str.length_append, Str.length_append, Str.length_append]
    have := g.ln
    have := g2.ln
    show 1 + (p.shown.length + 2 + q.shown.length) + 1 ≤ 16777216
    omega
theorem ne_str {s : Str} {m : M} (h : PyData.strOk s = true) : oNe (.str s) (.str s) m = .ok (.bl false) m := by
  show (if (SeqAt.shaped (.str s) && SeqAt.shaped (.str s)) = true then R.ok (D.bl (!PyData.eqv (.str s) (.str s))) m else .bad) = _
  have e : SeqAt.shaped (.str s) = true := by
    show (PyData.strOk s && decide (0 ≤ 64)) = true
    rw [h]; rfl
  rw [e, PyData.eqv.eq_6]
  simp
/-! the menu -/
def menu (r1 r2 : Int) : List D := [.non, .bl true, .int 0, .int (-1 - r1), .int (10 ^ 40 + r2), .str "", .str "log", .tup [.int 1, .int 2], .sl [.int 3], .tup [.str "b", .str "c"], .tup [.tup [.int 0, .int 0]]]
def goodP (p : PyData) : Bool := p.showable && !p.hasDict && decide (p.depth ≤ 4) && decide (p.shown.length ≤ 400) && PyData.strOk p.shown
theorem good_of {d : D} {p : PyData} (h : ∀ n m, toP (n + 8) m d = some p) (g : goodP p = true) : Good d p := by
  unfold goodP at g
  simp only [Bool.and_eq_true, Bool.not_eq_true', decide_eq_true_eq] at g
  exact ⟨h, g.1.1.1.1, g.1.1.1.2, g.1.1.2, g.1.2, g.2⟩
theorem good1 : ∀ r : Fin 9, goodP (.int (-1 - (r.val : Int))) = true := by decide +kernel
theorem good2 : ∀ r : Fin 99, goodP (.int (10 ^ 40 + (r.val : Int))) = true := by decide +kernel
theorem menu_good {r1 r2 : Int} (h1 : 0 ≤ r1) (h2 : r1 < 9) (h3 : 0 ≤ r2) (h4 : r2 < 99) : ∀ d ∈ menu r1 r2, ∃ p, Good d p := by
  intro d hd
  simp only [menu, List.mem_cons, List.not_mem_nil, or_false] at hd
  rcases hd with rfl | rfl | rfl | rfl | rfl | rfl | rfl | rfl | rfl | rfl | rfl
  · exact ⟨.none, good_of (fun _ _ => rfl) (by decide +kernel)⟩
  · exact ⟨.bool true, good_of (fun _ _ => rfl) (by decide +kernel)⟩
  · exact ⟨.int 0, good_of (fun _ _ => rfl) (by decide +kernel)⟩
  · refine ⟨_, good_of (fun _ _ => rfl) ?_⟩
    have := good1 ⟨r1.toNat, by omega⟩
    rw [show ((⟨r1.toNat, by omega⟩ : Fin 9).val : Int) = r1 from by simp; omega] at this
    exact this
  · refine ⟨_, good_of (fun _ _ => rfl) ?_⟩
    have := good2 ⟨r2.toNat, by omega⟩
    rw [show ((⟨r2.toNat, by omega⟩ : Fin 99).val : Int) = r2 from by simp; omega] at this
    exact this
  · exact ⟨.str "", good_of (fun _ _ => rfl) (by decide +kernel)⟩
  · exact ⟨.str "log", good_of (fun _ _ => rfl) (by decide +kernel)⟩
  · exact ⟨.tuple [.int 1, .int 2], good_of (fun _ _ => rfl) (by decide +kernel)⟩
  · exact ⟨.list [.int 3], good_of (fun _ _ => rfl) (by decide +kernel)⟩
  · exact ⟨.tuple [.str "b", .str "c"], good_of (fun _ _ => rfl) (by decide +kernel)⟩
  · exact ⟨.tuple [.tuple [.int 0, .int 0]], good_of (fun _ _ => rfl) (by decide +kernel)⟩
end Zm

namespace Zm
open PySem PySem.Spec L2 Z
/-! the kinds, one by one -/
def which (k : Nat) : List D := (List.range 18).map fun j => .bl (decide (j = k))
theorem kind_ok (a b : D) : ∀ k : Nat, k < 18 → ∃ C ns ds fs, (fs = [] ∨ fs = [a] ∨ fs = [a, b]) ∧ (∀ m, K00.s__law_one [.int (k : Nat), a, b] m = .ok (.tup [.exc C ns ds, .tup fs]) m) ∧ (∀ m, K00.s__law_which [.exc C ns ds] m = .ok (.sl (which k)) m) ∧
    (∀ m, bIsx K00.kt [.exc C ns ds, .glo "NoteError"] m = .ok (.bl true) m) ∧ (∀ m, bIsx K00.kt [.exc C ns ds, .ty "ValueError"] m = .ok (.bl true) m) ∧ ∀ m, oNe (.sl (which k)) (.sl (which k)) m = .ok (.bl false) m
  | 0, _ => ⟨"BadName", ["name"], [a], [a], .inr (.inl rfl), fun _ => rfl, fun _ => rfl, fun _ => rfl, fun _ => rfl, fun _ => rfl⟩
  | 1, _ => ⟨"NoName", ["name"], [a], [a], .inr (.inl rfl), fun _ => rfl, fun _ => rfl, fun _ => rfl, fun _ => rfl, fun _ => rfl⟩
  | 2, _ => ⟨"TakenName", ["name"], [a], [a], .inr (.inl rfl), fun _ => rfl, fun _ => rfl, fun _ => rfl, fun _ => rfl, fun _ => rfl⟩
  | 3, _ => ⟨"BadKinds", ["kinds"], [a], [a], .inr (.inl rfl), fun _ => rfl, fun _ => rfl, fun _ => rfl, fun _ => rfl, fun _ => rfl⟩
  | 4, _ => ⟨"BadLog", ["log"], [a], [a], .inr (.inl rfl), fun _ => rfl, fun _ => rfl, fun _ => rfl, fun _ => rfl, fun _ => rfl⟩
  | 5, _ => ⟨"BadMachine", ["machine"], [a], [a], .inr (.inl rfl), fun _ => rfl, fun _ => rfl, fun _ => rfl, fun _ => rfl, fun _ => rfl⟩
  | 6, _ => ⟨"BadWriter", ["writer"], [a], [a], .inr (.inl rfl), fun _ => rfl, fun _ => rfl, fun _ => rfl, fun _ => rfl, fun _ => rfl⟩
  | 7, _ => ⟨"BadPair", ["pair"], [a], [a], .inr (.inl rfl), fun _ => rfl, fun _ => rfl, fun _ => rfl, fun _ => rfl, fun _ => rfl⟩
  | 8, _ => ⟨"BadLot", ["lot"], [a], [a], .inr (.inl rfl), fun _ => rfl, fun _ => rfl, fun _ => rfl, fun _ => rfl, fun _ => rfl⟩
  | 9, _ => ⟨"BadJob", ["job"], [a], [a], .inr (.inl rfl), fun _ => rfl, fun _ => rfl, fun _ => rfl, fun _ => rfl, fun _ => rfl⟩
  | 10, _ => ⟨"BadAnswers", ["answers"], [a], [a], .inr (.inl rfl), fun _ => rfl, fun _ => rfl, fun _ => rfl, fun _ => rfl, fun _ => rfl⟩
  | 11, _ => ⟨"BadPaper", ["paper"], [a], [a], .inr (.inl rfl), fun _ => rfl, fun _ => rfl, fun _ => rfl, fun _ => rfl, fun _ => rfl⟩
  | 12, _ => ⟨"BadEntry", ["line"], [a], [a], .inr (.inl rfl), fun _ => rfl, fun _ => rfl, fun _ => rfl, fun _ => rfl, fun _ => rfl⟩
  | 13, _ => ⟨"BadText", ["column", "line"], [b, a], [a, b], .inr (.inr rfl), fun _ => rfl, fun _ => rfl, fun _ => rfl, fun _ => rfl, fun _ => rfl⟩
  | 14, _ => ⟨"BadNumber", ["number", "what"], [b, a], [a, b], .inr (.inr rfl), fun _ => rfl, fun _ => rfl, fun _ => rfl, fun _ => rfl, fun _ => rfl⟩
  | 15, _ => ⟨"NotKept", ["witness", "promise"], [b, a], [a, b], .inr (.inr rfl), fun _ => rfl, fun _ => rfl, fun _ => rfl, fun _ => rfl, fun _ => rfl⟩
  | 16, _ => ⟨"NothingToUndo", [], [], [], .inl rfl, fun _ => rfl, fun _ => rfl, fun _ => rfl, fun _ => rfl, fun _ => rfl⟩
  | 17, _ => ⟨"NothingToRedo", [], [], [], .inl rfl, fun _ => rfl, fun _ => rfl, fun _ => rfl, fun _ => rfl, fun _ => rfl⟩
  | k + 18, h => absurd h (by omega)
/-! the pen -/
def Pen (n : Int) (c : Cell) : Prop := ∃ (cs : List Int) (a d k f : Int), c = penC (cs.map .int) a d k f ∧ 0 ≤ a ∧ 0 ≤ d ∧ 0 ≤ k ∧ k ≤ n ∧ 0 ≤ f ∧ f < 2147483543
theorem step_ok {cs : List Int} {a d f : Int} (ha : 0 ≤ a) (hd : 0 ≤ d) (hf : 0 ≤ f) (hf2 : f < 2147483543) : 0 ≤ (stepA cs a d f).1 ∧ 0 ≤ (stepA cs a d f).2.1 ∧ 0 ≤ (stepA cs a d f).2.2 ∧ (stepA cs a d f).2.2 < 2147483543 := by
  unfold stepA
  split
  · rename_i c hc
    split
    · rename_i h
      exact ⟨by show 0 ≤ a + 1; omega, by show 0 ≤ c - 10 ^ 18; omega, hf, hf2⟩
    · exact ⟨by show 0 ≤ a + 1; omega, hd, Int.emod_nonneg _ (by decide), Int.emod_lt_of_pos _ (by decide)⟩
  · exact ⟨ha, hd, hf, hf2⟩
theorem draw_pen {m : M} {p : Nat} {n many : Int} {c : Cell} (hp : p < m.length) (h : Pen n c) (hn : n ≤ 1000000) (hm : 0 < many) (hm2 : many < 1073741824) :
    ∃ r c', 0 ≤ r ∧ r < many ∧ Pen (n + 1) c' ∧ K00.s__law_draw [.ref p, .int many] (m.set p c) = .ok (.int r) (m.set p c') := by
  obtain ⟨cs, a, d, k, f, rfl, ha, hd, hk, hkn, hf, hf2⟩ := h
  obtain ⟨s1, s2, s3, s4⟩ := step_ok (cs := cs) ha hd hf hf2
  have e := draw_eq (cs := cs) (k := k) (f := f) (d := d) hp hm hm2 ha hk (by omega) s3 s4
  refine ⟨_, _, ?_, ?_, ⟨cs, _, _, _, _, rfl, ?_, ?_, ?_, ?_, ?_, ?_⟩, e⟩
  · unfold drawV
    split
    · exact Int.emod_nonneg _ (by omega)
    · exact Int.emod_nonneg _ (by omega)
  · unfold drawV
    split
    · exact Int.emod_lt_of_pos _ hm
    · exact Int.emod_lt_of_pos _ hm
  · unfold drawV
    split <;> exact s1
  · unfold drawV
    split
    · exact Int.ediv_nonneg s2 (by omega)
    · exact s2
  · omega
  · omega
  · unfold drawV
    split <;> exact s3
  · unfold drawV
    split <;> exact s4
theorem draw_hd {rest : M} {n many : Int} {c : Cell} (h : Pen n c) (hn : n ≤ 1000000) (hm : 0 < many) (hm2 : many < 1073741824) :
    ∃ r c', 0 ≤ r ∧ r < many ∧ Pen (n + 1) c' ∧ K00.s__law_draw [.ref 0, .int many] (c :: rest) = .ok (.int r) (c' :: rest) := by
  obtain ⟨r, c', h1, h2, h3, h4⟩ := draw_pen (m := c :: rest) (p := 0) (by simp) h hn hm hm2
  exact ⟨r, c', h1, h2, h3, h4⟩
theorem pick_hd {ms : List D} {n : Int} {c : Cell} (h : Pen n c) (hn : n ≤ 1000000) (hm : 0 < ms.length) (hm2 : ms.length < 1000) :
    ∃ d c', d ∈ ms ∧ Pen (n + 1) c' ∧ K00.s__law_pick [.ref 0, .ref 1] [c, .lst ms] = .ok d [c', .lst ms] := by
  obtain ⟨r, c', h1, h2, h3, h4⟩ := draw_hd (rest := [.lst ms]) (many := (ms.length : Int)) h hn (by omega) (by omega)
  have hr : r.toNat < ms.length := by omega
  refine ⟨ms[r.toNat], c', List.getElem_mem hr, h3, ?_⟩
  unfold K00.s__law_pick
  rw [fn2]
  have hl : bLen [.ref 1] [c, .lst ms] = .ok (.int ms.length) [c, .lst ms] := rfl
  have hx : oIx (.ref 1) (.int r) [c', .lst ms] = .ok ms[r.toNat] [c', .lst ms] := by
    refine ix_lst (xs := ms) rfl ?_
    unfold atD ixD
    rw [if_pos h1, if_pos h2]
    exact List.getElem?_eq_getElem hr
  simp only [sRet, eBin, eVar, eBlt, aCons, aNil, bind_ok, stm_ok, List.getElem?_cons_zero, List.getElem?_cons_succ, hl, h4, hx, fin_rt]
/-- the fold -/
theorem pen_ok (ns : List Int) (m : M) (hl : ns.length ≤ 63) : ∃ c, Pen 0 c ∧ K00.s__law_pen [.fl (ns.map .int)] m = .ok (.ref m.length) (m ++ [c]) := by
  unfold K00.s__law_pen
  rw [fn1]
  have loop : ∀ (k i : Nat) (x2 : Option D) (f : Int), ns.length - i < k → 0 ≤ f → f < 2147483543 → ∃ x2' f', 0 ≤ f' ∧ f' < 2147483543 ∧
      forN (itD (ns.map .int)).nxt (gThen (gNm 2) K00.s__law_pen_b1) k i [some (.fl (ns.map .int)), some (.int f), x2] m = some (.nx [some (.fl (ns.map .int)), some (.int f'), x2'], m) := by
    intro k
    induction k with
    | zero => intro i x2 f h; omega
    | succ k ih =>
      intro i x2 f h hf hf2
      unfold forN
      by_cases hi : i < ns.length
      · have e1 : (itD (ns.map D.int)).nxt i m = some (some (.int ns[i])) := by
          show some (ns.map D.int)[i]? = _
          rw [List.getElem?_map, List.getElem?_eq_getElem hi]
          rfl
        have e2 : gThen (gNm 2) K00.s__law_pen_b1 (.int ns[i]) [some (.fl (ns.map .int)), some (.int f), x2] m = some (.nx [some (.fl (ns.map .int)), some (.int ((f * 179 + ns[i]) % 1000000033)), some (.int ns[i])], m) := by
          unfold K00.s__law_pen_b1
          have e3 : oMul (.int f) (.int 179) m = .ok (.int (f * 179)) m := mul_int rfl
          have e4 : ∀ x : Int, oMod (.int x) (.int 1000000033) m = .ok (.int (x % 1000000033)) m := fun x => mod_int (by decide)
          simp only [gThen, gNm, List.set_cons_zero, List.set_cons_succ, sSet, eBin, eVar, eCon, eBlt, aCons, aNil, bind_ok, stm_ok, List.getElem?_cons_zero, List.getElem?_cons_succ, e3, e4, add_int, int_int]
        rw [e1]
        dsimp only
        rw [e2]
        exact ih (i + 1) _ _ (by omega) (Int.emod_nonneg _ (by decide)) (Int.lt_trans (Int.emod_lt_of_pos _ (by decide)) (by decide))
      · have e1 : (itD (ns.map D.int)).nxt i m = some none := by
          show some (ns.map D.int)[i]? = _
          rw [List.getElem?_eq_none (by rw [List.length_map]; omega)]
        rw [e1]
        exact ⟨x2, f, hf, hf2, rfl⟩
  obtain ⟨x2', f', h1, h2, h3⟩ := loop ((ns.map D.int).length + 1) 0 none 0 (by rw [List.length_map]; omega) (by decide) (by decide)
  refine ⟨penC (ns.map .int) 0 0 0 f', ⟨ns, 0, 0, 0, f', rfl, by decide, by decide, by decide, by decide, h1, h2⟩, ?_⟩
  have e1 : bListS [.fl (ns.map .int)] m = .ok (.sl (ns.map .int)) m := by
    unfold bListS
    rfl
  have e2 : iSeq (eVar 0) [some (.fl (ns.map .int)), some (.int 0), none] m = .ok (itD (ns.map .int)) m := rfl
  simp only [sSeq, sSet, eCon, stm_ok, List.set_cons_zero, List.set_cons_succ, List.replicate_succ, List.replicate_zero, Nat.reduceSub, sFor, e2]
  rw [show (itD (ns.map D.int)).fuel = (ns.map D.int).length + 1 from rfl, h3]
  simp only [sRet, eDisp, aPairs, eCon, eVar, eBlt, aCons, aNil, bind_ok, stm_ok, List.getElem?_cons_zero, List.getElem?_cons_succ, e1]
  rfl
end Zm

namespace Zm
open PySem PySem.Spec L2 Z
theorem rng_some {n i : Nat} {m : M} (h : i < n) : (itR 0 n).nxt i m = some (some (.int (i : Nat))) := by
  show some (if i < n then some (D.int (0 + (i : Nat))) else none) = _
  rw [if_pos h, Int.zero_add]
theorem rng_none {n i : Nat} {m : M} (h : ¬ i < n) : (itR 0 n).nxt i m = some none := by
  show some (if i < n then some (D.int (0 + (i : Nat))) else none) = _
  rw [if_neg h]
theorem sm62 {n : Nat} (h : n < 1000000) : small62 (n : Int) = true := by
  unfold small62
  rw [Bool.and_eq_true]
  exact ⟨decide_eq_true (by omega), decide_eq_true (by omega)⟩
theorem irange1 {j : Int} {ρ : Rho} {m : M} (h : small62 j = true) : iRange (aCons (eCon (.int j)) aNil) ρ m = .ok (itR 0 j.toNat) m := by
  unfold iRange aCons eCon aNil
  simp only [bind_ok]
  rw [if_pos h]
theorem irange_lit {n : Nat} {ρ : Rho} {m : M} (h : n < 1000000) : iRange (aCons (eCon (.int (n : Nat))) aNil) ρ m = .ok (itR 0 n) m := by
  rw [irange1 (sm62 h), Int.toNat_natCast]
theorem lc_range {n s : Nat} {f : EF} {ρ : Rho} {m : M} {y : Nat → D} (hn : n < 1000000) (h : ∀ j, j < n → f (((wipeR ρ [s])).set s (some (.int (j : Nat)))) m = .ok (y j) m) :
    eLc (iRange (aCons (eCon (.int (n : Nat))) aNil)) [s] (gNm s) tYesF f ρ m = .ok (.sl ((List.range n).map y)) m := by
  unfold eLc
  rw [irange_lit hn, bind_ok]
  have loop : ∀ k i, i ≤ n → n - i < k → lcN (itR 0 n).nxt (gNm s) tYesF f k i (wipeR ρ [s]) ((List.range i).map y) m = .ok ((List.range n).map y) m := by
    intro k
    induction k with
    | zero => intro i h1 h2; omega
    | succ k ih =>
      intro i h1 h2
      unfold lcN
      by_cases hi : i < n
      · rw [rng_some hi]
        simp only [gNm, tYesF]
        rw [h i hi]
        dsimp only
        rw [if_pos (by rw [List.length_map, List.length_range]; show i < 16777216; omega)]
        have := ih (i + 1) hi (by omega)
        rw [List.range_succ, List.map_append] at this
        exact this
      · rw [rng_none hi]
        have : i = n := by omega
        rw [this]
  have := loop (n + 1) 0 (Nat.zero_le _) (by omega)
  rw [show (itR 0 n).fuel = n + 1 from rfl]
  rw [show ([] : List D) = (List.range 0).map y from rfl, this, bind_ok]
theorem cut0 (a b : D) : cutD [a, b] none (some 0) = [] := by rfl
theorem cut1 (a b : D) : cutD [a, b] none (some 1) = [a] := by rfl
theorem cut2 (a b : D) : cutD [a, b] none (some 2) = [a, b] := by rfl
theorem dues_ok {a b x0 x1 x2 x3 x6 x7 x8 x9 x10 : Option D} {a b : D} {t0 t1 t2 : Str} {m : M} (h0 : Told [] t0) (h1 : Told [a] t1) (h2 : Told [a, b] t2) :
    eLc (iRange (aCons (eCon (.int 3)) aNil)) [9] (gNm 9) tYesF K00.s_law_e2 [x0, x1, x2, x3, some a, some b, x6, x7, x8, x9, x10] m = .ok (.sl [.str t0, .str t1, .str t2]) m := by
  refine lc_range (n := 3) (y := fun j => .str (match j with | 0 => t0 | 1 => t1 | _ => t2)) (by decide) fun j hj => ?_
  unfold K00.s_law_e2
  have e : ∀ (l : List D) (q : Int), cutD [a, b] none (some q) = l → oSl (.tup [a, b]) none (some q) m = .ok (.tup l) m := fun l q h => by
    rw [← h]
    rfl
  match j, hj with
  | 0, _ => simp only [wipeR, List.set_cons_zero, List.set_cons_succ, eBlt, aCons, aNil, eSl, eTup, eVar, oNo, oSome, bind_ok, List.getElem?_cons_zero, List.getElem?_cons_succ, List.length_cons, List.length_nil]; rw [if_pos (by decide)]; exact h0.re m
  | 1, _ => simp only [wipeR, List.set_cons_zero, List.set_cons_succ, eBlt, aCons, aNil, eSl, eTup, eVar, oNo, oSome, bind_ok, List.getElem?_cons_zero, List.getElem?_cons_succ, List.length_cons, List.length_nil]; rw [if_pos (by decide)]; exact h1.re m
  | 2, _ => simp only [wipeR, List.set_cons_zero, List.set_cons_succ, eBlt, aCons, aNil, eSl, eTup, eVar, oNo, oSome, bind_ok, List.getElem?_cons_zero, List.getElem?_cons_succ, List.length_cons, List.length_nil]; rw [if_pos (by decide)]; exact h2.re m
theorem alls_ok {x0 x1 x2 x4 x5 x6 x7 x8 x9 x10 : Option D} {k : Nat} {m : M} :
    eLc (iRange (aCons (eCon (.int 18)) aNil)) [10] (gNm 10) tYesF K00.s_law_e1 [x0, x1, x2, some (.int (k : Nat)), x4, x5, x6, x7, x8, x9, x10] m = .ok (.sl (which k)) m := by
  refine lc_range (n := 18) (y := fun j => .bl (decide (j = k))) (by decide) fun j hj => ?_
  unfold K00.s_law_e1
  simp only [wipeR, List.set_cons_zero, List.set_cons_succ, eBin, eVar, bind_ok, List.getElem?_cons_zero, List.getElem?_cons_succ, eq_int]
  congr 2
  exact decide_eq_decide.mpr (by omega)
end Zm

namespace Zm
open PySem PySem.Spec L2 Z
theorem gNm_eq {i : Nat} {d : D} {ρ : Rho} {m : M} : gNm i d ρ m = some (ρ.set i (some d), m) := rfl
theorem body_ok {ms : List D} (hms : ∀ d ∈ ms, ∃ p, Good d p) (hl : 0 < ms.length) (hl2 : ms.length < 1000) {n : Int} {c : Cell} (h : Pen n c) (hn : n + 2 ≤ 1000000) (i : Nat) (hi : i < 18) (s : D) (x3 x4 x5 x6 x7 x8 x9 x10 : Option D) :
    ∃ c' y4 y5 y6 y7 y8 y9 y10, Pen (n + 2) c' ∧ gThen (gNm 3) K00.s_law_b3 (.int (i : Nat)) [some s, some (.ref 0), some (.ref 1), x3, x4, x5, x6, x7, x8, x9, x10] [c, .lst ms] =
      some (.nx [some s, some (.ref 0), some (.ref 1), some (.int (i : Nat)), y4, y5, y6, y7, y8, y9, y10], [c', .lst ms]) := by
  obtain ⟨a, c1, ha, p1, e1⟩ := pick_hd h (by omega) hl hl2
  obtain ⟨b, c2, hb, p2, e2⟩ := pick_hd p1 (by omega) hl hl2
  obtain ⟨pa, ga⟩ := hms a ha
  obtain ⟨pb, gb⟩ := hms b hb
  obtain ⟨C, ns, ds, fs, hfs, k1, k2, k3, k4, k5⟩ := kind_ok a b i hi
  have t0 := told0
  have t1 := told1 ga
  have t2 := told2 ga gb
  have hd := fun (x6 x7 x8 x9 x10 : Option D) (m : M) => dues_ok (a := a) (b := b) (x0 := some s) (x1 := some (.ref 0)) (x2 := some (.ref 1)) (x3 := some (.int (i : Nat))) (x6 := x6) (x7 := x7) (x8 := x8) (x9 := x9) (x10 := x10) (m := m) t0 t1 t2
  obtain ⟨t, j, hr, hx, hlen, hok⟩ : ∃ (t : Str) (j : Int), (∀ m, bRepr [.tup fs] m = .ok (.str t) m) ∧ (∀ m, oIx (.sl [.str "()", .str ("(" ++ pa.shown ++ ",)"), .str ("(" ++ (pa.shown ++ ", " ++ pb.shown) ++ ")")]) (.int j) m = .ok (.str t) m) ∧ (∀ m, bLen [.tup fs] m = .ok (.int j) m) ∧ PyData.strOk t = true := by
    rcases hfs with rfl | rfl | rfl
    · exact ⟨_, 0, t0.re, fun _ => rfl, fun _ => rfl, t0.ok⟩
    · exact ⟨_, 1, t1.re, fun _ => rfl, fun _ => rfl, t1.ok⟩
    · exact ⟨_, 2, t2.re, fun _ => rfl, fun _ => rfl, t2.ok⟩
  have htup : ([a, b] : List D).length ≤ line := by show 2 ≤ 16777216; decide
  have h2 : ([a, b] : List D).length = 2 := rfl
  have h3 : ([D.exc C ns ds, D.tup fs] : List D).length = 2 := rfl
  refine ⟨c2, some a, some b, some (.sl [.str "()", .str ("(" ++ pa.shown ++ ",)"), .str ("(" ++ (pa.shown ++ ", " ++ pb.shown) ++ ")")]), some (.exc C ns ds), some (.tup fs), x9, x10, by rw [show n + 2 = n + 1 + 1 by omega]; exact p2, ?_⟩
  unfold K00.s_law_b3 gThen
  simp only [gNm_eq, List.set_cons_zero, List.set_cons_succ, sSeq, sAsg, sIf, sSet, sNil, eBin, eVar, eCon, eBlt, aCons, aNil, eTup, tOrF, tNotF, tVal, gTp, gsCons, gsNil, Option.bind_some, bind_ok, stm_ok, List.getElem?_cons_zero, List.getElem?_cons_succ, e1, e2, if_pos htup, if_pos h2, if_pos h3, hd, k1, hr, hx, hlen, ne_str hok, k3, k4, k2, alls_ok, k5, Bool.false_eq_true, if_false, Bool.not_true]
theorem law_ok (ns : List Int) (hl : ns.length ≤ 63) : ∃ m, K00.s_law [.fl (ns.map .int)] [] = .ok (.bl true) m := by
  obtain ⟨c, hc, e0⟩ := pen_ok ns [] hl
  obtain ⟨r1, c1, g1, g2, p1, e1⟩ := draw_hd (rest := []) (many := 9) hc (by decide) (by decide) (by decide)
  obtain ⟨r2, c2, g3, g4, p2, e2⟩ := draw_hd (rest := []) (many := 99) p1 (by decide) (by decide) (by decide)
  have hms := menu_good g1 g2 g3 g4
  have loop : ∀ (k i : Nat) (c : Cell) (x3 x4 x5 x6 x7 x8 x9 x10 : Option D), 18 - i < k → i ≤ 18 → Pen (2 + 2 * i) c → ∃ ρ' m', forN (itR 0 18).nxt (gThen (gNm 3) K00.s_law_b3) k i [some (.fl (ns.map .int)), some (.ref 0), some (.ref 1), x3, x4, x5, x6, x7, x8, x9, x10] [c, .lst (menu r1 r2)] = some (.nx ρ', m') := by
    intro k
    induction k with
    | zero => intro i c x3 x4 x5 x6 x7 x8 x9 x10 h; omega
    | succ k ih =>
      intro i c x3 x4 x5 x6 x7 x8 x9 x10 h hi hp
      unfold forN
      by_cases hlt : i < 18
      · obtain ⟨c', y4, y5, y6, y7, y8, y9, y10, hp', e⟩ := body_ok hms (show 0 < 11 by decide) (show 11 < 1000 by decide) hp (by omega) i hlt (.fl (ns.map .int)) x3 x4 x5 x6 x7 x8 x9 x10
        rw [rng_some hlt]
        dsimp only
        rw [e]
        exact ih (i + 1) c' _ _ _ _ _ _ _ _ (by omega) hlt (by rw [show (2 + 2 * ((i + 1 : Nat) : Int)) = 2 + 2 * (i : Int) + 2 by omega]; exact hp')
      · rw [rng_none hlt]
        exact ⟨_, _, rfl⟩
  obtain ⟨ρ', m', e3⟩ := loop 19 0 c2 none none none none none none none none (by omega) (by omega) p2
  refine ⟨m', ?_⟩
  unfold K00.s_law
  rw [fn1]
  have f1 : ([.int 1, .int 2] : List D).length ≤ line := by show 2 ≤ 16777216; decide
  have f2 : ([.int 3] : List D).length ≤ line := by show 1 ≤ 16777216; decide
  have f3 : ([.str "b", .str "c"] : List D).length ≤ line := by show 2 ≤ 16777216; decide
  have f4 : ([.int 0, .int 0] : List D).length ≤ line := by show 2 ≤ 16777216; decide
  have f5 : ([.tup [.int 0, .int 0]] : List D).length ≤ line := by show 1 ≤ 16777216; decide
  have f6 : ([.non, .bl true, .int 0, .int (-1 - r1), .int (10 ^ 40 + r2), .str "", .str "log", .tup [.int 1, .int 2], .sl [.int 3], .tup [.str "b", .str "c"]] : List D).length ≤ line := by show 10 ≤ 16777216; decide
  have f7 : ∀ m : M, oNeg (.int 1) m = .ok (.int (-1)) m := fun _ => rfl
  have f8 : ∀ m : M, oPow (.int 10) (.int 40) m = .ok (.int (10 ^ 40)) m := fun _ => rfl
  have f9 : lstIs [c2, .lst [.non, .bl true, .int 0, .int (-1 - r1), .int (10 ^ 40 + r2), .str "", .str "log", .tup [.int 1, .int 2], .sl [.int 3], .tup [.str "b", .str "c"]]] (.ref 1) = true := rfl
  have f10 : mAppend (.ref 1) [.tup [.tup [.int 0, .int 0]]] [c2, .lst [.non, .bl true, .int 0, .int (-1 - r1), .int (10 ^ 40 + r2), .str "", .str "log", .tup [.int 1, .int 2], .sl [.int 3], .tup [.str "b", .str "c"]]] = .ok .non [c2, .lst (menu r1 r2)] := rfl
  have f11 : ∀ (ρ : Rho) (m : M), iRange (aCons (eCon (.int 18)) aNil) ρ m = .ok (itR 0 18) m := fun ρ m => irange_lit (n := 18) (by decide)
  have f12 : ([c2] : M).length = 1 := rfl
  have f13 : ([] : M).length = 0 := rfl
  simp only [List.replicate_succ, List.replicate_zero, Nat.reduceSub, List.set_cons_zero, List.set_cons_succ, sSeq, sSet, sExpr, sFor, eBin, eUn, eVar, eCon, eBlt, aCons, aNil, eTup, eLst, eLstS, eMethL, bind_ok, stm_ok, List.getElem?_cons_zero, List.getElem?_cons_succ, e0, List.nil_append, f12, f13, e1, e2, f7, f8, sub_int, add_int, if_pos f1, if_pos f2, if_pos f3, if_pos f4, if_pos f5, if_pos f6, List.cons_append, if_pos f9, f10, f11]
  rw [show (itR 0 18).fuel = 19 from rfl, e3]
  rfl
end Zm

open PySem PySem.W PyProof.Rows
set_option maxRecDepth 100000 in
set_option maxHeartbeats 0 in
theorem PySem.Challenge.cw_notednames_k00_errors_holds : PySem.Challenge.rw_notednames_k00_errors.Holds := by
  w_on; o_law; k_head; (case hw => w_witness2)
  k_fill
  refine Z.walkZ (l := PySem.Challenge.rw_notednames_k00_errors) (n := 63) (k := 5) (g := K00.s_law) (x := "script") rfl (by decide) rfl ⟨rfl, by decide, by decide⟩ (fun w h Y => PySem.W.kIn_of Y) ?zF Zm.law_ok
  case zF =>
    intro w mg fa h KX G hmg
    refine' (fun (d__law_draw : Z.DefAt _ mg "_law_draw" K00.st__law_draw ["pen", "many"]) => ?zgo_1) (Z.def_mk KX G ?za_1 ?zl_1 ?zc_1 ?zk_1 K00.b__law_draw)
    (case za_1 => k_is); (case zl_1 => k_is); (case zc_1 => k_is); (case zk_1 => k_is)
    refine' (fun (d__law_single : Z.DefAt _ mg "_law_single" K00.st__law_single ["kind", "a"]) => ?zgo_2) (Z.def_mk KX G ?za_2 ?zl_2 ?zc_2 ?zk_2 K00.b__law_single)
    (case za_2 => k_is); (case zl_2 => k_is); (case zc_2 => k_is); (case zk_2 => k_is)
    refine' (fun (d__law_one : Z.DefAt _ mg "_law_one" K00.st__law_one ["kind", "a", "b"]) => ?zgo_3) (Z.def_mk KX G ?za_3 ?zl_3 ?zc_3 ?zk_3 K00.b__law_one)
    (case za_3 => k_is); (case zl_3 => k_is); (case zc_3 => k_is); (case zk_3 => k_is)
    refine' (fun (d__law_pen : Z.DefAt _ mg "_law_pen" K00.st__law_pen ["script"]) => ?zgo_4) (Z.def_mk KX G ?za_4 ?zl_4 ?zc_4 ?zk_4 K00.b__law_pen)
    (case za_4 => k_is); (case zl_4 => k_is); (case zc_4 => k_is); (case zk_4 => k_is)
    refine' (fun (d__law_pick : Z.DefAt _ mg "_law_pick" K00.st__law_pick ["pen", "some"]) => ?zgo_5) (Z.def_mk KX G ?za_5 ?zl_5 ?zc_5 ?zk_5 K00.b__law_pick)
    (case za_5 => k_is); (case zl_5 => k_is); (case zc_5 => k_is); (case zk_5 => k_is)
    refine' (fun (d__law_which : Z.DefAt _ mg "_law_which" K00.st__law_which ["e"]) => ?zgo_6) (Z.def_mk KX G ?za_6 ?zl_6 ?zc_6 ?zk_6 K00.b__law_which)
    (case za_6 => k_is); (case zl_6 => k_is); (case zc_6 => k_is); (case zk_6 => k_is)
    refine' (fun (d_law : Z.DefAt _ mg "law" K00.st_law ["script"]) => ?zgo_7) (Z.def_mk KX G ?za_7 ?zl_7 ?zc_7 ?zk_7 K00.b_law)
    (case za_7 => k_is); (case zl_7 => k_is); (case zc_7 => k_is); (case zk_7 => k_is)
    refine' (fun (a_NoteError : PySem.W.nsIn _ mainGlobals "NoteError" = some (some (.ref _))) => ?zgo_8) (Z.ns_mk KX G ?za_8)
    (case za_8 => k_is)
    refine' (fun (x_NoteError : Z.XCls _ _) => ?zgo_9) (Z.xcls_mk KX G a_NoteError ?zga_9 ?zgg_9 ?zeB_9 ?zhC_9 ?zhc_9 ?zhn_9 ?zht_9 ?zhm_9 ?ziC_9)
    (case zga_9 => k_is); (case zgg_9 => k_is); (case zeB_9 => k_is); (case zhC_9 => k_is); (case zhc_9 => k_is); (case zhn_9 => k_is); (case zht_9 => k_is); (case zhm_9 => k_is); (case ziC_9 => k_is)
    refine' (fun (c_NoteError : Z.Cls0 _ mg "NoteError") => ?zgo_10) (Z.cls0_mk KX G a_NoteError PySem.F.excBase_ValueError ?zq_10 ?zkC_10 x_NoteError)
    (case zq_10 => k_exc); (case zkC_10 => k_is)
    refine' (fun (a_BadText : PySem.W.nsIn _ mainGlobals "BadText" = some (some (.ref _))) => ?zgo_11) (Z.ns_mk KX G ?za_11)
    (case za_11 => k_is)
    refine' (fun (x_BadText : Z.XCls _ _) => ?zgo_12) (Z.xcls_mk KX G a_BadText ?zga_12 ?zgg_12 ?zeB_12 ?zhC_12 ?zhc_12 ?zhn_12 ?zht_12 ?zhm_12 ?ziC_12)
    (case zga_12 => k_is); (case zgg_12 => k_is); (case zeB_12 => k_is); (case zhC_12 => k_is); (case zhc_12 => k_is); (case zhn_12 => k_is); (case zht_12 => k_is); (case zhm_12 => k_is); (case ziC_12 => k_is)
    refine' (fun (c_BadText : Z.Cls2 _ mg "BadText" K00.sc_BadText "line" "column") => ?zgo_13) (Z.cls2_mk KX G a_BadText ?zxL_13 ?zrB_13 ?zsa_13 ?zeC_13 ?ztC_13 ?zkC_13 x_BadText ?znf_13 ?znf2_13 ?za1_13 ?zt1_13 ?zl1_13 ?zc1_13 ?zk1_13 K00.b_BadText)
    (case zxL_13 => k_is); (case zrB_13 => decide +kernel); (case zsa_13 => k_is); (case zeC_13 => k_is); (case ztC_13 => k_is); (case zkC_13 => k_is); (case znf_13 => k_is); (case znf2_13 => k_is); (case za1_13 => k_is); (case zt1_13 => k_is); (case zl1_13 => k_is); (case zc1_13 => k_is); (case zk1_13 => k_is)
    refine' (fun (a_BadNumber : PySem.W.nsIn _ mainGlobals "BadNumber" = some (some (.ref _))) => ?zgo_14) (Z.ns_mk KX G ?za_14)
    (case za_14 => k_is)
    refine' (fun (x_BadNumber : Z.XCls _ _) => ?zgo_15) (Z.xcls_mk KX G a_BadNumber ?zga_15 ?zgg_15 ?zeB_15 ?zhC_15 ?zhc_15 ?zhn_15 ?zht_15 ?zhm_15 ?ziC_15)
    (case zga_15 => k_is); (case zgg_15 => k_is); (case zeB_15 => k_is); (case zhC_15 => k_is); (case zhc_15 => k_is); (case zhn_15 => k_is); (case zht_15 => k_is); (case zhm_15 => k_is); (case ziC_15 => k_is)
    refine' (fun (c_BadNumber : Z.Cls2 _ mg "BadNumber" K00.sc_BadNumber "what" "number") => ?zgo_16) (Z.cls2_mk KX G a_BadNumber ?zxL_16 ?zrB_16 ?zsa_16 ?zeC_16 ?ztC_16 ?zkC_16 x_BadNumber ?znf_16 ?znf2_16 ?za1_16 ?zt1_16 ?zl1_16 ?zc1_16 ?zk1_16 K00.b_BadNumber)
    (case zxL_16 => k_is); (case zrB_16 => decide +kernel); (case zsa_16 => k_is); (case zeC_16 => k_is); (case ztC_16 => k_is); (case zkC_16 => k_is); (case znf_16 => k_is); (case znf2_16 => k_is); (case za1_16 => k_is); (case zt1_16 => k_is); (case zl1_16 => k_is); (case zc1_16 => k_is); (case zk1_16 => k_is)
    refine' (fun (a_BadName : PySem.W.nsIn _ mainGlobals "BadName" = some (some (.ref _))) => ?zgo_17) (Z.ns_mk KX G ?za_17)
    (case za_17 => k_is)
    refine' (fun (x_BadName : Z.XCls _ _) => ?zgo_18) (Z.xcls_mk KX G a_BadName ?zga_18 ?zgg_18 ?zeB_18 ?zhC_18 ?zhc_18 ?zhn_18 ?zht_18 ?zhm_18 ?ziC_18)
    (case zga_18 => k_is); (case zgg_18 => k_is); (case zeB_18 => k_is); (case zhC_18 => k_is); (case zhc_18 => k_is); (case zhn_18 => k_is); (case zht_18 => k_is); (case zhm_18 => k_is); (case ziC_18 => k_is)
    refine' (fun (c_BadName : Z.Cls1 _ mg "BadName" K00.sc_BadName "name") => ?zgo_19) (Z.cls1_mk KX G a_BadName ?zxL_19 ?zrB_19 ?zsa_19 ?zeC_19 ?ztC_19 ?zkC_19 x_BadName ?znf_19 ?za1_19 ?zt1_19 ?zl1_19 ?zc1_19 ?zk1_19 K00.b_BadName)
    (case zxL_19 => k_is); (case zrB_19 => decide +kernel); (case zsa_19 => k_is); (case zeC_19 => k_is); (case ztC_19 => k_is); (case zkC_19 => k_is); (case znf_19 => k_is); (case za1_19 => k_is); (case zt1_19 => k_is); (case zl1_19 => k_is); (case zc1_19 => k_is); (case zk1_19 => k_is)
    refine' (fun (a_NoName : PySem.W.nsIn _ mainGlobals "NoName" = some (some (.ref _))) => ?zgo_20) (Z.ns_mk KX G ?za_20)
    (case za_20 => k_is)
    refine' (fun (x_NoName : Z.XCls _ _) => ?zgo_21) (Z.xcls_mk KX G a_NoName ?zga_21 ?zgg_21 ?zeB_21 ?zhC_21 ?zhc_21 ?zhn_21 ?zht_21 ?zhm_21 ?ziC_21)
    (case zga_21 => k_is); (case zgg_21 => k_is); (case zeB_21 => k_is); (case zhC_21 => k_is); (case zhc_21 => k_is); (case zhn_21 => k_is); (case zht_21 => k_is); (case zhm_21 => k_is); (case ziC_21 => k_is)
    refine' (fun (c_NoName : Z.Cls1 _ mg "NoName" K00.sc_NoName "name") => ?zgo_22) (Z.cls1_mk KX G a_NoName ?zxL_22 ?zrB_22 ?zsa_22 ?zeC_22 ?ztC_22 ?zkC_22 x_NoName ?znf_22 ?za1_22 ?zt1_22 ?zl1_22 ?zc1_22 ?zk1_22 K00.b_NoName)
    (case zxL_22 => k_is); (case zrB_22 => decide +kernel); (case zsa_22 => k_is); (case zeC_22 => k_is); (case ztC_22 => k_is); (case zkC_22 => k_is); (case znf_22 => k_is); (case za1_22 => k_is); (case zt1_22 => k_is); (case zl1_22 => k_is); (case zc1_22 => k_is); (case zk1_22 => k_is)
    refine' (fun (a_TakenName : PySem.W.nsIn _ mainGlobals "TakenName" = some (some (.ref _))) => ?zgo_23) (Z.ns_mk KX G ?za_23)
    (case za_23 => k_is)
    refine' (fun (x_TakenName : Z.XCls _ _) => ?zgo_24) (Z.xcls_mk KX G a_TakenName ?zga_24 ?zgg_24 ?zeB_24 ?zhC_24 ?zhc_24 ?zhn_24 ?zht_24 ?zhm_24 ?ziC_24)
    (case zga_24 => k_is); (case zgg_24 => k_is); (case zeB_24 => k_is); (case zhC_24 => k_is); (case zhc_24 => k_is); (case zhn_24 => k_is); (case zht_24 => k_is); (case zhm_24 => k_is); (case ziC_24 => k_is)
    refine' (fun (c_TakenName : Z.Cls1 _ mg "TakenName" K00.sc_TakenName "name") => ?zgo_25) (Z.cls1_mk KX G a_TakenName ?zxL_25 ?zrB_25 ?zsa_25 ?zeC_25 ?ztC_25 ?zkC_25 x_TakenName ?znf_25 ?za1_25 ?zt1_25 ?zl1_25 ?zc1_25 ?zk1_25 K00.b_TakenName)
    (case zxL_25 => k_is); (case zrB_25 => decide +kernel); (case zsa_25 => k_is); (case zeC_25 => k_is); (case ztC_25 => k_is); (case zkC_25 => k_is); (case znf_25 => k_is); (case za1_25 => k_is); (case zt1_25 => k_is); (case zl1_25 => k_is); (case zc1_25 => k_is); (case zk1_25 => k_is)
    refine' (fun (a_BadKinds : PySem.W.nsIn _ mainGlobals "BadKinds" = some (some (.ref _))) => ?zgo_26) (Z.ns_mk KX G ?za_26)
    (case za_26 => k_is)
    refine' (fun (x_BadKinds : Z.XCls _ _) => ?zgo_27) (Z.xcls_mk KX G a_BadKinds ?zga_27 ?zgg_27 ?zeB_27 ?zhC_27 ?zhc_27 ?zhn_27 ?zht_27 ?zhm_27 ?ziC_27)
    (case zga_27 => k_is); (case zgg_27 => k_is); (case zeB_27 => k_is); (case zhC_27 => k_is); (case zhc_27 => k_is); (case zhn_27 => k_is); (case zht_27 => k_is); (case zhm_27 => k_is); (case ziC_27 => k_is)
    refine' (fun (c_BadKinds : Z.Cls1 _ mg "BadKinds" K00.sc_BadKinds "kinds") => ?zgo_28) (Z.cls1_mk KX G a_BadKinds ?zxL_28 ?zrB_28 ?zsa_28 ?zeC_28 ?ztC_28 ?zkC_28 x_BadKinds ?znf_28 ?za1_28 ?zt1_28 ?zl1_28 ?zc1_28 ?zk1_28 K00.b_BadKinds)
    (case zxL_28 => k_is); (case zrB_28 => decide +kernel); (case zsa_28 => k_is); (case zeC_28 => k_is); (case ztC_28 => k_is); (case zkC_28 => k_is); (case znf_28 => k_is); (case za1_28 => k_is); (case zt1_28 => k_is); (case zl1_28 => k_is); (case zc1_28 => k_is); (case zk1_28 => k_is)
    refine' (fun (a_BadLog : PySem.W.nsIn _ mainGlobals "BadLog" = some (some (.ref _))) => ?zgo_29) (Z.ns_mk KX G ?za_29)
    (case za_29 => k_is)
    refine' (fun (x_BadLog : Z.XCls _ _) => ?zgo_30) (Z.xcls_mk KX G a_BadLog ?zga_30 ?zgg_30 ?zeB_30 ?zhC_30 ?zhc_30 ?zhn_30 ?zht_30 ?zhm_30 ?ziC_30)
    (case zga_30 => k_is); (case zgg_30 => k_is); (case zeB_30 => k_is); (case zhC_30 => k_is); (case zhc_30 => k_is); (case zhn_30 => k_is); (case zht_30 => k_is); (case zhm_30 => k_is); (case ziC_30 => k_is)
    refine' (fun (c_BadLog : Z.Cls1 _ mg "BadLog" K00.sc_BadLog "log") => ?zgo_31) (Z.cls1_mk KX G a_BadLog ?zxL_31 ?zrB_31 ?zsa_31 ?zeC_31 ?ztC_31 ?zkC_31 x_BadLog ?znf_31 ?za1_31 ?zt1_31 ?zl1_31 ?zc1_31 ?zk1_31 K00.b_BadLog)
    (case zxL_31 => k_is); (case zrB_31 => decide +kernel); (case zsa_31 => k_is); (case zeC_31 => k_is); (case ztC_31 => k_is); (case zkC_31 => k_is); (case znf_31 => k_is); (case za1_31 => k_is); (case zt1_31 => k_is); (case zl1_31 => k_is); (case zc1_31 => k_is); (case zk1_31 => k_is)
    refine' (fun (a_BadMachine : PySem.W.nsIn _ mainGlobals "BadMachine" = some (some (.ref _))) => ?zgo_32) (Z.ns_mk KX G ?za_32)
    (case za_32 => k_is)
    refine' (fun (x_BadMachine : Z.XCls _ _) => ?zgo_33) (Z.xcls_mk KX G a_BadMachine ?zga_33 ?zgg_33 ?zeB_33 ?zhC_33 ?zhc_33 ?zhn_33 ?zht_33 ?zhm_33 ?ziC_33)
    (case zga_33 => k_is); (case zgg_33 => k_is); (case zeB_33 => k_is); (case zhC_33 => k_is); (case zhc_33 => k_is); (case zhn_33 => k_is); (case zht_33 => k_is); (case zhm_33 => k_is); (case ziC_33 => k_is)
    refine' (fun (c_BadMachine : Z.Cls1 _ mg "BadMachine" K00.sc_BadMachine "machine") => ?zgo_34) (Z.cls1_mk KX G a_BadMachine ?zxL_34 ?zrB_34 ?zsa_34 ?zeC_34 ?ztC_34 ?zkC_34 x_BadMachine ?znf_34 ?za1_34 ?zt1_34 ?zl1_34 ?zc1_34 ?zk1_34 K00.b_BadMachine)
    (case zxL_34 => k_is); (case zrB_34 => decide +kernel); (case zsa_34 => k_is); (case zeC_34 => k_is); (case ztC_34 => k_is); (case zkC_34 => k_is); (case znf_34 => k_is); (case za1_34 => k_is); (case zt1_34 => k_is); (case zl1_34 => k_is); (case zc1_34 => k_is); (case zk1_34 => k_is)
    refine' (fun (a_BadWriter : PySem.W.nsIn _ mainGlobals "BadWriter" = some (some (.ref _))) => ?zgo_35) (Z.ns_mk KX G ?za_35)
    (case za_35 => k_is)
    refine' (fun (x_BadWriter : Z.XCls _ _) => ?zgo_36) (Z.xcls_mk KX G a_BadWriter ?zga_36 ?zgg_36 ?zeB_36 ?zhC_36 ?zhc_36 ?zhn_36 ?zht_36 ?zhm_36 ?ziC_36)
    (case zga_36 => k_is); (case zgg_36 => k_is); (case zeB_36 => k_is); (case zhC_36 => k_is); (case zhc_36 => k_is); (case zhn_36 => k_is); (case zht_36 => k_is); (case zhm_36 => k_is); (case ziC_36 => k_is)
    refine' (fun (c_BadWriter : Z.Cls1 _ mg "BadWriter" K00.sc_BadWriter "writer") => ?zgo_37) (Z.cls1_mk KX G a_BadWriter ?zxL_37 ?zrB_37 ?zsa_37 ?zeC_37 ?ztC_37 ?zkC_37 x_BadWriter ?znf_37 ?za1_37 ?zt1_37 ?zl1_37 ?zc1_37 ?zk1_37 K00.b_BadWriter)
    (case zxL_37 => k_is); (case zrB_37 => decide +kernel); (case zsa_37 => k_is); (case zeC_37 => k_is); (case ztC_37 => k_is); (case zkC_37 => k_is); (case znf_37 => k_is); (case za1_37 => k_is); (case zt1_37 => k_is); (case zl1_37 => k_is); (case zc1_37 => k_is); (case zk1_37 => k_is)
    refine' (fun (a_BadPair : PySem.W.nsIn _ mainGlobals "BadPair" = some (some (.ref _))) => ?zgo_38) (Z.ns_mk KX G ?za_38)
    (case za_38 => k_is)
    refine' (fun (x_BadPair : Z.XCls _ _) => ?zgo_39) (Z.xcls_mk KX G a_BadPair ?zga_39 ?zgg_39 ?zeB_39 ?zhC_39 ?zhc_39 ?zhn_39 ?zht_39 ?zhm_39 ?ziC_39)
    (case zga_39 => k_is); (case zgg_39 => k_is); (case zeB_39 => k_is); (case zhC_39 => k_is); (case zhc_39 => k_is); (case zhn_39 => k_is); (case zht_39 => k_is); (case zhm_39 => k_is); (case ziC_39 => k_is)
    refine' (fun (c_BadPair : Z.Cls1 _ mg "BadPair" K00.sc_BadPair "pair") => ?zgo_40) (Z.cls1_mk KX G a_BadPair ?zxL_40 ?zrB_40 ?zsa_40 ?zeC_40 ?ztC_40 ?zkC_40 x_BadPair ?znf_40 ?za1_40 ?zt1_40 ?zl1_40 ?zc1_40 ?zk1_40 K00.b_BadPair)
    (case zxL_40 => k_is); (case zrB_40 => decide +kernel); (case zsa_40 => k_is); (case zeC_40 => k_is); (case ztC_40 => k_is); (case zkC_40 => k_is); (case znf_40 => k_is); (case za1_40 => k_is); (case zt1_40 => k_is); (case zl1_40 => k_is); (case zc1_40 => k_is); (case zk1_40 => k_is)
    refine' (fun (a_BadLot : PySem.W.nsIn _ mainGlobals "BadLot" = some (some (.ref _))) => ?zgo_41) (Z.ns_mk KX G ?za_41)
    (case za_41 => k_is)
    refine' (fun (x_BadLot : Z.XCls _ _) => ?zgo_42) (Z.xcls_mk KX G a_BadLot ?zga_42 ?zgg_42 ?zeB_42 ?zhC_42 ?zhc_42 ?zhn_42 ?zht_42 ?zhm_42 ?ziC_42)
    (case zga_42 => k_is); (case zgg_42 => k_is); (case zeB_42 => k_is); (case zhC_42 => k_is); (case zhc_42 => k_is); (case zhn_42 => k_is); (case zht_42 => k_is); (case zhm_42 => k_is); (case ziC_42 => k_is)
    refine' (fun (c_BadLot : Z.Cls1 _ mg "BadLot" K00.sc_BadLot "lot") => ?zgo_43) (Z.cls1_mk KX G a_BadLot ?zxL_43 ?zrB_43 ?zsa_43 ?zeC_43 ?ztC_43 ?zkC_43 x_BadLot ?znf_43 ?za1_43 ?zt1_43 ?zl1_43 ?zc1_43 ?zk1_43 K00.b_BadLot)
    (case zxL_43 => k_is); (case zrB_43 => decide +kernel); (case zsa_43 => k_is); (case zeC_43 => k_is); (case ztC_43 => k_is); (case zkC_43 => k_is); (case znf_43 => k_is); (case za1_43 => k_is); (case zt1_43 => k_is); (case zl1_43 => k_is); (case zc1_43 => k_is); (case zk1_43 => k_is)
    refine' (fun (a_BadJob : PySem.W.nsIn _ mainGlobals "BadJob" = some (some (.ref _))) => ?zgo_44) (Z.ns_mk KX G ?za_44)
    (case za_44 => k_is)
    refine' (fun (x_BadJob : Z.XCls _ _) => ?zgo_45) (Z.xcls_mk KX G a_BadJob ?zga_45 ?zgg_45 ?zeB_45 ?zhC_45 ?zhc_45 ?zhn_45 ?zht_45 ?zhm_45 ?ziC_45)
    (case zga_45 => k_is); (case zgg_45 => k_is); (case zeB_45 => k_is); (case zhC_45 => k_is); (case zhc_45 => k_is); (case zhn_45 => k_is); (case zht_45 => k_is); (case zhm_45 => k_is); (case ziC_45 => k_is)
    refine' (fun (c_BadJob : Z.Cls1 _ mg "BadJob" K00.sc_BadJob "job") => ?zgo_46) (Z.cls1_mk KX G a_BadJob ?zxL_46 ?zrB_46 ?zsa_46 ?zeC_46 ?ztC_46 ?zkC_46 x_BadJob ?znf_46 ?za1_46 ?zt1_46 ?zl1_46 ?zc1_46 ?zk1_46 K00.b_BadJob)
    (case zxL_46 => k_is); (case zrB_46 => decide +kernel); (case zsa_46 => k_is); (case zeC_46 => k_is); (case ztC_46 => k_is); (case zkC_46 => k_is); (case znf_46 => k_is); (case za1_46 => k_is); (case zt1_46 => k_is); (case zl1_46 => k_is); (case zc1_46 => k_is); (case zk1_46 => k_is)
    refine' (fun (a_BadAnswers : PySem.W.nsIn _ mainGlobals "BadAnswers" = some (some (.ref _))) => ?zgo_47) (Z.ns_mk KX G ?za_47)
    (case za_47 => k_is)
    refine' (fun (x_BadAnswers : Z.XCls _ _) => ?zgo_48) (Z.xcls_mk KX G a_BadAnswers ?zga_48 ?zgg_48 ?zeB_48 ?zhC_48 ?zhc_48 ?zhn_48 ?zht_48 ?zhm_48 ?ziC_48)
    (case zga_48 => k_is); (case zgg_48 => k_is); (case zeB_48 => k_is); (case zhC_48 => k_is); (case zhc_48 => k_is); (case zhn_48 => k_is); (case zht_48 => k_is); (case zhm_48 => k_is); (case ziC_48 => k_is)
    refine' (fun (c_BadAnswers : Z.Cls1 _ mg "BadAnswers" K00.sc_BadAnswers "answers") => ?zgo_49) (Z.cls1_mk KX G a_BadAnswers ?zxL_49 ?zrB_49 ?zsa_49 ?zeC_49 ?ztC_49 ?zkC_49 x_BadAnswers ?znf_49 ?za1_49 ?zt1_49 ?zl1_49 ?zc1_49 ?zk1_49 K00.b_BadAnswers)
    (case zxL_49 => k_is); (case zrB_49 => decide +kernel); (case zsa_49 => k_is); (case zeC_49 => k_is); (case ztC_49 => k_is); (case zkC_49 => k_is); (case znf_49 => k_is); (case za1_49 => k_is); (case zt1_49 => k_is); (case zl1_49 => k_is); (case zc1_49 => k_is); (case zk1_49 => k_is)
    refine' (fun (a_BadPaper : PySem.W.nsIn _ mainGlobals "BadPaper" = some (some (.ref _))) => ?zgo_50) (Z.ns_mk KX G ?za_50)
    (case za_50 => k_is)
    refine' (fun (x_BadPaper : Z.XCls _ _) => ?zgo_51) (Z.xcls_mk KX G a_BadPaper ?zga_51 ?zgg_51 ?zeB_51 ?zhC_51 ?zhc_51 ?zhn_51 ?zht_51 ?zhm_51 ?ziC_51)
    (case zga_51 => k_is); (case zgg_51 => k_is); (case zeB_51 => k_is); (case zhC_51 => k_is); (case zhc_51 => k_is); (case zhn_51 => k_is); (case zht_51 => k_is); (case zhm_51 => k_is); (case ziC_51 => k_is)
    refine' (fun (c_BadPaper : Z.Cls1 _ mg "BadPaper" K00.sc_BadPaper "paper") => ?zgo_52) (Z.cls1_mk KX G a_BadPaper ?zxL_52 ?zrB_52 ?zsa_52 ?zeC_52 ?ztC_52 ?zkC_52 x_BadPaper ?znf_52 ?za1_52 ?zt1_52 ?zl1_52 ?zc1_52 ?zk1_52 K00.b_BadPaper)
    (case zxL_52 => k_is); (case zrB_52 => decide +kernel); (case zsa_52 => k_is); (case zeC_52 => k_is); (case ztC_52 => k_is); (case zkC_52 => k_is); (case znf_52 => k_is); (case za1_52 => k_is); (case zt1_52 => k_is); (case zl1_52 => k_is); (case zc1_52 => k_is); (case zk1_52 => k_is)
    refine' (fun (a_BadEntry : PySem.W.nsIn _ mainGlobals "BadEntry" = some (some (.ref _))) => ?zgo_53) (Z.ns_mk KX G ?za_53)
    (case za_53 => k_is)
    refine' (fun (x_BadEntry : Z.XCls _ _) => ?zgo_54) (Z.xcls_mk KX G a_BadEntry ?zga_54 ?zgg_54 ?zeB_54 ?zhC_54 ?zhc_54 ?zhn_54 ?zht_54 ?zhm_54 ?ziC_54)
    (case zga_54 => k_is); (case zgg_54 => k_is); (case zeB_54 => k_is); (case zhC_54 => k_is); (case zhc_54 => k_is); (case zhn_54 => k_is); (case zht_54 => k_is); (case zhm_54 => k_is); (case ziC_54 => k_is)
    refine' (fun (c_BadEntry : Z.Cls1 _ mg "BadEntry" K00.sc_BadEntry "line") => ?zgo_55) (Z.cls1_mk KX G a_BadEntry ?zxL_55 ?zrB_55 ?zsa_55 ?zeC_55 ?ztC_55 ?zkC_55 x_BadEntry ?znf_55 ?za1_55 ?zt1_55 ?zl1_55 ?zc1_55 ?zk1_55 K00.b_BadEntry)
    (case zxL_55 => k_is); (case zrB_55 => decide +kernel); (case zsa_55 => k_is); (case zeC_55 => k_is); (case ztC_55 => k_is); (case zkC_55 => k_is); (case znf_55 => k_is); (case za1_55 => k_is); (case zt1_55 => k_is); (case zl1_55 => k_is); (case zc1_55 => k_is); (case zk1_55 => k_is)
    refine' (fun (a_NotKept : PySem.W.nsIn _ mainGlobals "NotKept" = some (some (.ref _))) => ?zgo_56) (Z.ns_mk KX G ?za_56)
    (case za_56 => k_is)
    refine' (fun (x_NotKept : Z.XCls _ _) => ?zgo_57) (Z.xcls_mk KX G a_NotKept ?zga_57 ?zgg_57 ?zeB_57 ?zhC_57 ?zhc_57 ?zhn_57 ?zht_57 ?zhm_57 ?ziC_57)
    (case zga_57 => k_is); (case zgg_57 => k_is); (case zeB_57 => k_is); (case zhC_57 => k_is); (case zhc_57 => k_is); (case zhn_57 => k_is); (case zht_57 => k_is); (case zhm_57 => k_is); (case ziC_57 => k_is)
    refine' (fun (c_NotKept : Z.Cls2 _ mg "NotKept" K00.sc_NotKept "promise" "witness") => ?zgo_58) (Z.cls2_mk KX G a_NotKept ?zxL_58 ?zrB_58 ?zsa_58 ?zeC_58 ?ztC_58 ?zkC_58 x_NotKept ?znf_58 ?znf2_58 ?za1_58 ?zt1_58 ?zl1_58 ?zc1_58 ?zk1_58 K00.b_NotKept)
    (case zxL_58 => k_is); (case zrB_58 => decide +kernel); (case zsa_58 => k_is); (case zeC_58 => k_is); (case ztC_58 => k_is); (case zkC_58 => k_is); (case znf_58 => k_is); (case znf2_58 => k_is); (case za1_58 => k_is); (case zt1_58 => k_is); (case zl1_58 => k_is); (case zc1_58 => k_is); (case zk1_58 => k_is)
    refine' (fun (a_NothingToUndo : PySem.W.nsIn _ mainGlobals "NothingToUndo" = some (some (.ref _))) => ?zgo_59) (Z.ns_mk KX G ?za_59)
    (case za_59 => k_is)
    refine' (fun (x_NothingToUndo : Z.XCls _ _) => ?zgo_60) (Z.xcls_mk KX G a_NothingToUndo ?zga_60 ?zgg_60 ?zeB_60 ?zhC_60 ?zhc_60 ?zhn_60 ?zht_60 ?zhm_60 ?ziC_60)
    (case zga_60 => k_is); (case zgg_60 => k_is); (case zeB_60 => k_is); (case zhC_60 => k_is); (case zhc_60 => k_is); (case zhn_60 => k_is); (case zht_60 => k_is); (case zhm_60 => k_is); (case ziC_60 => k_is)
    refine' (fun (c_NothingToUndo : Z.Cls0 _ mg "NothingToUndo") => ?zgo_61) (Z.cls0_mk KX G a_NothingToUndo PySem.F.excBase_ValueError ?zq_61 ?zkC_61 x_NothingToUndo)
    (case zq_61 => k_exc); (case zkC_61 => k_is)
    refine' (fun (a_NothingToRedo : PySem.W.nsIn _ mainGlobals "NothingToRedo" = some (some (.ref _))) => ?zgo_62) (Z.ns_mk KX G ?za_62)
    (case za_62 => k_is)
    refine' (fun (x_NothingToRedo : Z.XCls _ _) => ?zgo_63) (Z.xcls_mk KX G a_NothingToRedo ?zga_63 ?zgg_63 ?zeB_63 ?zhC_63 ?zhc_63 ?zhn_63 ?zht_63 ?zhm_63 ?ziC_63)
    (case zga_63 => k_is); (case zgg_63 => k_is); (case zeB_63 => k_is); (case zhC_63 => k_is); (case zhc_63 => k_is); (case zhn_63 => k_is); (case zht_63 => k_is); (case zhm_63 => k_is); (case ziC_63 => k_is)
    refine' (fun (c_NothingToRedo : Z.Cls0 _ mg "NothingToRedo") => ?zgo_64) (Z.cls0_mk KX G a_NothingToRedo PySem.F.excBase_ValueError ?zq_64 ?zkC_64 x_NothingToRedo)
    (case zq_64 => k_exc); (case zkC_64 => k_is)
    refine' (fun (n_ValueError : mg "ValueError" = none) => ?zgo_65) (Z.none_mk KX G ?zz_65)
    (case zz_65 => k_is)
    refine' (fun (n_int : mg "int" = none) => ?zgo_66) (Z.none_mk KX G ?zz_66)
    (case zz_66 => k_is)
    refine' (fun (n_isinstance : mg "isinstance" = none) => ?zgo_67) (Z.none_mk KX G ?zz_67)
    (case zz_67 => k_is)
    refine' (fun (n_len : mg "len" = none) => ?zgo_68) (Z.none_mk KX G ?zz_68)
    (case zz_68 => k_is)
    refine' (fun (n_list : mg "list" = none) => ?zgo_69) (Z.none_mk KX G ?zz_69)
    (case zz_69 => k_is)
    refine' (fun (n_range : mg "range" = none) => ?zgo_70) (Z.none_mk KX G ?zz_70)
    (case zz_70 => k_is)
    refine' (fun (n_repr : mg "repr" = none) => ?zgo_71) (Z.none_mk KX G ?zz_71)
    (case zz_71 => k_is)
    refine' (fun (kt : Z.KOk _ mg K00.kt) => ?zgo_72) (Z.kok_of KX G (Z.allat_cons KX G a_BadText x_BadText (Z.allat_cons KX G a_BadNumber x_BadNumber (Z.allat_cons KX G a_BadName x_BadName (Z.allat_cons KX G a_NoName x_NoName (Z.allat_cons KX G a_TakenName x_TakenName (Z.allat_cons KX G a_BadKinds x_BadKinds (Z.allat_cons KX G a_BadLog x_BadLog (Z.allat_cons KX G a_BadMachine x_BadMachine (Z.allat_cons KX G a_BadWriter x_BadWriter (Z.allat_cons KX G a_BadPair x_BadPair (Z.allat_cons KX G a_BadLot x_BadLot (Z.allat_cons KX G a_BadJob x_BadJob (Z.allat_cons KX G a_BadAnswers x_BadAnswers (Z.allat_cons KX G a_BadPaper x_BadPaper (Z.allat_cons KX G a_BadEntry x_BadEntry (Z.allat_cons KX G a_NotKept x_NotKept (Z.allat_cons KX G a_NothingToUndo x_NothingToUndo (Z.allat_cons KX G a_NothingToRedo x_NothingToRedo Z.allat_nil)))))))))))))))))) rfl a_NoteError ?zkk_72)
    (case zkk_72 => first | k_is | rfl | decide +kernel)
    exact Z.fin_mk d_law hmg (fun _ _ _ _ _ _ _ => rfl) fun f fd F base => K00.wl_law ⟨d__law_draw, d__law_single, d__law_one, d__law_pen, d__law_pick, d__law_which, d_law, c_NoteError, c_BadText, c_BadNumber, c_BadName, c_NoName, c_TakenName, c_BadKinds, c_BadLog, c_BadMachine, c_BadWriter, c_BadPair, c_BadLot, c_BadJob, c_BadAnswers, c_BadPaper, c_BadEntry, c_NotKept, c_NothingToUndo, c_NothingToRedo, n_ValueError, n_int, n_isinstance, n_len, n_list, n_range, n_repr, kt⟩ F

