import PyProof.Rows.All
import Wide.All
import OpenK.AllK
import Wide.FinOn
import HandS.ForMost
import HandS.ForExc
import HandS.CallSlots
import HandS.ExcInit
import HandS.Lambda
import KE.KNest
import HandS.TupAny
import HandS.TupLe
import HandS.TupMul
import HandS.Style
import HandS.Wide
import HandS.IsInst
import HandS.Deep
import HandS.TupLen
import HandS.AnyAll
import KE.DataCmp
import PyProof.ReprRoads
import HandS.SetKeys
import HandS.Conv
import HandS.RaiseMore
import HandS.Zip
import KE.GoesMore
import HandS.DictComp
import HandS.Small
import HandS.ExcValue
import HandS.ExcField
import HandS.ExcIs
import KE.KExcIs
import HandS.TryMany
import HandS.EndTab
import KE.SortData
import KE.DatumOrd
import PySem.Challenge.RW_notednames_k01_whole_logs
set_option Elab.async false
set_option linter.all false
set_option maxRecDepth 100000
set_option maxHeartbeats 4000000
namespace Z
open PySem
/-- the defs that make lambdas -/
def lamNames : List Str := ["law"]
end Z

namespace Z
open PySem PySem.Spec PyProof.Rows L2

/-! values as trees, an own heap of cells -/
inductive D where
  | non | bl (b : Bool) | int (i : Int) | str (x : Str) | tup (xs : List D) | ref (n : Nat) | glo (x : Str) | ty (n : String) | fl (xs : List D) | sl (xs : List D) | kt (xs : List D) | exc (C : Str) (ns : List Str) (ds : List D) | cau (a d : Nat) (C : Str) (ns : List Str) (ds : List D)
inductive Cell where
  | lst (xs : List D) | dic (kvs : List (D × D)) | ins (C : Str) (fs : List (Str × D))
abbrev M := List Cell
abbrev Rho := List (Option D)
structure Xn where
  cls : Str
  fs : List (Str × D)
inductive R (α : Type) where
  | ok (a : α) (m : M) | err (x : Xn) (m : M) | bad
/-- what the names of the module stand for; addresses that no value may stand for -/
abbrev G := (Str → Option Value) × List Addr
def R.bind {α β : Type} (r : R α) (k : α → M → R β) : R β := R.casesOn (motive := fun _ => R β) r k (fun x m => .err x m) .bad
abbrev EF := Rho → M → R D
abbrev TF := Rho → M → R Bool
abbrev AF := Rho → M → R (List D)
abbrev FF := List D → M → R D
inductive Fl where
  | nx (ρ : Rho) | rt (d : D) | bk (ρ : Rho) | ct (ρ : Rho) | er (x : Xn) (ρ : Rho)
abbrev SF := Rho → M → Option (Fl × M)

/-- a tuple of the written part -/
def SqC (K : PySem.W.Frag) (a : Addr) (xs : List V) : Prop := ∃ (o : Obj) (its : Array Value) (n : Nat), K.lookup a = some o ∧ o.cls = .type "tuple" ∧ o.data = .seq its n ∧ its.size ≤ sizeLine ∧ Vals xs its.toList
theorem SqC.sq {K : PySem.W.Frag} {H : Hp} {a : Addr} {xs : List V} (h : SqC K a xs) : SqT K H a xs := .inr h
/-- a list that is read alone: locked, or of the written part -/
def SqF (K : PySem.W.Frag) (H : Hp) (a : Addr) (xs : List V) : Prop := (∃ o, H a = some (.frz o (.lst xs))) ∨
    ∃ (o : Obj) (its : Array Value) (n : Nat), K.lookup a = some o ∧ o.cls = .type "list" ∧ o.dict = none ∧ o.data = .seq its n ∧ its.size ≤ sizeLine ∧ Vals xs its.toList
theorem SqF.sq {K : PySem.W.Frag} {H : Hp} {a : Addr} {xs : List V} (h : SqF K H a xs) : SqL K H a xs := by
  rcases h with ⟨o, h⟩ | h
  · exact .inl (.inr ⟨o, h⟩)
  · exact .inr h
section
variable (K : PySem.W.Frag) (mg : G) (ι : List Addr) (H : Hp)
mutual
inductive Rep : D → V → Prop
  | non : Rep .non .non
  | bl (b : Bool) : Rep (.bl b) (.bl b)
  | int (i : Int) : Rep (.int i) (.int i)
  | str (x : Str) : Rep (.str x) (.str x)
  | tup {xs : List D} {a : Addr} {vs : List V} : H a = some (.tup vs) → RepL xs vs → Rep (.tup xs) (.ref a)
  | ref {n : Nat} {a : Addr} : ι[n]? = some a → Rep (.ref n) (.ref a)
  | glo {x : Str} {a : Addr} : mg.1 x = some (.ref a) → Rep (.glo x) (.ref a)
  | ty (n : String) : Rep (.ty n) (.ty n)
  | fl {xs : List D} {a : Addr} {vs : List V} : SqF K H a vs → RepL xs vs → Rep (.fl xs) (.ref a)
  | sl {xs : List D} {a : Addr} {vs : List V} : a ∉ ι ++ mg.2 → H a = some (.lst vs) → RepL xs vs → Rep (.sl xs) (.ref a)
  | kt {xs : List D} {a : Addr} {vs : List V} : SqC K a vs → RepL xs vs → Rep (.kt xs) (.ref a)
  | exc {C : Str} {ns : List Str} {ds : List D} {vs : List V} {a CA dx : Addr} : mg.1 C = some (.ref CA) → a ∉ ι → dx ∉ ι → H a = some (exo a CA (some dx)) → H dx = some (exd dx (ns.zip vs)) → RepL ds vs → Rep (.exc C ns ds) (.ref a)
  | cau {C : Str} {ns : List Str} {ds : List D} {vs : List V} {a dd : Addr} : dd ∉ ι → H dd = some (.xd (ns.zip vs)) → RepL ds vs → Rep (.cau a dd C ns ds) (.ref a)
  | ex0 {C : Str} {a CA : Addr} : mg.1 C = some (.ref CA) → a ∉ ι → H a = some (exo a CA none) → Rep (.exc C [] []) (.ref a)
inductive RepL : List D → List V → Prop
  | nil : RepL [] []
  | cons {d : D} {v : V} {ds : List D} {vs : List V} : Rep d v → RepL ds vs → RepL (d :: ds) (v :: vs)
end
end

def keyOf : D → Option Key
  | .int i => some (.inl i)
  | .str x => some (.inr x)
  | _ => none
def keysOf : List D → Option (List Key)
  | [] => some []
  | d :: ds => match keyOf d, keysOf ds with
    | some k, some ks => some (k :: ks)
    | _, _ => none
def keyT : D → Option (List Key)
  | .tup ds => keysOf ds
  | _ => none

/-- no table of code objects -/
def NT (o : HO) : Prop := ∀ ps, o ≠ .tbl ps
theorem nt_lst {xs : List V} : NT (.lst xs) := fun _ h => by cases h
theorem nt_dK {xs : List (Key × V)} : NT (.dK xs) := fun _ h => by cases h
theorem nt_dT {xs : List (List Key × V)} : NT (.dT xs) := fun _ h => by cases h
theorem nt_xd {xs : List (Str × V)} : NT (.xd xs) := fun _ h => by cases h
theorem nt_exo {a C : Addr} {d : Option Addr} : NT (exo a C d) := fun _ h => by unfold exo at h; cases h
theorem nt_exd {a : Addr} {fs : List (Str × V)} : NT (exd a fs) := fun _ h => by unfold exd at h; cases h
theorem nt_ins {a b : Addr} {fs : List (Str × V)} : NT (.ins a b fs) := fun _ h => by cases h
/-- the tables of code objects that the lambdas of the named defs want -/
def tabOf (K : PySem.W.Frag) : List (Addr × Str) := lamNames.filterMap fun x => (PySem.W.tabIn K x).map fun cp => (cp.2, x ++ ".<locals>.<lambda>")
section
variable (K : PySem.W.Frag) (mg : G) (ι : List Addr) (H : Hp)
abbrev RepK : List (D × D) → List (Key × V) → Prop := Paired fun (p : D × D) (q : Key × V) => keyOf p.1 = some q.1 ∧ Rep K mg ι H p.2 q.2
abbrev RepT : List (D × D) → List (List Key × V) → Prop := Paired fun (p : D × D) (q : List Key × V) => keyT p.1 = some q.1 ∧ Rep K mg ι H p.2 q.2
abbrev RepF : List (Str × D) → List (Str × V) → Prop := Paired fun (p : Str × D) (q : Str × V) => p.1 = q.1 ∧ Rep K mg ι H p.2 q.2
inductive CellRep : Addr → Cell → Prop
  | lst {a : Addr} {xs : List D} {vs : List V} : H a = some (.lst vs) → RepL K mg ι H xs vs → CellRep a (.lst xs)
  | dK {a : Addr} {kvs : List (D × D)} {ws : List (Key × V)} : H a = some (.dK ws) → RepK K mg ι H kvs ws → CellRep a (.dic kvs)
  | dT {a : Addr} {kvs : List (D × D)} {ws : List (List Key × V)} : H a = some (.dT ws) → RepT K mg ι H kvs ws → CellRep a (.dic kvs)
  | ins {a : Addr} {C : Str} {CA dx : Addr} {fs : List (Str × D)} {ws : List (Str × V)} : mg.1 C = some (.ref CA) → H a = some (.ins CA dx ws) → RepF K mg ι H fs ws → CellRep a (.ins C fs)
structure HR (m : M) : Prop where
  len : ι.length = m.length
  nd : ι.Nodup
  fd : ∀ a ∈ mg.2, ∃ o, NT o ∧ H a = some o
  tb : LamX.Tabs (tabOf K) H
  at' : ∀ (n : Nat) (a : Addr) (c : Cell), ι[n]? = some a → m[n]? = some c → CellRep K mg ι H a c
def EnvR (ρ : Rho) (σ : L2.St) : Prop := ρ.length = σ.length ∧ ∀ (i : Nat) d, ρ[i]? = some (some d) → ∃ v, σ[i]? = some (some v) ∧ Rep K mg ι H d v
/-- an exception of an own class -/
def XRep (x : Xn) (cls : Value) (dd : Option Addr) : Prop := ∃ C, mg.1 x.cls = some (.ref C) ∧ cls = .ref C ∧
  ((x.fs = [] ∧ dd = none) ∨ ∃ d ws, dd = some d ∧ d ∉ ι ∧ H d = some (.xd ws) ∧ RepF K mg ι H x.fs ws)
end
structure Ext (ι : List Addr) (H : Hp) (ι' : List Addr) (H' : Hp) : Prop where
  pre : ∃ t, ι' = ι ++ t ∧ ∀ a ∈ t, ∀ o, H a = some o → ¬ NT o
  tup : ∀ a vs, H a = some (.tup vs) → H' a = some (.tup vs)
  frz : ∀ a o u, H a = some (.frz o u) → H' a = some (.frz o u)
  fr : ∀ a o, NT o → a ∉ ι → H a = some o → H' a = some o
  dom : ∀ a o, NT o → H a = some o → ∃ o', NT o' ∧ H' a = some o'

theorem Ext.refl {ι : List Addr} {H : Hp} : Ext ι H ι H := ⟨⟨[], by simp, by simp⟩, fun _ _ h => h, fun _ _ _ h => h, fun _ _ _ _ h => h, fun _ o n h => ⟨o, n, h⟩⟩
theorem Ext.trans {ι ι1 ι2 : List Addr} {H H1 H2 : Hp} (a : Ext ι H ι1 H1) (b : Ext ι1 H1 ι2 H2) : Ext ι H ι2 H2 := by
  obtain ⟨t1, e1, n1⟩ := a.pre
  obtain ⟨t2, e2, n2⟩ := b.pre
  refine ⟨⟨t1 ++ t2, by rw [e2, e1, List.append_assoc], fun x hx => ?_⟩, fun x vs h => b.tup x vs (a.tup x vs h), fun x o u h => b.frz x o u (a.frz x o u h), fun x o hn hx h => ?_, fun x o hn h => ?_⟩
  · rcases List.mem_append.mp hx with h | h
    · exact n1 x h
    · intro o q hn
      obtain ⟨o', hn', q'⟩ := a.dom x o hn q
      exact n2 x h o' q' hn'
  · have h1 := a.fr x o hn hx h
    refine b.fr x o hn ?_ h1
    rw [e1]
    intro hm
    rcases List.mem_append.mp hm with h2 | h2
    · exact hx h2
    · exact n1 x h2 o h hn
  · obtain ⟨o', hn', q'⟩ := a.dom x o hn h
    exact b.dom x o' hn' q'

section
variable {K : PySem.W.Frag} {mg : G} {ι ι' : List Addr} {H H' : Hp}
theorem Ext.get (e : Ext ι H ι' H') {n : Nat} {a : Addr} (h : ι[n]? = some a) : ι'[n]? = some a := by
  obtain ⟨t, rfl, _⟩ := e.pre
  rw [List.getElem?_append_left (List.getElem?_eq_some_iff.mp h).1]
  exact h
theorem Ext.sqF (e : Ext ι H ι' H') {a : Addr} {vs : List V} (h : SqF K H a vs) : SqF K H' a vs := by
  rcases h with ⟨o, h⟩ | h
  · exact .inl ⟨o, e.frz _ _ _ h⟩
  · exact .inr h
theorem Ext.outF (e : Ext ι H ι' H') {a : Addr} {o : HO} {F : List Addr} (hn : NT o) (n : a ∉ ι ++ F) (h : H a = some o) : a ∉ ι' ++ F := by
  obtain ⟨t, rfl, ht⟩ := e.pre
  intro hm
  rcases List.mem_append.mp hm with h1 | h1
  · rcases List.mem_append.mp h1 with h2 | h2
    · exact n (List.mem_append_left _ h2)
    · exact ht a h2 o h hn
  · exact n (List.mem_append_right _ h1)
theorem Ext.out (e : Ext ι H ι' H') {a : Addr} {o : HO} (hn : NT o) (n : a ∉ ι) (h : H a = some o) : a ∉ ι' := by
  obtain ⟨t, rfl, ht⟩ := e.pre
  intro hm
  rcases List.mem_append.mp hm with h1 | h1
  · exact n h1
  · exact ht a h1 o h hn
mutual
theorem Rep.mono (e : Ext ι H ι' H') : ∀ {d : D} {v : V}, Rep K mg ι H d v → Rep K mg ι' H' d v
  | _, _, .non => .non
  | _, _, .bl b => .bl b
  | _, _, .int i => .int i
  | _, _, .str x => .str x
  | _, _, .tup h r => .tup (e.tup _ _ h) (RepL.mono e r)
  | _, _, .ref h => .ref (e.get h)
  | _, _, .glo h => .glo h
  | _, _, .ty n => .ty n
  | _, _, .fl h r => .fl (e.sqF h) (RepL.mono e r)
  | _, _, .sl n h r => .sl (e.outF nt_lst n h) (e.fr _ _ nt_lst (fun q => n (List.mem_append_left _ q)) h) (RepL.mono e r)
  | _, _, .exc c na nd ha hd r => .exc c (e.out nt_exo na ha) (e.out nt_exd nd hd) (e.fr _ _ nt_exo na ha) (e.fr _ _ nt_exd nd hd) (RepL.mono e r)
  | _, _, .ex0 c na ha => .ex0 c (e.out nt_exo na ha) (e.fr _ _ nt_exo na ha)
  | _, _, .cau n h r => .cau (e.out nt_xd n h) (e.fr _ _ nt_xd n h) (RepL.mono e r)
  | _, _, .kt h r => .kt h (RepL.mono e r)
theorem RepL.mono (e : Ext ι H ι' H') : ∀ {ds : List D} {vs : List V}, RepL K mg ι H ds vs → RepL K mg ι' H' ds vs
  | _, _, .nil => .nil
  | _, _, .cons h r => .cons (Rep.mono e h) (RepL.mono e r)
end
theorem paired_mono {α β : Type} {F G : α → β → Prop} (h : ∀ a b, F a b → G a b) : ∀ {l₁ : List α} {l₂ : List β}, Paired F l₁ l₂ → Paired G l₁ l₂
  | _, _, .nil => .nil
  | _, _, .cons r t => .cons (h _ _ r) (paired_mono h t)
theorem EnvR.mono {ρ : Rho} {σ : L2.St} (e : Ext ι H ι' H') (h : EnvR K mg ι H ρ σ) : EnvR K mg ι' H' ρ σ :=
  ⟨h.1, fun i d hi => let ⟨v, h1, h2⟩ := h.2 i d hi; ⟨v, h1, h2.mono e⟩⟩
theorem EnvR.set {ρ : Rho} {σ : L2.St} {d : D} {v : V} (h : EnvR K mg ι H ρ σ) (i : Nat) (r : Rep K mg ι H d v) : EnvR K mg ι H (ρ.set i (some d)) (σ.set i (some v)) := by
  refine ⟨by simp [h.1], fun j d' hj => ?_⟩
  by_cases e : i = j
  · subst e
    have hl : i < ρ.length := by
      have := (List.getElem?_eq_some_iff.mp hj).1
      simpa using this
    rw [List.getElem?_set_self hl] at hj
    cases hj
    exact ⟨v, List.getElem?_set_self (by rw [← h.1]; exact hl), r⟩
  · rw [List.getElem?_set_ne e] at hj
    obtain ⟨v', h1, h2⟩ := h.2 j d' hj
    exact ⟨v', by rw [List.getElem?_set_ne e]; exact h1, h2⟩
theorem RepL.length : ∀ {ds : List D} {vs : List V}, RepL K mg ι H ds vs → ds.length = vs.length
  | _, _, .nil => rfl
  | _, _, .cons _ r => by simp [RepL.length r]
theorem RepL.get : ∀ {ds : List D} {vs : List V} {i : Nat} {d : D}, RepL K mg ι H ds vs → ds[i]? = some d → ∃ v, vs[i]? = some v ∧ Rep K mg ι H d v
  | _, _, _, _, .nil, h => by simp at h
  | _, _, 0, _, .cons r _, h => by simp at h; subst h; exact ⟨_, rfl, r⟩
  | _, _, i + 1, d, .cons _ t, h => by
    obtain ⟨v, h1, h2⟩ := RepL.get (i := i) (d := d) t (by simpa using h)
    exact ⟨v, by simpa using h1, h2⟩
theorem RepL.append : ∀ {ds es : List D} {vs us : List V}, RepL K mg ι H ds vs → RepL K mg ι H es us → RepL K mg ι H (ds ++ es) (vs ++ us)
  | _, _, _, _, .nil, s => s
  | _, _, _, _, .cons r t, s => .cons r (RepL.append t s)
theorem RepL.take : ∀ (n : Nat) {ds : List D} {vs : List V}, RepL K mg ι H ds vs → RepL K mg ι H (ds.take n) (vs.take n)
  | 0, _, _, _ => by simp; exact .nil
  | n + 1, _, _, .nil => .nil
  | n + 1, _, _, .cons r t => .cons r (RepL.take n t)
theorem RepL.drop : ∀ (n : Nat) {ds : List D} {vs : List V}, RepL K mg ι H ds vs → RepL K mg ι H (ds.drop n) (vs.drop n)
  | 0, _, _, h => h
  | n + 1, _, _, .nil => .nil
  | n + 1, _, _, .cons r t => RepL.drop n t
theorem RepL.eraseIdx : ∀ (n : Nat) {ds : List D} {vs : List V}, RepL K mg ι H ds vs → RepL K mg ι H (ds.eraseIdx n) (vs.eraseIdx n)
  | _, _, _, .nil => .nil
  | 0, _, _, .cons r t => t
  | n + 1, _, _, .cons r t => .cons r (RepL.eraseIdx n t)
theorem RepL.setAt {d : D} {v : V} (q : Rep K mg ι H d v) : ∀ (n : Nat) {ds : List D} {vs : List V}, RepL K mg ι H ds vs → RepL K mg ι H (ds.set n d) (vs.set n v)
  | _, _, _, .nil => .nil
  | 0, _, _, .cons r t => .cons q t
  | n + 1, _, _, .cons r t => .cons r (RepL.setAt q n t)
theorem RepL.rev : ∀ {ds : List D} {vs : List V}, RepL K mg ι H ds vs → RepL K mg ι H ds.reverse vs.reverse
  | _, _, .nil => .nil
  | _, _, .cons r t => by rw [List.reverse_cons, List.reverse_cons]; exact (RepL.rev t).append (.cons r .nil)

/-- a cell under a growth that leaves its own object -/
theorem CellRep.mono {a : Addr} {c : Cell} (e : Ext ι H ι' H') (he : ∀ o, H a = some o → H' a = some o) (h : CellRep K mg ι H a c) : CellRep K mg ι' H' a c := by
  cases h with
  | lst h r => exact .lst (he _ h) (r.mono e)
  | dK h r => exact .dK (he _ h) (paired_mono (fun _ _ ⟨x, y⟩ => ⟨x, y.mono e⟩) r)
  | dT h r => exact .dT (he _ h) (paired_mono (fun _ _ ⟨x, y⟩ => ⟨x, y.mono e⟩) r)
  | ins hc h r => exact .ins hc (he _ h) (paired_mono (fun _ _ ⟨x, y⟩ => ⟨x, y.mono e⟩) r)
theorem CellRep.there {a : Addr} {c : Cell} (h : CellRep K mg ι H a c) : ∃ o, H a = some o := by
  cases h with
  | lst h r => exact ⟨_, h⟩
  | dK h r => exact ⟨_, h⟩
  | dT h r => exact ⟨_, h⟩
  | ins hc h r => exact ⟨_, h⟩
/-- an address of a cell that is written is tracked -/
theorem HR.lt {m : M} (h : HR K mg ι H m) {n : Nat} {a : Addr} (e : ι[n]? = some a) : ∃ c, m[n]? = some c ∧ CellRep K mg ι H a c := by
  have hn : n < m.length := by rw [← h.len]; exact (List.getElem?_eq_some_iff.mp e).1
  exact ⟨m[n], List.getElem?_eq_getElem hn, h.at' n a _ e (List.getElem?_eq_getElem hn)⟩

/-- nothing but new objects: a new untracked-by-us object at p -/
theorem Ext.side {p : Addr} {o : HO} (hp : H p = none) : Ext ι H ι (upd H p o) :=
  ⟨⟨[], by simp, by simp⟩, fun a vs h => by rw [upd_ne (ne_of_none h hp)]; exact h, fun a o u h => by rw [upd_ne (ne_of_none h hp)]; exact h, fun a o _ _ h => by rw [upd_ne (ne_of_none h hp)]; exact h,
    fun a o hn h => ⟨o, hn, by rw [upd_ne (ne_of_none h hp)]; exact h⟩⟩
/-- a new cell at p -/
theorem Ext.cell {p : Addr} {o : HO} (hp : H p = none) : Ext ι H (ι ++ [p]) (upd H p o) :=
  ⟨⟨[p], rfl, fun a h o q => by rw [List.mem_singleton.mp h, hp] at q; cases q⟩, (Ext.side (ι := ι) hp).tup, (Ext.side (ι := ι) hp).frz, (Ext.side (ι := ι) hp).fr, (Ext.side (ι := ι) hp).dom⟩
theorem HR.mem {m : M} (h : HR K mg ι H m) {a : Addr} (ha : a ∈ ι) : ∃ o, H a = some o := by
  obtain ⟨n, hn⟩ := List.getElem?_of_mem ha
  obtain ⟨c, _, hc⟩ := h.lt hn
  exact hc.there
/-- a new object beside the cells -/
theorem HR.side {m : M} (h : HR K mg ι H m) {p : Addr} {o : HO} (hp : H p = none) : HR K mg ι (upd H p o) m :=
  ⟨h.len, h.nd, fun a ha => (let ⟨o, n, q⟩ := h.fd a ha; (Ext.side (ι := ι) hp).dom a o n q), LamX.Tabs.ext h.tb (fun b o q => by rw [upd_ne (ne_of_none q hp)]; exact q), fun n a c h1 h2 => (h.at' n a c h1 h2).mono (Ext.side hp) fun o' e => by rw [upd_ne (ne_of_none e hp)]; exact e⟩
/-- a new cell -/
theorem HR.cell {m : M} (h : HR K mg ι H m) {p : Addr} {o : HO} {c : Cell} (hp : H p = none) (hc : CellRep K mg (ι ++ [p]) (upd H p o) p c) : HR K mg (ι ++ [p]) (upd H p o) (m ++ [c]) := by
  refine ⟨by simp [h.len], ?_, fun a ha => (let ⟨o, n, q⟩ := h.fd a ha; (Ext.side (ι := ι) hp).dom a o n q), LamX.Tabs.ext h.tb (fun b o q => by rw [upd_ne (ne_of_none q hp)]; exact q), fun n a c' h1 h2 => ?_⟩
  · rw [List.nodup_append]
    refine ⟨h.nd, by simp, fun x hx y hy e => ?_⟩
    rw [List.mem_singleton.mp hy] at e
    subst e
    obtain ⟨o, q⟩ := h.mem hx
    rw [hp] at q; cases q
  · by_cases hn : n < ι.length
    · rw [List.getElem?_append_left hn] at h1
      rw [List.getElem?_append_left (by rw [← h.len]; exact hn)] at h2
      exact (h.at' n a c' h1 h2).mono (Ext.cell hp) fun o' e => by rw [upd_ne (ne_of_none e hp)]; exact e
    · rw [List.getElem?_append_right (by omega)] at h1
      rw [List.getElem?_append_right (by rw [← h.len]; omega)] at h2
      have z : n - ι.length = 0 := by
        cases q : n - ι.length with
        | zero => rfl
        | succ k => rw [q] at h1; simp at h1
      rw [z] at h1
      rw [← h.len, z] at h2
      simp at h1 h2
      subst h1; subst h2
      exact hc
/-- a cell is written -/
theorem Ext.write {m : M} (h : HR K mg ι H m) {n : Nat} {a : Addr} {o : HO} (ha : ι[n]? = some a) (nt : ∀ vs, H a ≠ some (.tup vs)) (nf : ∀ ob u, H a ≠ some (.frz ob u)) (ho : NT o := by intro _ h; cases h) : Ext ι H ι (upd H a o) :=
  ⟨⟨[], by simp, by simp⟩, fun b vs q => by rw [upd_ne (fun e : b = a => nt vs (by rw [← e]; exact q))]; exact q, fun b ob u q => by rw [upd_ne (fun e : b = a => nf ob u (by rw [← e]; exact q))]; exact q,
    fun b o _ hb q => by rw [upd_ne (fun e : b = a => hb (by rw [e]; exact List.mem_of_getElem? ha))]; exact q, fun b o' hn q => by
      by_cases e : b = a
      · exact ⟨o, ho, by rw [e, upd_same]⟩
      · exact ⟨o', hn, by rw [upd_ne e]; exact q⟩⟩
theorem CellRep.notup {a : Addr} {c : Cell} (h : CellRep K mg ι H a c) : (∀ vs, H a ≠ some (.tup vs)) ∧ ∀ ob u, H a ≠ some (.frz ob u) := by
  cases h with
  | lst h r => exact ⟨fun vs q => (by rw [h] at q; cases q), fun ob u q => (by rw [h] at q; cases q)⟩
  | dK h r => exact ⟨fun vs q => (by rw [h] at q; cases q), fun ob u q => (by rw [h] at q; cases q)⟩
  | dT h r => exact ⟨fun vs q => (by rw [h] at q; cases q), fun ob u q => (by rw [h] at q; cases q)⟩
  | ins hc h r => exact ⟨fun vs q => (by rw [h] at q; cases q), fun ob u q => (by rw [h] at q; cases q)⟩
theorem tabs_write {m : M} (h : HR K mg ι H m) {n : Nat} {a : Addr} {o : HO} (ha : ι[n]? = some a) : LamX.Tabs (tabOf K) (upd H a o) := fun p hp => by
  obtain ⟨ps, t1, t2, t3⟩ := h.tb p hp
  obtain ⟨c, _, hc⟩ := h.lt ha
  have n1 : ∀ q, H a ≠ some (.tbl q) := fun q z => by cases hc <;> simp_all
  have n2 : ∀ q, H a ≠ some (.ext q) := fun q z => by cases hc <;> simp_all
  refine ⟨ps, by rw [upd_ne (fun e => n1 ps (by rw [← e]; exact t1))]; exact t1, t2, fun pos cv hcv => ?_⟩
  obtain ⟨c, rfl, hc'⟩ := t3 pos cv hcv
  exact ⟨c, rfl, by rw [upd_ne (fun e => n2 _ (by rw [← e]; exact hc'))]; exact hc'⟩
theorem HR.write {m : M} (h : HR K mg ι H m) {n : Nat} {a : Addr} {o : HO} {c : Cell} (ha : ι[n]? = some a) (e : Ext ι H ι (upd H a o)) (hc : CellRep K mg ι (upd H a o) a c) : HR K mg ι (upd H a o) (m.set n c) := by
  refine ⟨by simp [h.len], h.nd, fun a ha => (let ⟨o, n, q⟩ := h.fd a ha; e.dom a o n q), tabs_write h ha, fun k b c' h1 h2 => ?_⟩
  by_cases q : n = k
  · subst q
    have hl : n < m.length := by rw [← h.len]; exact (List.getElem?_eq_some_iff.mp ha).1
    rw [List.getElem?_set_self hl] at h2
    cases h2
    rw [ha] at h1; cases h1
    exact hc
  · rw [List.getElem?_set_ne q] at h2
    refine (h.at' k b c' h1 h2).mono e fun o' z => ?_
    rw [upd_ne]
    · exact z
    · rintro rfl
      obtain ⟨i1, e1⟩ := List.getElem?_eq_some_iff.mp ha
      obtain ⟨i2, e2⟩ := List.getElem?_eq_some_iff.mp h1
      exact q ((List.getElem_inj h.nd).mp (e1.trans e2.symm))
end
section
variable {K : PySem.W.Frag} {mg : G} {ι : List Addr} {H : Hp} {F' : List Addr}
theorem outGrow {ι : List Addr} {F F' : List Addr} {a : Addr} {o : HO} {H : Hp} (hF : ∀ a ∈ F', a ∈ F ∨ H a = none) (h : a ∉ ι ++ F) (ha : H a = some o) : a ∉ ι ++ F' := fun q => by
  rcases List.mem_append.mp q with q | q
  · exact h (List.mem_append_left _ q)
  · rcases hF a q with q | q
    · exact h (List.mem_append_right _ q)
    · rw [ha] at q; cases q
/-! values of a heap where new addresses are kept apart that it does not have -/
mutual
theorem Rep.grow (hF : ∀ a ∈ F', a ∈ mg.2 ∨ H a = none) : ∀ {d : D} {v : V}, Rep K mg ι H d v → Rep K (mg.1, F') ι H d v
  | _, _, .non => .non
  | _, _, .bl b => .bl b
  | _, _, .int i => .int i
  | _, _, .str x => .str x
  | _, _, .tup h r => .tup h (RepL.grow hF r)
  | _, _, .ref h => .ref h
  | _, _, .glo h => .glo h
  | _, _, .ty n => .ty n
  | _, _, .fl h r => .fl h (RepL.grow hF r)
  | _, _, .sl n h r => .sl (outGrow hF n h) h (RepL.grow hF r)
  | _, _, .exc c na nd ha hd r => .exc c na nd ha hd (RepL.grow hF r)
  | _, _, .ex0 c na ha => .ex0 c na ha
  | _, _, .cau n h r => .cau n h (RepL.grow hF r)
  | _, _, .kt h r => .kt h (RepL.grow hF r)
theorem RepL.grow (hF : ∀ a ∈ F', a ∈ mg.2 ∨ H a = none) : ∀ {ds : List D} {vs : List V}, RepL K mg ι H ds vs → RepL K (mg.1, F') ι H ds vs
  | _, _, .nil => .nil
  | _, _, .cons h r => .cons (Rep.grow hF h) (RepL.grow hF r)
end
theorem CellRep.grow (hF : ∀ a ∈ F', a ∈ mg.2 ∨ H a = none) {a : Addr} {c : Cell} (h : CellRep K mg ι H a c) : CellRep K (mg.1, F') ι H a c := by
  cases h with
  | lst h r => exact .lst h (r.grow hF)
  | dK h r => exact .dK h (paired_mono (fun _ _ ⟨x, y⟩ => ⟨x, y.grow hF⟩) r)
  | dT h r => exact .dT h (paired_mono (fun _ _ ⟨x, y⟩ => ⟨x, y.grow hF⟩) r)
  | ins hc h r => exact .ins hc h (paired_mono (fun _ _ ⟨x, y⟩ => ⟨x, y.grow hF⟩) r)
theorem HR.grow {m : M} (hF : ∀ a ∈ F', a ∈ mg.2 ∨ H a = none) (hd : ∀ a ∈ F', ∃ o, NT o ∧ H a = some o) (h : HR K mg ι H m) : HR K (mg.1, F') ι H m :=
  ⟨h.len, h.nd, hd, h.tb, fun n a c h1 h2 => (h.at' n a c h1 h2).grow hF⟩
theorem EnvR.grow {ρ : Rho} {σ : L2.St} (hF : ∀ a ∈ F', a ∈ mg.2 ∨ H a = none) (h : EnvR K mg ι H ρ σ) : EnvR K (mg.1, F') ι H ρ σ :=
  ⟨h.1, fun i d hi => let ⟨v, h1, h2⟩ := h.2 i d hi; ⟨v, h1, h2.grow hF⟩⟩
end
end Z

namespace Z
open PySem PySem.Spec PyProof.Rows L2

section
variable (K : PySem.W.Frag) (mg : G)
abbrev Relt (α β : Type) := List Addr → Hp → α → β → Prop
abbrev relE : Relt D V := fun ι H => Rep K mg ι H
abbrev relA : Relt (List D) (List V) := fun ι H => RepL K mg ι H
abbrev relT : Relt Bool Bool := fun _ _ a b => a = b
def Post {α β : Type} (rel : Relt α β) (E : XK) (ι : List Addr) (H : Hp) (Q : β → Hp → Prop) : R α → Prop
  | .ok a m => ∀ ι' H' b, Ext ι H ι' H' → HR K mg ι' H' m → rel ι' H' a b → Q b H'
  | .err x m => ∀ ι' H' cls dd, Ext ι H ι' H' → HR K mg ι' H' m → XRep K mg ι' H' x cls dd → E cls dd H'
  | .bad => False
end
section
variable {K : PySem.W.Frag} {mg : G} {α β γ δ : Type} {rel : Relt α β} {rel2 : Relt γ δ} {E : XK} {ι ι' : List Addr} {H H' : Hp}
theorem Post.shift {Q : β → Hp → Prop} (e : Ext ι H ι' H') : ∀ {r : R α}, Post K mg rel E ι H Q r → Post K mg rel E ι' H' Q r
  | .ok a m, h => fun ι2 H2 b e2 h1 h2 => h ι2 H2 b (e.trans e2) h1 h2
  | .err x m, h => fun ι2 H2 c d e2 h1 h2 => h ι2 H2 c d (e.trans e2) h1 h2
  | .bad, h => h
theorem Post.seq {Q : δ → Hp → Prop} {Q1 : β → Hp → Prop} {r : R α} {k : α → M → R γ} (h : Post K mg rel2 E ι H Q (r.bind k))
    (hk : ∀ a m ι1 H1 b, r = .ok a m → Ext ι H ι1 H1 → HR K mg ι1 H1 m → rel ι1 H1 a b → Post K mg rel2 E ι1 H1 Q (k a m) → Q1 b H1) : Post K mg rel E ι H Q1 r := by
  cases r with
  | ok a m =>
    intro ι1 H1 b e h1 h2
    exact hk a m ι1 H1 b rfl e h1 h2 (Post.shift e h)
  | err x m => exact h
  | bad => exact h
theorem Post.okI {Q : β → Hp → Prop} {a : α} {m : M} {b : β} (h : Post K mg rel E ι H Q (.ok a m)) (h1 : HR K mg ι H m) (h2 : rel ι H a b) : Q b H := h ι H b .refl h1 h2
end

def PE.imp {X : Cx} {e : Expr} {t t' : TE} (h : PE X e t) (i : ∀ σ H Q, t' σ H Q → t σ H Q) : PE X e t' := ⟨fun pins s σ H Q I q => h.run pins s σ H Q I (i _ _ _ q)⟩
def PT.imp {X : Cx} {e : Expr} {t t' : TT} (h : PT X e t) (i : ∀ σ H Q, t' σ H Q → t σ H Q) : PT X e t' := ⟨fun pins s σ H Q I q => h.run pins s σ H Q I (i _ _ _ q)⟩
def PA.imp {X : Cx} {e : List Expr} {t t' : TA} (h : PA X e t) (i : ∀ σ H Q, t' σ H Q → t σ H Q) : PA X e t' := ⟨fun pos pins s σ H Q I q => h.run pos pins s σ H Q I (i _ _ _ q)⟩
def PS.imp {X : Cx} {e : Stmt} {t t' : TS} (h : PS X e t) (i : ∀ D σ H, t' D σ H → t D σ H) : PS X e t' := ⟨fun pins s σ H D I q => h.run pins s σ H D I (i _ _ _ q)⟩
def PSs.imp {X : Cx} {e : List Stmt} {t t' : TS} (h : PSs X e t) (i : ∀ D σ H, t' D σ H → t D σ H) : PSs X e t' := ⟨fun pins s σ H D I q => h.run pins s σ H D I (i _ _ _ q)⟩

section
variable (K : PySem.W.Frag) (mg : Str → Option Value) (W : WX)
def tE (f : EF) : TE := fun σ H Q => ∃ F ι ρ m, EnvR K (mg, F) ι H ρ σ ∧ HR K (mg, F) ι H m ∧ Post K (mg, F) (relE K (mg, F)) (fun c d H' => W c d σ H') ι H Q (f ρ m)
def tA (f : AF) : TA := fun σ H Q => ∃ F ι ρ m, EnvR K (mg, F) ι H ρ σ ∧ HR K (mg, F) ι H m ∧ Post K (mg, F) (relA K (mg, F)) (fun c d H' => W c d σ H') ι H Q (f ρ m)
def tT (f : TF) : TT := fun σ H Q => ∃ F ι ρ m, EnvR K (mg, F) ι H ρ σ ∧ HR K (mg, F) ι H m ∧ Post K (mg, F) relT (fun c d H' => W c d σ H') ι H Q (f ρ m)
end
section
variable (K : PySem.W.Frag) (mg : G) (W : WX)
def PostS (D : Ends) (ι : List Addr) (H : Hp) : Option (Fl × M) → Prop
  | none => False
  | some (.nx ρ, m) => ∀ ι' H' σ', Ext ι H ι' H' → HR K mg ι' H' m → EnvR K mg ι' H' ρ σ' → D.nx σ' H'
  | some (.rt d, m) => ∀ ι' H' v, Ext ι H ι' H' → HR K mg ι' H' m → Rep K mg ι' H' d v → D.rt v H'
  | some (.bk ρ, m) => ∀ ι' H' σ', Ext ι H ι' H' → HR K mg ι' H' m → EnvR K mg ι' H' ρ σ' → D.bk σ' H'
  | some (.ct ρ, m) => ∀ ι' H' σ', Ext ι H ι' H' → HR K mg ι' H' m → EnvR K mg ι' H' ρ σ' → D.ct σ' H'
  | some (.er x ρ, m) => ∀ ι' H' σ' cls dd, Ext ι H ι' H' → HR K mg ι' H' m → EnvR K mg ι' H' ρ σ' → XRep K mg ι' H' x cls dd → W cls dd σ' H'
end
section
variable (K : PySem.W.Frag) (mg : Str → Option Value) (W : WX)
def tS (g : SF) : TS := fun D σ H => ∃ F ι ρ m, EnvR K (mg, F) ι H ρ σ ∧ HR K (mg, F) ι H m ∧ PostS K (mg, F) W D ι H (g ρ m)
end
theorem PostS.shift {K : PySem.W.Frag} {mg : G} {W : WX} {D : Ends} {ι ι' : List Addr} {H H' : Hp} (e : Ext ι H ι' H') : ∀ {r : Option (Fl × M)}, PostS K mg W D ι H r → PostS K mg W D ι' H' r
  | none, h => h
  | some (.nx ρ, m), h => fun a b c d => h a b c (e.trans d)
  | some (.rt d, m), h => fun a b c d => h a b c (e.trans d)
  | some (.bk ρ, m), h => fun a b c d => h a b c (e.trans d)
  | some (.ct ρ, m), h => fun a b c d => h a b c (e.trans d)
  | some (.er x ρ, m), h => fun a b c c' c'' d => h a b c c' c'' (e.trans d)

abbrev ZE (X : Cx) (W : WX) (e : Expr) (f : EF) : Prop := PE X e (tE X.K X.mg W f)
abbrev ZA (X : Cx) (W : WX) (e : List Expr) (f : AF) : Prop := PA X e (tA X.K X.mg W f)
abbrev ZT (X : Cx) (W : WX) (e : Expr) (f : TF) : Prop := PT X e (tT X.K X.mg W f)
abbrev ZS (X : Cx) (W : WX) (e : Stmt) (g : SF) : Prop := PS X e (tS X.K X.mg W g)
abbrev ZB (X : Cx) (W : WX) (e : List Stmt) (g : SF) : Prop := PSs X e (tS X.K X.mg W g)

/-! ### the evaluator's parts -/
def eCon (d : D) : EF := fun _ m => .ok d m
def eVar (i : Nat) : EF := fun ρ m => match ρ[i]? with
  | some (some d) => .ok d m
  | _ => .bad
def aNil : AF := fun _ m => .ok [] m
def aCons (f : EF) (a : AF) : AF := fun ρ m => (f ρ m).bind fun d m1 => (a ρ m1).bind fun ds m2 => .ok (d :: ds) m2
abbrev line : Nat := 16777216
def eTup (a : AF) : EF := fun ρ m => (a ρ m).bind fun ds m1 => if ds.length ≤ line then .ok (.tup ds) m1 else .bad
def eLst (a : AF) : EF := fun ρ m => (a ρ m).bind fun ds m1 => if ds.length ≤ line then .ok (.ref m1.length) (m1 ++ [.lst ds]) else .bad
def eLstS (a : AF) : EF := fun ρ m => (a ρ m).bind fun ds m1 => if ds.length ≤ line then .ok (.sl ds) m1 else .bad
def eBin (g : D → D → M → R D) (f h : EF) : EF := fun ρ m => (f ρ m).bind fun x m1 => (h ρ m1).bind fun y m2 => g x y m2
def eUn (g : D → M → R D) (f : EF) : EF := fun ρ m => (f ρ m).bind fun x m1 => g x m1
def eBlt (g : List D → M → R D) (a : AF) : EF := fun ρ m => (a ρ m).bind fun ds m1 => g ds m1
def eMeth (g : D → List D → M → R D) (o : EF) (a : AF) : EF := fun ρ m => (o ρ m).bind fun x m1 => (a ρ m1).bind fun ds m2 => g x ds m2
def eIf (c : TF) (f h : EF) : EF := fun ρ m => (c ρ m).bind fun b m1 => if b = true then f ρ m1 else h ρ m1
def tVal (f : EF) : TF := fun ρ m => (f ρ m).bind fun d m1 => match d with
  | .bl b => .ok b m1
  | _ => .bad
/-- the truth of a value -/
def truth (m : M) : D → Option Bool
  | .non => some false
  | .bl b => some b
  | .int i => some (i != 0)
  | .str x => if x.length ≤ line then some ((x.length : Int) != 0) else none
  | .tup xs => some (!xs.isEmpty)
  | .fl xs => some (!xs.isEmpty)
  | .sl xs => some (!xs.isEmpty)
  | .kt xs => some (!xs.isEmpty)
  | .ref n => match m[n]? with
    | some (.lst xs) => some (!xs.isEmpty)
    | some (.dic kvs) => some (!kvs.isEmpty)
    | _ => none
  | _ => none
def tTru (f : EF) : TF := fun ρ m => (f ρ m).bind fun d m1 => match truth m1 d with
  | some b => .ok b m1
  | none => .bad
def tNotF (c : TF) : TF := fun ρ m => (c ρ m).bind fun b m1 => .ok (!b) m1
def tAndF (c d : TF) : TF := fun ρ m => (c ρ m).bind fun b m1 => if b = true then d ρ m1 else .ok false m1
def tOrF (c d : TF) : TF := fun ρ m => (c ρ m).bind fun b m1 => if b = true then .ok true m1 else d ρ m1
def eNot (f : EF) : EF := fun ρ m => (f ρ m).bind fun d m1 => match d with
  | .bl b => .ok (.bl (!b)) m1
  | _ => .bad
def eAnd (f h : EF) : EF := fun ρ m => (f ρ m).bind fun d m1 => match d with
  | .bl b => if b = true then h ρ m1 else .ok (.bl false) m1
  | _ => .bad
def eOr (f h : EF) : EF := fun ρ m => (f ρ m).bind fun d m1 => match d with
  | .bl b => if b = true then .ok (.bl true) m1 else h ρ m1
  | _ => .bad
/-- a chain of two comparisons -/
def eChain (g g' : D → D → M → R D) (f h k : EF) : EF := fun ρ m => (f ρ m).bind fun x m1 => (h ρ m1).bind fun y m2 => (g x y m2).bind fun z m3 => match z with
  | .bl b => if b = true then (k ρ m3).bind fun w m4 => g' y w m4 else .ok (.bl false) m3
  | _ => .bad

/-! ### their soundness -/
section
variable {X : Cx} {W : WX} {pos : Pos} {a b c : Expr} {f h k : EF}
theorem z_con {e : Expr} {v : V} {d : D} (he : PE X e (tC v)) (r : ∀ F ι H, Rep X.K (X.mg, F) ι H d v) : ZE X W e (eCon d) :=
  PE.imp he fun σ H Q ⟨F, ι, ρ, m, hρ, hm, hp⟩ => Post.okI hp hm (r F ι H)
theorem z_int {i : Int} {j : Nat} : ZE X W (.Constant (.int i) j pos) (eCon (.int i)) := z_con pe_int fun _ _ _ => .int i
theorem z_bl {i : Bool} {j : Nat} : ZE X W (.Constant (.bool i) j pos) (eCon (.bl i)) := z_con pe_bl fun _ _ _ => .bl i
theorem z_non {j : Nat} : ZE X W (.Constant .none j pos) (eCon .non) := z_con pe_non fun _ _ _ => .non
theorem z_str {x : Str} {j : Nat} : ZE X W (.Constant (.str x) j pos) (eCon (.str x)) := z_con pe_str fun _ _ _ => .str x
theorem z_vr {e : Expr} {i : Nat} (he : PE X e (tVar i)) : ZE X W e (eVar i) := by
  refine PE.imp he fun σ H Q ⟨F, ι, ρ, m, hρ, hm, hp⟩ => ?_
  unfold eVar at hp
  split at hp
  · rename_i d hd
    obtain ⟨v, h1, h2⟩ := hρ.2 i d hd
    exact ⟨v, h1, Post.okI hp hm h2⟩
  · exact hp.elim
theorem zv (i : Nat) {x : Str} (hN : X.N[i]? = some x := by rfl) (hv : Vis X.env.scope x := by first | exact Or.inl rfl | exact Or.inr (Or.inl rfl) | exact Or.inr (Or.inr rfl)) (hd : (x == ("__debug__" : Str)) = false := by decide)
    (hcd : (x == ("__classdict__" : Str)) = false := by decide) : ZE X W (.Name x pos) (eVar i) := z_vr (pe_var hN hv hd hcd)
/-- a def or a class as a value -/
theorem z_glo {x : Str} {A : Addr} (hg : Gl X x) (hm : X.mg x = some (.ref A)) (hd : (x == ("__debug__" : Str)) = false := by decide) : ZE X W (.Name x pos) (eCon (.glo x)) := z_con (pe_glob hg hm (v := .ref A) rfl hd) fun _ _ _ => .glo hm
/-- a constant of the module -/
def GCon (K : PySem.W.Frag) (mg : Str → Option Value) (x : Str) (d : D) : Prop := ∃ v u, mg x = some u ∧ RelV v u ∧ ∀ F ι H, Rep K (mg, F) ι H d v
theorem z_gcon {x : Str} {d : D} (hg : Gl X x) (hm : GCon X.K X.mg x d) (hd : (x == ("__debug__" : Str)) = false := by decide) : ZE X W (.Name x pos) (eCon d) := by
  obtain ⟨v, u, h1, h2, h3⟩ := hm
  exact z_con (pe_glob hg h1 h2 hd) h3

theorem za_nil : ZA X W [] aNil := PA.imp pa_nil fun σ H Q ⟨F, ι, ρ, m, hρ, hm, hp⟩ => Post.okI hp hm .nil
theorem za_cons {es : List Expr} {t : AF} (ha : ZE X W a f) (hr : ZA X W es t) (hs : starEach (a :: es) X.env = (false, eval a X.env) :: starEach es X.env := by rfl) : ZA X W (a :: es) (aCons f t) := by
  refine PA.imp (pa_cons ha hr hs) fun σ H Q ⟨F, ι, ρ, m, hρ, hm, hp⟩ => ⟨F, ι, ρ, m, hρ, hm, ?_⟩
  refine Post.seq hp fun d m1 ι1 H1 v _ e1 h1 r1 hp1 => ⟨F, ι1, ρ, m1, hρ.mono e1, h1, ?_⟩
  exact Post.seq hp1 fun ds m2 ι2 H2 vs _ e2 h2 r2 hp2 => Post.okI hp2 h2 (.cons (r1.mono e2) r2)
theorem line_eq : sizeLine = line := sizeLine_eq
theorem z_tup {es : List Expr} {t : AF} {x1 : Nat} (h : ZA X W es t) : ZE X W (.Tuple es x1 pos) (eTup t) := by
  refine PE.imp (pe_tup h) fun σ H Q ⟨F, ι, ρ, m, hρ, hm, hp⟩ => ⟨F, ι, ρ, m, hρ, hm, ?_⟩
  refine Post.seq hp fun ds m1 ι1 H1 vs _ e1 h1 r1 hp1 => ?_
  split at hp1
  · rename_i hl
    refine ⟨by rw [line_eq, ← r1.length]; exact hl, fun p hn => ?_⟩
    exact hp1 ι1 _ _ (Ext.side hn) (h1.side hn) (.tup upd_same (r1.mono (Ext.side hn)))
  · exact hp1.elim
theorem z_lst {es : List Expr} {t : AF} (h : ZA X W es t) : ZE X W (.List es pos) (eLst t) := by
  refine PE.imp (pe_lst h) fun σ H Q ⟨F, ι, ρ, m, hρ, hm, hp⟩ => ⟨F, ι, ρ, m, hρ, hm, ?_⟩
  refine Post.seq hp fun ds m1 ι1 H1 vs _ e1 h1 r1 hp1 => ?_
  split at hp1
  · rename_i hl
    refine ⟨by rw [line_eq, ← r1.length]; exact hl, fun p hn => ?_⟩
    refine hp1 (ι1 ++ [p]) _ _ (Ext.cell hn) (h1.cell hn (.lst upd_same (r1.mono (Ext.cell hn)))) (.ref ?_)
    rw [← h1.len]; simp
  · exact hp1.elim
/-- a list that nobody writes -/
theorem Post.newS {K : PySem.W.Frag} {mg : G} {ι : List Addr} {H : Hp} {m : M} {E : XK} {Q : VK} {xs : List D} {vs : List V} (hm : HR K mg ι H m) (r : RepL K mg ι H xs vs) (hp : Post K mg (relE K mg) E ι H Q (.ok (.sl xs) m)) {p : Addr} (hn : H p = none) : Q (.ref p) (upd H p (.lst vs)) :=
  hp ι _ _ (Ext.side hn) (hm.side hn) (.sl (fun hp => by
    rcases List.mem_append.mp hp with h1 | h1
    · obtain ⟨o, q⟩ := hm.mem h1
      rw [hn] at q
      cases q
    · obtain ⟨o, _, q⟩ := hm.fd p h1
      rw [hn] at q
      cases q) upd_same (r.mono (Ext.side hn)))
theorem z_lstS {es : List Expr} {t : AF} (h : ZA X W es t) : ZE X W (.List es pos) (eLstS t) := by
  refine PE.imp (pe_lst h) fun σ H Q ⟨F, ι, ρ, m, hρ, hm, hp⟩ => ⟨F, ι, ρ, m, hρ, hm, ?_⟩
  refine Post.seq hp fun ds m1 ι1 H1 vs _ e1 h1 r1 hp1 => ?_
  split at hp1
  · rename_i hl
    exact ⟨by rw [line_eq, ← r1.length]; exact hl, fun p hn => hp1.newS h1 r1 hn⟩
  · exact hp1.elim
/-- an operation on two values -/
def Op2 (X : Cx) (r : R2) (g : D → D → M → R D) : Prop := ∀ (F : List Addr) (E : XK) (ι : List Addr) (H : Hp) (m : M) (x y : D) (v u : V) (Q : VK), HR X.K (X.mg, F) ι H m → Rep X.K (X.mg, F) ι H x v → Rep X.K (X.mg, F) ι H y u → Post X.K (X.mg, F) (relE X.K (X.mg, F)) E ι H Q (g x y m) → r v u H Q
theorem two {r : R2} {g : D → D → M → R D} (hz : Op2 X r g) {σ : L2.St} {H : Hp} {Q : VK} (q : tE X.K X.mg W (eBin g f h) σ H Q) : tOp r (tE X.K X.mg W f) (tE X.K X.mg W h) σ H Q := by
  obtain ⟨F, ι, ρ, m, hρ, hm, hp⟩ := q
  refine ⟨F, ι, ρ, m, hρ, hm, Post.seq hp fun d m1 ι1 H1 v _ e1 h1 r1 hp1 => ⟨F, ι1, ρ, m1, hρ.mono e1, h1, ?_⟩⟩
  exact Post.seq hp1 fun d2 m2 ι2 H2 v2 _ e2 h2 r2 hp2 => hz _ _ ι2 H2 m2 d d2 v v2 Q h2 (r1.mono e2) r2 hp2
theorem z_bin {op : Operator} {r : R2} {g : D → D → M → R D} (ho : OpR X (binaryOp op) r) (hz : Op2 X r g) (ha : ZE X W a f) (hb : ZE X W b h) : ZE X W (.BinOp a op b pos) (eBin g f h) :=
  PE.imp (pe_op ho ha hb) fun σ H Q q => two hz q
theorem z_cmp {op : CmpOp} {r : R2} {g : D → D → M → R D} (ho : OpR X (compareOp op) r) (hz : Op2 X r g) (ha : ZE X W a f) (hb : ZE X W b h) (hm : behindInMarks op b = false) : ZE X W (.Compare a [op] [b] pos) (eBin g f h) :=
  PE.imp (pe_cmpR ho ha hb hm) fun σ H Q q => two hz q
theorem zt_cmp {op : CmpOp} {r : R2} {g : D → D → M → R D} (ho : OpR X (compareOp op) r) (hz : Op2 X r g) (ha : ZE X W a f) (hb : ZE X W b h) (hm : behindInMarks op b = false) : ZT X W (.Compare a [op] [b] pos) (tVal (eBin g f h)) := by
  refine PT.imp (pt_cmpR ho ha hb hm) fun σ H Q ⟨F, ι, ρ, m, hρ, hm, hp⟩ => ?_
  show tOp r (tE X.K X.mg W f) (tE X.K X.mg W h) σ H (fun x H' => ∃ k, x = .bl k ∧ Q k H')
  refine two hz ⟨F, ι, ρ, m, hρ, hm, Post.seq hp fun d m1 ι1 H1 v _ e1 h1 r1 hp1 => ?_⟩
  cases r1 with
  | bl z => exact ⟨z, rfl, Post.okI hp1 h1 rfl⟩
  | _ => exact hp1.elim
theorem z_un {op : UnaryOp} {r : V → Hp → VK → Prop} {g : D → M → R D} (ho : UnR X (unaryOp op) r)
    (hz : ∀ (F : List Addr) (E : XK) (ι : List Addr) (H : Hp) (m : M) (x : D) (v : V) (Q : VK), HR X.K (X.mg, F) ι H m → Rep X.K (X.mg, F) ι H x v → Post X.K (X.mg, F) (relE X.K (X.mg, F)) E ι H Q (g x m) → r v H Q) (ha : ZE X W a f) : ZE X W (.UnaryOp op a pos) (eUn g f) := by
  refine PE.imp (pe_un ho ha) fun σ H Q ⟨F, ι, ρ, m, hρ, hm, hp⟩ => ⟨F, ι, ρ, m, hρ, hm, ?_⟩
  exact Post.seq hp fun d m1 ι1 H1 v _ e1 h1 r1 hp1 => hz _ _ ι1 H1 m1 d v Q h1 r1 hp1
/-- a built-in on values -/
def OpL (X : Cx) (r : List V → Hp → VK → Prop) (g : List D → M → R D) : Prop := ∀ (F : List Addr) (E : XK) (ι : List Addr) (H : Hp) (m : M) (xs : List D) (vs : List V) (Q : VK), HR X.K (X.mg, F) ι H m → RepL X.K (X.mg, F) ι H xs vs → Post X.K (X.mg, F) (relE X.K (X.mg, F)) E ι H Q (g xs m) → r vs H Q
theorem lotE {r : List V → Hp → VK → Prop} {g : List D → M → R D} {t : AF} (hz : OpL X r g) {σ : L2.St} {H : Hp} {Q : VK} (q : tE X.K X.mg W (eBlt g t) σ H Q) : tCB r (tA X.K X.mg W t) σ H Q := by
  obtain ⟨F, ι, ρ, m, hρ, hm, hp⟩ := q
  exact ⟨F, ι, ρ, m, hρ, hm, Post.seq hp fun d m1 ι1 H1 v _ e1 h1 r1 hp1 => hz _ _ ι1 H1 m1 d v Q h1 r1 hp1⟩
theorem z_blt {x : Str} {id : String} {r : List V → Hp → VK → Prop} {g : List D → M → R D} {t : AF} {e : Expr} {es : List Expr} {p : Pos} (hc : CallR X (.builtin id) r) (hz : OpL X r g) (hg : Gl X x) (hm : X.mg x = none) (hv : bootBuiltins x = some (.builtin id)) (ha : ZA X W (e :: es) t)
    (hn : x ≠ "__name__" := by decide) (hdb : (x == ("__debug__" : Str)) = false := by decide)
    (he : starEach (e :: es) X.env = (false, eval e X.env) :: starEach es X.env := by rfl) (hpl : (backTo pos (starEach es X.env)).any (·.1) = false := by rfl) : ZE X W (.Call (.Name x p) (e :: es) [] pos) (eBlt g t) :=
  PE.imp (pe_callB hc hg hm hv ha hn hdb he hpl) fun σ H Q q => lotE hz q
theorem z_bty {x : Str} {T : String} {r : List V → Hp → VK → Prop} {g : List D → M → R D} {t : AF} {e : Expr} {es : List Expr} {p : Pos} (hc : CallR X (.type T) r) (hz : OpL X r g) (hg : Gl X x) (hm : X.mg x = none) (hv : bootBuiltins x = some (.type T)) (ha : ZA X W (e :: es) t)
    (hn : x ≠ "__name__" := by decide) (hdb : (x == ("__debug__" : Str)) = false := by decide)
    (he : starEach (e :: es) X.env = (false, eval e X.env) :: starEach es X.env := by rfl) (hpl : (backTo pos (starEach es X.env)).any (·.1) = false := by rfl) : ZE X W (.Call (.Name x p) (e :: es) [] pos) (eBlt g t) :=
  PE.imp (pe_callTy hc hg hm hv ha hn hdb he hpl) fun σ H Q q => lotE hz q
theorem z_if {c : Expr} {tc : TF} (hc : ZT X W c tc) (ha : ZE X W a f) (hb : ZE X W b h) : ZE X W (.IfExp c a b pos) (eIf tc f h) := by
  refine PE.imp (pe_ifExp hc ha hb) fun σ H Q ⟨F, ι, ρ, m, hρ, hm, hp⟩ => ⟨F, ι, ρ, m, hρ, hm, ?_⟩
  refine Post.seq hp fun d m1 ι1 H1 v _ e1 h1 r1 hp1 => ?_
  cases r1
  cases d with
  | true => exact iteT ⟨F, ι1, ρ, m1, hρ.mono e1, h1, hp1⟩
  | false => exact iteF ⟨F, ι1, ρ, m1, hρ.mono e1, h1, hp1⟩
theorem z_not (ha : ZE X W a f) : ZE X W (.UnaryOp .Not a pos) (eNot f) := by
  refine PE.imp (pe_not ha) fun σ H Q ⟨F, ι, ρ, m, hρ, hm, hp⟩ => ⟨F, ι, ρ, m, hρ, hm, ?_⟩
  refine Post.seq hp fun d m1 ι1 H1 v _ e1 h1 r1 hp1 => ?_
  cases r1 with
  | bl z => exact ⟨z, rfl, Post.okI hp1 h1 (.bl _)⟩
  | _ => exact hp1.elim
theorem z_one {op : BoolOp} (ha : ZE X W a f) : ZE X W (.BoolOp op [a] pos) f := pe_one ha
theorem z_and {rest : List Expr} (ha : ZE X W a f) (hb : ZE X W (.BoolOp .And (b :: rest) pos) h) : ZE X W (.BoolOp .And (a :: b :: rest) pos) (eAnd f h) := by
  refine PE.imp (pe_and ha hb) fun σ H Q ⟨F, ι, ρ, m, hρ, hm, hp⟩ => ⟨F, ι, ρ, m, hρ, hm, ?_⟩
  refine Post.seq hp fun d m1 ι1 H1 v _ e1 h1 r1 hp1 => ?_
  cases r1 with
  | bl z =>
    refine ⟨z, rfl, ?_⟩
    cases z with
    | true => exact iteT ⟨F, ι1, ρ, m1, hρ.mono e1, h1, hp1⟩
    | false => exact iteF (Post.okI hp1 h1 (.bl _))
  | _ => exact hp1.elim
theorem z_or {rest : List Expr} (ha : ZE X W a f) (hb : ZE X W (.BoolOp .Or (b :: rest) pos) h) : ZE X W (.BoolOp .Or (a :: b :: rest) pos) (eOr f h) := by
  refine PE.imp (pe_or ha hb) fun σ H Q ⟨F, ι, ρ, m, hρ, hm, hp⟩ => ⟨F, ι, ρ, m, hρ, hm, ?_⟩
  refine Post.seq hp fun d m1 ι1 H1 v _ e1 h1 r1 hp1 => ?_
  cases r1 with
  | bl z =>
    refine ⟨z, rfl, ?_⟩
    cases z with
    | true => exact iteT (Post.okI hp1 h1 (.bl _))
    | false => exact iteF ⟨F, ι1, ρ, m1, hρ.mono e1, h1, hp1⟩
  | _ => exact hp1.elim
theorem z_chain {op op' : CmpOp} {r r' : R2} {g g' : D → D → M → R D} (ho : OpR X (compareOp op) r) (hz : Op2 X r g) (ho' : OpR X (compareOp op') r') (hz' : Op2 X r' g') (ha : ZE X W a f) (hb : ZE X W b h) (hc : ZE X W c k)
    (hm : lastMarks [op, op'] [b, c] = false := by with_unfolding_all rfl) : ZE X W (.Compare a [op, op'] [b, c] pos) (eChain g g' f h k) := by
  refine PE.imp (pe_chain ho ho' ha hb hc hm) fun σ H Q ⟨F, ι, ρ, m, hρ, hm, hp⟩ => ⟨F, ι, ρ, m, hρ, hm, ?_⟩
  refine Post.seq hp fun d m1 ι1 H1 v _ e1 h1 r1 hp1 => ⟨F, ι1, ρ, m1, hρ.mono e1, h1, ?_⟩
  refine Post.seq hp1 fun d2 m2 ι2 H2 v2 _ e2 h2 r2 hp2 => ?_
  refine hz _ _ ι2 H2 m2 d d2 v v2 _ h2 (r1.mono e2) r2 (Post.seq hp2 fun d3 m3 ι3 H3 v3 _ e3 h3 r3 hp3 => ?_)
  cases r3 with
  | bl z =>
    refine ⟨z, rfl, ?_⟩
    cases z with
    | true =>
      refine iteT ⟨F, ι3, ρ, m3, ((hρ.mono e1).mono e2).mono e3, h3, ?_⟩
      exact Post.seq hp3 fun d4 m4 ι4 H4 v4 _ e4 h4 r4 hp4 => hz' _ _ ι4 H4 m4 d2 d4 v2 v4 Q h4 ((r2.mono e3).mono e4) r4 hp4
    | false => exact iteF (Post.okI hp3 h3 (.bl _))
  | _ => exact hp3.elim
theorem zt_chain {op op' : CmpOp} {r r' : R2} {g g' : D → D → M → R D} (ho : OpR X (compareOp op) r) (hz : Op2 X r g) (ho' : OpR X (compareOp op') r') (hz' : Op2 X r' g') (ha : ZE X W a f) (hb : ZE X W b h) (hc : ZE X W c k)
    (hm : lastMarks [op, op'] [b, c] = false := by with_unfolding_all rfl) : ZT X W (.Compare a [op, op'] [b, c] pos) (tVal (eChain g g' f h k)) := by
  refine PT.imp (pt_chain ho ho' ha hb hc hm) fun σ H Q ⟨F, ι, ρ, m, hρ, hm, hp⟩ => ⟨F, ι, ρ, m, hρ, hm, ?_⟩
  unfold tVal eChain at hp
  have fin : ∀ {ι' H' m' d' v'} , HR X.K (X.mg, F) ι' H' m' → Rep X.K (X.mg, F) ι' H' d' v' → Post X.K (X.mg, F) relT (fun c d H' => W c d σ H') ι' H' Q (match d' with | .bl b => (.ok b m' : R Bool) | _ => .bad) → ∃ k, v' = .bl k ∧ Q k H' := by
    intro ι' H' m' d' v' h1 r1 hp1
    cases r1 with
    | bl z => exact ⟨z, rfl, Post.okI hp1 h1 rfl⟩
    | _ => exact hp1.elim
  have assoc : ∀ {α β γ : Type} (r : R α) (f : α → M → R β) (g : β → M → R γ), (r.bind f).bind g = r.bind fun a m => (f a m).bind g := by
    intro α β γ r f g
    cases r <;> rfl
  rw [assoc] at hp
  refine Post.seq hp fun d m1 ι1 H1 v _ e1 h1 r1 hp1 => ⟨F, ι1, ρ, m1, hρ.mono e1, h1, ?_⟩
  rw [assoc] at hp1
  refine Post.seq hp1 fun d2 m2 ι2 H2 v2 _ e2 h2 r2 hp2 => ?_
  rw [assoc] at hp2
  refine hz _ _ ι2 H2 m2 d d2 v v2 _ h2 (r1.mono e2) r2 (Post.seq hp2 fun d3 m3 ι3 H3 v3 _ e3 h3 r3 hp3 => ?_)
  cases r3 with
  | bl z =>
    refine ⟨z, rfl, ?_⟩
    cases z with
    | true =>
      refine iteT ⟨F, ι3, ρ, m3, ((hρ.mono e1).mono e2).mono e3, h3, ?_⟩
      have hp3' : Post X.K (X.mg, F) relT (fun c d H' => W c d σ H') ι3 H3 Q (((k ρ m3).bind fun w m4 => g' d2 w m4).bind fun d m1 => match d with | .bl b => (.ok b m1 : R Bool) | _ => .bad) := hp3
      rw [assoc] at hp3'
      exact Post.seq hp3' fun d4 m4 ι4 H4 v4 _ e4 h4 r4 hp4 => hz' _ _ ι4 H4 m4 d2 d4 v2 v4 _ h4 ((r2.mono e3).mono e4) r4 (Post.seq hp4 fun d5 m5 ι5 H5 v5 _ e5 h5 r5 hp5 => fin h5 r5 hp5)
    | false => exact iteF ⟨false, rfl, Post.okI (show Post X.K (X.mg, F) relT (fun c d H' => W c d σ H') ι3 H3 Q (.ok false m3) from hp3) h3 rfl⟩
  | _ => exact hp3.elim
/-! tests -/
theorem zt_val (ha : ZE X W a f) (he : ∀ whole, isTrue a X.env whole = (do let v ← whole; standAt a.pos; holding [v] (truthy v)) := by intro _; rfl) : ZT X W a (tVal f) := by
  refine PT.imp (pt_val ha he) fun σ H Q ⟨F, ι, ρ, m, hρ, hm, hp⟩ => ⟨F, ι, ρ, m, hρ, hm, ?_⟩
  refine Post.seq hp fun d m1 ι1 H1 v _ e1 h1 r1 hp1 => ?_
  cases r1 with
  | bl z => exact ⟨z, rfl, Post.okI hp1 h1 rfl⟩
  | _ => exact hp1.elim
theorem zt_not {c : TF} (ha : ZT X W a c) : ZT X W (.UnaryOp .Not a pos) (tNotF c) := by
  refine PT.imp (pt_not ha) fun σ H Q ⟨F, ι, ρ, m, hρ, hm, hp⟩ => ⟨F, ι, ρ, m, hρ, hm, ?_⟩
  refine Post.seq hp fun d m1 ι1 H1 v _ e1 h1 r1 hp1 => ?_
  cases r1
  exact Post.okI hp1 h1 rfl
end
end Z

namespace Z
open PySem PySem.Spec PyProof.Rows L2

/-! ### tests: and, or, truth -/
abbrev ZW (X : Cx) (W : WX) (e : Expr) (f : TF) : Prop := PW X e (tT X.K X.mg W f)
def PW.imp {X : Cx} {e : Expr} {t t' : TT} (h : PW X e t) (i : ∀ σ H Q, t' σ H Q → t σ H Q) : PW X e t' := ⟨fun wh pins s σ H Q I q => h.run wh pins s σ H Q I (i _ _ _ q)⟩
section
variable {X : Cx} {W : WX} {pos : Pos} {a b : Expr} {c d : TF}
theorem zw_and1 (ha : ZT X W a c) : ZW X W (.BoolOp .And [a] pos) c := pw_and1 ha
theorem zw_or1 (ha : ZT X W a c) : ZW X W (.BoolOp .Or [a] pos) c := pw_or1 ha
theorem zw_and {rest : List Expr} (ha : ZT X W a c) (hb : ZW X W (.BoolOp .And (b :: rest) pos) d) : ZW X W (.BoolOp .And (a :: b :: rest) pos) (tAndF c d) := by
  refine PW.imp (pw_and ha hb) fun σ H Q ⟨F, ι, ρ, m, hρ, hm, hp⟩ => ⟨F, ι, ρ, m, hρ, hm, ?_⟩
  refine Post.seq hp fun e m1 ι1 H1 v _ e1 h1 r1 hp1 => ?_
  cases r1
  cases e with
  | true => exact iteT ⟨F, ι1, ρ, m1, hρ.mono e1, h1, hp1⟩
  | false => exact iteF (Post.okI hp1 h1 rfl)
theorem zw_or {rest : List Expr} (ha : ZT X W a c) (hb : ZW X W (.BoolOp .Or (b :: rest) pos) d) : ZW X W (.BoolOp .Or (a :: b :: rest) pos) (tOrF c d) := by
  refine PW.imp (pw_or ha hb) fun σ H Q ⟨F, ι, ρ, m, hρ, hm, hp⟩ => ⟨F, ι, ρ, m, hρ, hm, ?_⟩
  refine Post.seq hp fun e m1 ι1 H1 v _ e1 h1 r1 hp1 => ?_
  cases r1
  cases e with
  | true => exact iteT (Post.okI hp1 h1 rfl)
  | false => exact iteF ⟨F, ι1, ρ, m1, hρ.mono e1, h1, hp1⟩
theorem zt_w (h : ZW X W a c) : ZT X W a c := h.pt
end

/-! ### statements -/
def R.stm {α : Type} (r : R α) (ρ : Rho) (k : α → M → Option (Fl × M)) : Option (Fl × M) := R.casesOn (motive := fun _ => Option (Fl × M)) r k (fun x m => some (.er x ρ, m)) none
section
variable {K : PySem.W.Frag} {mg : G} {α β : Type} {rel : Relt α β} {W : WX} {ι : List Addr} {H : Hp}
theorem Post.stm {D : Ends} {ρ : Rho} {σ : L2.St} {Q1 : β → Hp → Prop} {r : R α} {k : α → M → Option (Fl × M)} (h : PostS K mg W D ι H (r.stm ρ k)) (hρ : EnvR K mg ι H ρ σ)
    (hk : ∀ a m ι1 H1 b, r = .ok a m → Ext ι H ι1 H1 → HR K mg ι1 H1 m → rel ι1 H1 a b → PostS K mg W D ι1 H1 (k a m) → Q1 b H1) : Post K mg rel (fun c d H' => W c d σ H') ι H Q1 r := by
  cases r with
  | ok a m =>
    intro ι1 H1 b e h1 h2
    exact hk a m ι1 H1 b rfl e h1 h2 (PostS.shift e h)
  | err x m => exact fun ι' H' cls dd e h1 h2 => h ι' H' σ cls dd e h1 (hρ.mono e) h2
  | bad => exact h
end
def sSet (i : Nat) (f : EF) : SF := fun ρ m => (f ρ m).stm ρ fun d m1 => some (.nx (ρ.set i (some d)), m1)
def sExpr (f : EF) : SF := fun ρ m => (f ρ m).stm ρ fun _ m1 => some (.nx ρ, m1)
def sRet (f : EF) : SF := fun ρ m => (f ρ m).stm ρ fun d m1 => some (.rt d, m1)
def sRetN : SF := fun _ m => some (.rt .non, m)
def sIf (c : TF) (g h : SF) : SF := fun ρ m => (c ρ m).stm ρ fun b m1 => if b = true then g ρ m1 else h ρ m1
def sNil : SF := fun ρ m => some (.nx ρ, m)
def sBrk : SF := fun ρ m => some (.bk ρ, m)
def sCnt : SF := fun ρ m => some (.ct ρ, m)
def sSeq (g h : SF) : SF := fun ρ m => match g ρ m with
  | some (.nx ρ1, m1) => h ρ1 m1
  | r => r
section
variable {X : Cx} {W : WX} {pos : Pos} {e : Expr} {f : EF} {g h : SF} {st : Stmt} {sts : List Stmt}
theorem z_set {i : Nat} {x : Str} {pos' : Pos} (hN : X.N.Nodup) (hi : X.N[i]? = some x) (hx : Loc X.env.scope x) (he : ZE X W e f) (hs : swapsWith e (some (.Name x pos')) pos.line X.env = pure false := by rfl) (hf : X.fn x = true ∨ X.env.scope.names.lookup x = some .local := by first | exact .inl rfl | exact .inr rfl | assumption) :
    ZS X W (.Assign [.Name x pos'] e pos) (sSet i f) := by
  refine PS.imp (ps_set hN hi hx he hs hf) fun D σ H ⟨F, ι, ρ, m, hρ, hm, hp⟩ => ⟨F, ι, ρ, m, hρ, hm, ?_⟩
  exact Post.stm hp hρ fun d m1 ι1 H1 v _ e1 h1 r1 hp1 => hp1 ι1 H1 _ .refl h1 ((hρ.mono e1).set i r1)
theorem z_expr (he : ZE X W e f) (hs : swapsWith e none pos.line X.env = pure false := by rfl) : ZS X W (.Expr e pos) (sExpr f) := by
  refine PS.imp (ps_expr he hs) fun D σ H ⟨F, ι, ρ, m, hρ, hm, hp⟩ => ⟨F, ι, ρ, m, hρ, hm, ?_⟩
  exact Post.stm hp hρ fun d m1 ι1 H1 v _ e1 h1 r1 hp1 => hp1 ι1 H1 _ .refl h1 (hρ.mono e1)
theorem z_ret (he : ZE X W e f) : ZS X W (.Return (some e) pos) (sRet f) := by
  refine PS.imp (ps_ret he) fun D σ H ⟨F, ι, ρ, m, hρ, hm, hp⟩ => ⟨F, ι, ρ, m, hρ, hm, ?_⟩
  exact Post.stm hp hρ fun d m1 ι1 H1 v _ e1 h1 r1 hp1 => hp1 ι1 H1 _ .refl h1 r1
theorem z_retN : ZS X W (.Return none pos) sRetN := PS.imp ps_retN fun D σ H ⟨F, ι, ρ, m, hρ, hm, hp⟩ => hp ι H _ .refl hm .non
theorem z_sif {c : Expr} {tc : TF} {sa sb : List Stmt} (hc : ZT X W c tc) (ha : ZB X W sa g) (hb : ZB X W sb h) : ZS X W (.If c sa sb pos) (sIf tc g h) := by
  refine PS.imp (ps_if hc ha hb) fun D σ H ⟨F, ι, ρ, m, hρ, hm, hp⟩ => ⟨F, ι, ρ, m, hρ, hm, ?_⟩
  refine Post.stm hp hρ fun d m1 ι1 H1 v _ e1 h1 r1 hp1 => ?_
  cases r1
  cases d with
  | true => exact iteT ⟨F, ι1, ρ, m1, hρ.mono e1, h1, hp1⟩
  | false => exact iteF ⟨F, ι1, ρ, m1, hρ.mono e1, h1, hp1⟩
theorem z_pass : ZS X W (.Pass pos) sNil := PS.imp ps_pass fun D σ H ⟨F, ι, ρ, m, hρ, hm, hp⟩ => hp ι H _ .refl hm hρ
theorem z_brk : ZS X W (.Break pos) sBrk := PS.imp ps_break fun D σ H ⟨F, ι, ρ, m, hρ, hm, hp⟩ => hp ι H _ .refl hm hρ
theorem z_cnt : ZS X W (.Continue pos) sCnt := PS.imp ps_continue fun D σ H ⟨F, ι, ρ, m, hρ, hm, hp⟩ => hp ι H _ .refl hm hρ
theorem zs_nil : ZB X W [] sNil := PSs.imp pss_nil fun D σ H ⟨F, ι, ρ, m, hρ, hm, hp⟩ => hp ι H _ .refl hm hρ
theorem zs_one (h1 : ZS X W st g) : ZB X W [st] g := pss_one h1
theorem PostS.seq {K : PySem.W.Frag} {mg : G} {D : Ends} {ι : List Addr} {H : Hp} {g h : SF} {ρ : Rho} {m : M} (hp : PostS K mg W D ι H (sSeq g h ρ m)) : PostS K mg W { D with nx := tS K mg.1 W h D } ι H (g ρ m) := by
  unfold sSeq at hp
  match q : g ρ m with
  | none => rw [q] at hp; exact hp
  | some (.nx ρ1, m1) =>
    rw [q] at hp
    exact fun ι' H' σ' e1 h1 h2 => ⟨mg.2, ι', ρ1, m1, h2, h1, PostS.shift e1 hp⟩
  | some (.rt d, m1) => rw [q] at hp; exact hp
  | some (.bk ρ1, m1) => rw [q] at hp; exact hp
  | some (.ct ρ1, m1) => rw [q] at hp; exact hp
  | some (.er x ρ1, m1) => rw [q] at hp; exact hp
theorem zs_cons (h1 : ZS X W st g) (h2 : ZB X W sts h) : ZB X W (st :: sts) (sSeq g h) :=
  PSs.imp (pss_cons h1 h2) fun D σ H ⟨F, ι, ρ, m, hρ, hm, hp⟩ => ⟨F, ι, ρ, m, hρ, hm, hp.seq⟩
end

/-! ### targets -/
abbrev GF := D → Rho → M → Option (Rho × M)
abbrev GFs := List D → Rho → M → Option (Rho × M)
section
variable (K : PySem.W.Frag) (mg : G)
def PostG (ι : List Addr) (H : Hp) (Q : L2.St → Hp → Prop) : Option (Rho × M) → Prop
  | none => False
  | some (ρ, m) => ∀ ι' H' σ', Ext ι H ι' H' → HR K mg ι' H' m → EnvR K mg ι' H' ρ σ' → Q σ' H'
end
section
variable (K : PySem.W.Frag) (mg : Str → Option Value)
def tG (g : GF) : TG := fun v σ H Q => ∃ F ι ρ m d, EnvR K (mg, F) ι H ρ σ ∧ HR K (mg, F) ι H m ∧ Rep K (mg, F) ι H d v ∧ PostG K (mg, F) ι H Q (g d ρ m)
def tGs (g : GFs) : TGs := fun vs σ H Q => ∃ F ι ρ m ds, EnvR K (mg, F) ι H ρ σ ∧ HR K (mg, F) ι H m ∧ RepL K (mg, F) ι H ds vs ∧ PostG K (mg, F) ι H Q (g ds ρ m)
end
theorem PostG.shift {K : PySem.W.Frag} {mg : G} {ι ι' : List Addr} {H H' : Hp} {Q : L2.St → Hp → Prop} (e : Ext ι H ι' H') : ∀ {r : Option (Rho × M)}, PostG K mg ι H Q r → PostG K mg ι' H' Q r
  | none, h => h
  | some (ρ, m), h => fun a b c d => h a b c (e.trans d)
abbrev ZG (X : Cx) (e : Expr) (g : GF) : Prop := PG X e (tG X.K X.mg g)
abbrev ZGs (X : Cx) (e : List Expr) (g : GFs) : Prop := PGs X e (tGs X.K X.mg g)
def PG.imp {X : Cx} {e : Expr} {t t' : TG} (h : PG X e t) (i : ∀ v σ H Q, t' v σ H Q → t v σ H Q) : PG X e t' := ⟨fun pins s σ H v u Q I r q => h.run pins s σ H v u Q I r (i _ _ _ _ q)⟩
def PGs.imp {X : Cx} {e : List Expr} {t t' : TGs} (h : PGs X e t) (i : ∀ v σ H Q, t' v σ H Q → t v σ H Q) : PGs X e t' := ⟨fun pins s σ H v u Q I r q => h.run pins s σ H v u Q I r (i _ _ _ _ q)⟩
def gNm (i : Nat) : GF := fun d ρ m => some (ρ.set i (some d), m)
def gsNil : GFs := fun ds ρ m => match ds with
  | [] => some (ρ, m)
  | _ => none
def gsCons (g : GF) (h : GFs) : GFs := fun ds ρ m => match ds with
  | d :: r => (g d ρ m).bind fun p => h r p.1 p.2
  | [] => none
def gTp (n : Nat) (g : GFs) : GF := fun d ρ m => match d with
  | .tup ds => if ds.length = n then g ds ρ m else none
  | _ => none
section
variable {X : Cx} {pos : Pos}
theorem zg_name {i : Nat} {x : Str} (hN : X.N.Nodup) (hi : X.N[i]? = some x) (hx : Loc X.env.scope x) (hf : X.fn x = true ∨ X.env.scope.names.lookup x = some .local := by first | exact .inl rfl | exact .inr rfl | assumption) : ZG X (.Name x pos) (gNm i) :=
  PG.imp (pg_name hN hi hx hf) fun v σ H Q ⟨F, ι, ρ, m, d, hρ, hm, hd, hp⟩ => hp ι H _ .refl hm (hρ.set i hd)
theorem zgs_nil : ZGs X [] gsNil := PGs.imp pgs_nil fun vs σ H Q ⟨F, ι, ρ, m, ds, hρ, hm, hd, hp⟩ => by
  cases hd with
  | nil => exact ⟨rfl, hp ι H _ .refl hm hρ⟩
  | cons _ _ => exact hp.elim
theorem zgs_cons {e : Expr} {es : List Expr} {g : GF} {u : GFs} (h1 : ZG X e g) (h2 : ZGs X es u)
    (hs : (assignEach (e :: es) X.env).map (·.2) = assign e X.env :: (assignEach es X.env).map (·.2) := by rfl) : ZGs X (e :: es) (gsCons g u) := PGs.imp (pgs_cons h1 h2 hs) fun vs σ H Q ⟨F, ι, ρ, m, ds, hρ, hm, hd, hp⟩ => by
  cases hd with
  | nil => exact hp.elim
  | @cons d v ds vs r rs =>
    refine ⟨v, vs, rfl, F, ι, ρ, m, d, hρ, hm, r, ?_⟩
    have hp : PostG X.K (X.mg, F) ι H Q ((g d ρ m).bind fun p => u ds p.1 p.2) := hp
    cases q : g d ρ m with
    | none => rw [q] at hp; exact hp
    | some p =>
      rw [q] at hp
      exact fun ι' H' σ' e h1 h2 => ⟨F, ι', p.1, p.2, ds, h2, h1, rs.mono e, PostG.shift e hp⟩
theorem zg_tup {es : List Expr} {k : Nat} {g : GFs} {n : Nat} (hc : X.calm = true) (h : ZGs X es g)
    (hn : (assignEach es X.env).length = n := by rfl) (hst : (assignEach es X.env).findIdx? (·.1) = none := by rfl) : ZG X (.Tuple es k pos) (gTp n g) := PG.imp (pg_tup hc h hn hst) fun v σ H Q ⟨F, ι, ρ, m, d, hρ, hm, hd, hp⟩ => by
  cases hd with
  | tup hs hr =>
    have hp : PostG X.K (X.mg, F) ι H Q (if _ = n then _ else none) := hp
    split at hp
    · rename_i hl
      exact ⟨_, _, rfl, .of hs, by rw [← hr.length]; exact hl, F, ι, ρ, m, _, hρ, hm, hr, hp⟩
    · exact hp.elim
  | _ => exact hp.elim
end
def sAsg (f : EF) (g : GF) : SF := fun ρ m => (f ρ m).stm ρ fun d m1 => match g d ρ m1 with
  | some (ρ', m') => some (.nx ρ', m')
  | none => none
theorem z_asg {X : Cx} {W : WX} {tg e : Expr} {f : EF} {g : GF} {pos : Pos} (he : ZE X W e f) (hg : ZG X tg g) (hs : swapsWithSole [tg] e pos.line X.env = pure false := by rfl) (hw : swappedStores [tg] e X.env = pure none := by rfl)
    (h1 : (assignEach [tg] X.env).map (·.2) = [assign tg X.env] := by rfl) : ZS X W (.Assign [tg] e pos) (sAsg f g) := by
  refine PS.imp (ps_asg he hg hs hw h1) fun D σ H ⟨F, ι, ρ, m, hρ, hm, hp⟩ => ⟨F, ι, ρ, m, hρ, hm, ?_⟩
  refine Post.stm hp hρ fun d m1 ι1 H1 v _ e1 h1 r1 hp1 => ⟨F, ι1, ρ, m1, d, hρ.mono e1, h1, r1, ?_⟩
  cases q : g d ρ m1 with
  | none => rw [q] at hp1; exact hp1
  | some p => rw [q] at hp1; exact hp1
def sPar (i j : Nat) (a : AF) : SF := fun ρ m => (a ρ m).stm ρ fun ds m1 => match ds with
  | [x, y] => some (.nx ((ρ.set i (some x)).set j (some y)), m1)
  | _ => none
theorem z_par {X : Cx} {W : WX} {pos : Pos} {i j : Nat} {x y : Str} {a b : Expr} {ta : AF} {px py pt : Pos} {kt k2 pt2} (hc : X.calm = true) (hN : X.N.Nodup) (hi : X.N[i]? = some x) (hj : X.N[j]? = some y) (hij : i ≠ j)
    (hx : X.env.scope.names.lookup x = some .local) (hy : X.env.scope.names.lookup y = some .local) (ha : ZA X W [a, b] ta)
    (hw : swappedStores [.Tuple [.Name x px, .Name y py] kt pt] (.Tuple [a, b] k2 pt2) X.env = pure (some [x, y]))
    (hs : swapsWithSole [.Tuple [.Name x px, .Name y py] kt pt] (.Tuple [a, b] k2 pt2) pos.line X.env = pure false := by rfl) :
    ZS X W (.Assign [.Tuple [.Name x px, .Name y py] kt pt] (.Tuple [a, b] k2 pt2) pos) (sPar i j ta) := by
  refine PS.imp (ps_par hc hN hi hj hij hx hy ha hw hs) fun D σ H ⟨F, ι, ρ, m, hρ, hm, hp⟩ => ⟨F, ι, ρ, m, hρ, hm, ?_⟩
  refine Post.stm hp hρ fun ds m1 ι1 H1 vs _ e1 h1 r1 hp1 => ?_
  match ds, vs, r1, hp1 with
  | [x, y], [v, w], .cons rx (.cons ry .nil), hp1 => exact ⟨v, w, rfl, hp1 ι1 H1 _ .refl h1 (((hρ.mono e1).set i rx).set j ry)⟩
def sAug (i : Nat) (g : D → D → M → R D) (f : EF) : SF := fun ρ m => match ρ[i]? with
  | some (some x) => (f ρ m).stm ρ fun y m1 => (g x y m1).stm ρ fun z m2 => some (.nx (ρ.set i (some z)), m2)
  | _ => none
theorem z_aug {X : Cx} {W : WX} {pos : Pos} {i : Nat} {x : Str} {e : Expr} {f : EF} {op : Operator} {r : R2} {g : D → D → M → R D} {pos' : Pos} (hN : X.N.Nodup) (hi : X.N[i]? = some x) (hx : Loc X.env.scope x) (he : ZE X W e f) (ho : OpR X (inplaceOp op) r) (hz : Op2 X r g)
    (hf : X.fn x = true ∨ X.env.scope.names.lookup x = some .local := by first | exact .inl rfl | exact .inr rfl | assumption) : ZS X W (.AugAssign (.Name x pos') op e pos) (sAug i g f) := by
  have ho' : PIp X op r := fun pins s σ H x y v u Q I rx ry q => ho pins s σ H x y v u Q I rx ry q
  refine PS.imp (ps_aug hN hi hx he ho' hf) fun D σ H ⟨F, ι, ρ, m, hρ, hm, hp⟩ => ?_
  unfold sAug at hp
  split at hp
  · rename_i d hd
    obtain ⟨v, hv, rv⟩ := hρ.2 i d hd
    refine ⟨v, hv, F, ι, ρ, m, hρ, hm, ?_⟩
    refine Post.stm hp hρ fun y m1 ι1 H1 vy _ e1 h1 r1 hp1 => ?_
    refine hz F (fun c d H' => W c d σ H') ι1 H1 m1 d y v vy _ h1 (rv.mono e1) r1 ?_
    exact Post.stm hp1 (hρ.mono e1) fun z m2 ι2 H2 vz _ e2 h2 r2 hp2 => hp2 ι2 H2 _ .refl h2 (((hρ.mono e1).mono e2).set i r2)
  · exact hp.elim

/-! ### loops -/
/-- what a loop walks: how many turns at most, the item at turn i -/
structure Itz where
  fuel : Nat
  nxt : Nat → M → Option (Option D)
def itD (ds : List D) : Itz := ⟨ds.length + 1, fun i _ => some ds[i]?⟩
abbrev IF := Rho → M → R Itz
section
variable (K : PySem.W.Frag) (mg : G)
def relI : Relt Itz It := fun ι H z J => ∀ i F' ι' H' m', (∀ a ∈ F', a ∈ mg.2 ∨ H a = none) → Ext ι H ι' H' → HR K (mg.1, F') ι' H' m' →
  (z.nxt i m' = some none → J.stop i H') ∧
  ∀ d, z.nxt i m' = some (some d) → J.go i H' ∧ ∀ x H'', J.yld i H' x H'' → Ext ι' H' ι' H'' ∧ HR K (mg.1, F') ι' H'' m' ∧ Rep K (mg.1, F') ι' H'' d x
end
section
variable (K : PySem.W.Frag) (mg : Str → Option Value)
def tI (W : WX) (f : IF) : TI := fun σ H R' => ∃ F ι ρ m, EnvR K (mg, F) ι H ρ σ ∧ HR K (mg, F) ι H m ∧ Post K (mg, F) (relI K (mg, F)) (fun c d H' => W c d σ H') ι H R' (f ρ m)
end
def PI.imp {X : Cx} {tg e : Expr} {t t' : TI} (h : PI X tg e t) (i : ∀ σ H Q, t' σ H Q → t σ H Q) : PI X tg e t' := ⟨fun pins s σ H Q I q => h.run pins s σ H Q I (i _ _ _ q)⟩
abbrev ZI (X : Cx) (W : WX) (tg e : Expr) (f : IF) : Prop := PI X tg e (tI X.K X.mg W f)
def forN (nxt : Nat → M → Option (Option D)) (body : D → SF) : Nat → Nat → SF
  | 0, _, _, _ => none
  | fuel + 1, i, ρ, m => match nxt i m with
    | none => none
    | some none => some (.nx ρ, m)
    | some (some d) => match body d ρ m with
      | some (.nx ρ1, m1) => forN nxt body fuel (i + 1) ρ1 m1
      | some (.ct ρ1, m1) => forN nxt body fuel (i + 1) ρ1 m1
      | some (.bk ρ1, m1) => some (.nx ρ1, m1)
      | some (.rt d, m1) => some (.rt d, m1)
      | some (.er x ρ1, m1) => some (.er x ρ1, m1)
      | none => none
def gThen (g : GF) (body : SF) : D → SF := fun d ρ m => match g d ρ m with
  | some (ρ1, m1) => body ρ1 m1
  | none => none
def sFor (it : IF) (g : GF) (body : SF) : SF := fun ρ m => (it ρ m).stm ρ fun z m1 => forN z.nxt (gThen g body) z.fuel 0 ρ m1
theorem z_for {X : Cx} {W : WX} {tg iter : Expr} {sts : List Stmt} {f : IF} {g : GF} {body : SF} {pos : Pos} (hp : PassesOwn (model X.prog X.w) X.A X.env X.xe) (hc : X.calm = true) (hi : ZI X W tg iter f) (hg : ZG X tg g) (hb : ZB X W sts body)
    (hs : ∀ x, foldedSetIterable iter X.env x = pure x := by intro _; rfl) : ZS X W (.For tg iter sts [] pos) (sFor f g body) := by
  refine PS.imp (ps_for hp hc hi hg hb hs) fun D σ H ⟨F, ι, ρ, m, hρ, hm, hq⟩ => ⟨F, ι, ρ, m, hρ, hm, ?_⟩
  refine Post.stm hq hρ fun z m1 ι1 H1 J _ e1 h1 r1 hq1 => ?_
  refine ⟨fun i n σ H => ∃ ι' ρ' m', Ext ι1 H1 ι' H ∧ EnvR X.K (X.mg, F) ι' H ρ' σ ∧ HR X.K (X.mg, F) ι' H m' ∧ PostS X.K (X.mg, F) W D ι' H (forN z.nxt (gThen g body) n i ρ' m'), ⟨z.fuel, ι1, ρ, m1, .refl, hρ.mono e1, h1, hq1⟩, ?_⟩
  rintro i n σ2 H2 ⟨ι2, ρ2, m2, e2, hρ2, h2, hq2⟩
  obtain ⟨rs, rg⟩ := r1 i F ι2 H2 m2 (fun _ q => .inl q) e2 h2
  cases n with
  | zero => exact hq2.elim
  | succ n =>
    unfold forN at hq2
    match q : z.nxt i m2 with
    | none => rw [q] at hq2; exact hq2.elim
    | some none =>
      rw [q] at hq2
      exact .inl ⟨rs q, hq2 ι2 H2 _ .refl h2 hρ2⟩
    | some (some d) =>
      rw [q] at hq2
      obtain ⟨hgo, hy⟩ := rg d q
      refine .inr ⟨hgo, fun σ' H' => ∃ ι' ρ' m', Ext ι1 H1 ι' H' ∧ EnvR X.K (X.mg, F) ι' H' ρ' σ' ∧ HR X.K (X.mg, F) ι' H' m' ∧ PostS X.K (X.mg, F) W D ι' H' (forN z.nxt (gThen g body) n (i + 1) ρ' m'), fun σ' H' hN => ⟨n, Nat.lt_succ_self n, hN⟩, fun x H3 hx => ?_⟩
      obtain ⟨e3, h3, r3⟩ := hy x H3 hx
      refine ⟨F, ι2, ρ2, m2, d, hρ2.mono e3, h3, r3, ?_⟩
      dsimp only at hq2
      cases qg : g d ρ2 m2 with
      | none =>
        rw [show gThen g body d ρ2 m2 = none by unfold gThen; rw [qg]] at hq2
        exact hq2.elim
      | some p =>
        obtain ⟨ρ4, m4⟩ := p
        rw [show gThen g body d ρ2 m2 = body ρ4 m4 by unfold gThen; rw [qg]] at hq2
        show PostG X.K (X.mg, F) ι2 H3 _ (some (ρ4, m4))
        intro ι4 H4 σ4 e4 h4 hρ4
        refine ⟨F, ι4, ρ4, m4, hρ4, h4, ?_⟩
        have hq2 := PostS.shift (e3.trans e4) hq2
        have e5 : Ext ι1 H1 ι4 H4 := e2.trans (e3.trans e4)
        match qb : body ρ4 m4 with
        | none => rw [qb] at hq2; exact hq2
        | some (.nx ρ5, m5) =>
          rw [qb] at hq2
          exact fun ι6 H6 σ6 e6 h6 hρ6 => ⟨ι6, ρ5, m5, e5.trans e6, hρ6, h6, PostS.shift e6 hq2⟩
        | some (.ct ρ5, m5) =>
          rw [qb] at hq2
          exact fun ι6 H6 σ6 e6 h6 hρ6 => ⟨ι6, ρ5, m5, e5.trans e6, hρ6, h6, PostS.shift e6 hq2⟩
        | some (.bk ρ5, m5) => rw [qb] at hq2; exact hq2
        | some (.rt d5, m5) => rw [qb] at hq2; exact hq2
        | some (.er x5 ρ5, m5) => rw [qb] at hq2; exact hq2
def whileN (c : TF) (body : SF) : Nat → SF
  | 0, _, _ => none
  | n + 1, ρ, m => (c ρ m).stm ρ fun b m1 => if b = true then (match body ρ m1 with
      | some (.nx ρ1, m2) => whileN c body n ρ1 m2
      | some (.ct ρ1, m2) => whileN c body n ρ1 m2
      | some (.bk ρ1, m2) => some (.nx ρ1, m2)
      | some (.rt d, m2) => some (.rt d, m2)
      | some (.er x ρ1, m2) => some (.er x ρ1, m2)
      | none => none) else some (.nx ρ, m1)
theorem z_while {X : Cx} {W : WX} {c : Expr} {sts : List Stmt} {tc : TF} {body : SF} {pos : Pos} (n : Nat) (hp : PassesOwn (model X.prog X.w) X.A X.env X.xe) (hc : ZT X W c tc) (hb : ZB X W sts body) : ZS X W (.While c sts [] pos) (whileN tc body n) := by
  refine PS.imp (ps_while hp hc hb) fun D σ H ⟨F, ι, ρ, m, hρ, hm, hq⟩ => ?_
  refine ⟨fun n σ H => ∃ ι' ρ' m', EnvR X.K (X.mg, F) ι' H ρ' σ ∧ HR X.K (X.mg, F) ι' H m' ∧ PostS X.K (X.mg, F) W D ι' H (whileN tc body n ρ' m'), ⟨n, ι, ρ, m, hρ, hm, hq⟩, ?_⟩
  rintro n σ2 H2 ⟨ι2, ρ2, m2, hρ2, h2, hq2⟩
  cases n with
  | zero => exact hq2.elim
  | succ n =>
    unfold whileN at hq2
    refine ⟨F, ι2, ρ2, m2, hρ2, h2, Post.stm hq2 hρ2 fun b m3 ι3 H3 v _ e3 h3 r3 hq3 => ?_⟩
    cases r3
    cases b with
    | false => exact iteF (hq3 ι3 H3 _ .refl h3 (hρ2.mono e3))
    | true =>
      refine iteT ⟨fun σ' H' => ∃ ι' ρ' m', EnvR X.K (X.mg, F) ι' H' ρ' σ' ∧ HR X.K (X.mg, F) ι' H' m' ∧ PostS X.K (X.mg, F) W D ι' H' (whileN tc body n ρ' m'), fun σ' H' hN => ⟨n, Nat.lt_succ_self n, hN⟩, F, ι3, ρ2, m3, hρ2.mono e3, h3, ?_⟩
      rw [if_pos rfl] at hq3
      match qb : body ρ2 m3 with
      | none => rw [qb] at hq3; exact hq3
      | some (.nx ρ5, m5) =>
        rw [qb] at hq3
        exact fun ι6 H6 σ6 e6 h6 hρ6 => ⟨ι6, ρ5, m5, hρ6, h6, PostS.shift e6 hq3⟩
      | some (.ct ρ5, m5) =>
        rw [qb] at hq3
        exact fun ι6 H6 σ6 e6 h6 hρ6 => ⟨ι6, ρ5, m5, hρ6, h6, PostS.shift e6 hq3⟩
      | some (.bk ρ5, m5) => rw [qb] at hq3; exact hq3
      | some (.rt d5, m5) => rw [qb] at hq3; exact hq3
      | some (.er x5 ρ5, m5) => rw [qb] at hq3; exact hq3

/-! ### defs and their calls -/
def fnF (np ns : Nat) (b : SF) : FF := fun ds m => if ds.length = np then (match b (ds.map some ++ List.replicate (ns - np) none) m with
  | some (.nx _, m1) => .ok .non m1
  | some (.rt d, m1) => .ok d m1
  | some (.er x _, m1) => .err x m1
  | _ => .bad) else .bad
def spZ (K : PySem.W.Frag) (mg : Str → Option Value) (np : Nat) (g : FF) : Sp := fun vs H Q E => vs.length = np ∧ ∃ F ι ds m, RepL K (mg, F) ι H ds vs ∧ HR K (mg, F) ι H m ∧ Post K (mg, F) (relE K (mg, F)) E ι H Q (g ds m)
/-- a def of the text computes g, wherever no guard is up -/
structure ZF (r : Bool) (P : Program) (w : World) (K : PySem.W.Frag) (mg : Str → Option Value) (base : Heap) (k : Nat) (f : Addr) (fd : FuncData) (ps : List Str) (g : FF) : Prop where
  run : ∀ (A : Around) (outer : List Env) (s : Shared) (H : Hp) (args : Args) (us : List Value) (vs : List V) (Q : VK) (E : XK), Room k A → (r = true → A.guards = some []) → Env0 P w K mg base A outer s H →
    BindsTo s fd args (ps.zip us) → Vals vs us → spZ K mg ps.length g vs H Q E → codeAny (model P w) A (.call (.ref f) args) (CR (L2.CX P w) outer P w H s Q E) s
theorem ZF.mono {r : Bool} {P : Program} {w : World} {K : PySem.W.Frag} {mg : Str → Option Value} {base : Heap} {j k : Nat} {f : Addr} {fd : FuncData} {ps : List Str} {g : FF} (F : ZF r P w K mg base j f fd ps g) (h : j ≤ k) : ZF r P w K mg base k f fd ps g :=
  ⟨fun A outer s H args us vs Q E hr => F.run A outer s H args us vs Q E (hr.mono h)⟩
theorem envStart {K : PySem.W.Frag} {mg : G} {ι : List Addr} {H : Hp} {ds : List D} {vs : List V} {N : List Str} (r : RepL K mg ι H ds vs) : EnvR K mg ι H (ds.map some ++ List.replicate (N.length - ds.length) none) (L2.start N vs) := by
  unfold L2.start
  refine ⟨by simp [r.length], fun i d hi => ?_⟩
  by_cases q : i < ds.length
  · rw [List.getElem?_append_left (by simpa using q), List.getElem?_map] at hi
    cases e : ds[i]? with
    | none => rw [e] at hi; cases hi
    | some d' =>
      rw [e] at hi; cases hi
      obtain ⟨v, h1, h2⟩ := r.get e
      refine ⟨v, ?_, h2⟩
      rw [List.getElem?_append_left (by simpa [r.length] using q), List.getElem?_map, h1]
      rfl
  · rw [List.getElem?_append_right (by simpa using Nat.le_of_not_lt q), List.getElem?_replicate] at hi
    split at hi <;> cases hi
/-- the code object of the def x -/
def CodeIs (K : PySem.W.Frag) (x : Str) (f : Addr) (cdv : Value) : Prop := PySem.W.nsIn K mainGlobals x = some (some (.ref f)) → ∀ c P, PySem.W.tabIn K x = some (c, P) → cdv = .ref c
theorem zf_of {rq : Bool} {P : Program} {w : World} {K : PySem.W.Frag} {mg : Str → Option Value} {base : Heap} {x qual : Str} {st : Stmt} {f : Addr} {fd : FuncData} {N ps : List Str} {k : Nat} {b : SF} (T : Fun K x qual st f fd) (S : FnScope N ps (defScope st))
    (hbody : ∀ (cdv : Value), CodeIs K x f cdv → ∀ (A : Around) (outer : List Env) (s : Shared) (H : Hp) (E : XK), Room k (A.deeper (envOfC qual (defScope st) s.heap.objs.size f cdv)) → (rq = true → A.guards = some []) →
      ZB (cxOf (L2.CX P w) P w K mg base N qual (defScope st) f cdv A outer s H E) (fun c d _ H' => E c d H') (defBody st) b)   : ZF rq P w K mg base (k + 1) f fd ps (fnF ps.length N.length b) := by
  obtain ⟨oc, od, kV, doc, pm, an, cdv, ct, osl, rfl, lk, hcd⟩ := T.ex
  refine ⟨fun A outer s H args us vs Q E hr hg e0 hb r ⟨hl, F, ι, ds, m, rr, hm, hp⟩ => ?_⟩
  have hlen : ds.length = ps.length := rr.length.trans hl
  have hci : CodeIs K x f cdv := fun hn c P0 ht => by
    unfold PySem.W.tabIn at ht
    rw [hn] at ht
    dsimp only at ht
    rw [lk] at ht
    dsimp only [PySem.W.fnOf] at ht
    split at ht
    · rename_i c1
      split at ht
      · split at ht
        · cases ht; rfl
        · cases ht
      · cases ht
    · cases ht
  have KX : K.In s.heap := e0.mod.kin.keeps fun b o e => (e0.bs b o e).1
  have lim : s.heap.NoLimit := e0.mod.nolimit.keeps fun b o e => (e0.bs b o e).1
  refine codeAny_call_function hr.depth (KX _ _ lk) rfl S.co S.gen rfl (PySem.W.codeRec_of KX hcd) (hb _ _ _ _ ?_)
  refine wpAny_newFunctionEnv_cells S.kind (fun y hy => ?_) fun env he s1 x => ?_
  · rcases S.par y.1 (List.of_mem_zip hy).1 with q | q
    · exact .inl q
    · exact .inr ⟨q, PySem.W.cellsFrom_some _ _ _ (.inl q)⟩
  subst he
  refine ⟨lim.keeps x.toInCall.keep, codeAny_func ?_⟩
  have I := inv_start (CX := L2.CX P w) (E := E) S hr.hd e0 hl r x
  have start : tS K mg (fun c d _ H' => E c d H') b { nx := fun _ H' => Q .non H', rt := Q } (L2.start N vs) H := by
    refine ⟨F, ι, _, m, envStart rr, hm, ?_⟩
    unfold fnF at hp
    rw [if_pos hlen] at hp
    rw [hlen]
    match q : b (ds.map some ++ List.replicate (N.length - ps.length) none) m with
    | none => rw [q] at hp; exact hp
    | some (.nx ρ1, m1) => rw [q] at hp; exact fun ι' H' σ' e1 h1 h2 => hp ι' H' _ e1 h1 .non
    | some (.rt d, m1) => rw [q] at hp; exact hp
    | some (.bk ρ1, m1) => rw [q] at hp; exact hp.elim
    | some (.ct ρ1, m1) => rw [q] at hp; exact hp.elim
    | some (.er z ρ1, m1) => rw [q] at hp; exact fun ι' H' σ' cls dd e1 h1 h2 h3 => hp ι' H' cls dd e1 h1 h3
  refine wpAny_mono ((hbody cdv hci A outer s H E (hr.deeper _) hg).run [] s1 _ H _ I start) (fun fl s' hs => ?_) fun _ _ z => z
  cases fl with
  | ret u =>
    obtain ⟨v, σ', H', J, rv, q⟩ := hs
    exact ⟨v, H', J.os, J.bare, J.base, J.hok, rv, q⟩
  | next =>
    obtain ⟨σ', H', J, q⟩ := hs
    exact ⟨V.non, H', J.os, J.bare, J.base, J.hok, rfl, q⟩
  | brk => exact (hs.elim fun _ z => z.elim fun _ z => z.2).elim
  | cont => exact (hs.elim fun _ z => z.elim fun _ z => z.2).elim
/-- a def's own context lets out what its caller wishes -/
theorem takesF {P : Program} {w : World} {K : PySem.W.Frag} {mg : Str → Option Value} {base : Heap} {N : List Str} {qual : Str} {scope : Scope} {f : Addr} {cd : Value} {A : Around} {outer : List Env} {s : Shared} {H : Hp} {E : XK} :
    Takes (cxOf (L2.CX P w) P w K mg base N qual scope f cd A outer s H E) (fun c d _ H' => E c d H') := takes_of rfl rfl rfl rfl
theorem passF {P : Program} {w : World} {K : PySem.W.Frag} {mg : Str → Option Value} {base : Heap} {N : List Str} {qual : Str} {scope : Scope} {f : Addr} {cd : Value} {A : Around} {outer : List Env} {s : Shared} {H : Hp} {E : XK} :
    PassesOwn (model (cxOf (L2.CX P w) P w K mg base N qual scope f cd A outer s H E).prog (cxOf (L2.CX P w) P w K mg base N qual scope f cd A outer s H E).w) (cxOf (L2.CX P w) P w K mg base N qual scope f cd A outer s H E).A (cxOf (L2.CX P w) P w K mg base N qual scope f cd A outer s H E).env (cxOf (L2.CX P w) P w K mg base N qual scope f cd A outer s H E).xe := passes_of rfl
section
variable {X : Cx} {W : WX} {pos p : Pos} {k : Nat} {f : Addr} {fd : FuncData} {ps : List Str} {x : Str} {e : Expr} {es : List Expr} {t : AF} {g : FF}
/-- the callee runs -/
theorem zrun {rq : Bool} {pins : List (Addr × Obj)} {σ : L2.St} {H : Hp} {s : Shared} {Q : VK} {us : List Value} {vs : List V} {ι : List Addr} {ds : List D} {m : M} {kw : List (Str × Value)} {ws : List Value} {F : List Addr} (Z0 : ZF rq X.prog X.w X.K X.mg X.base k f fd ps g) (hr : Room k X.A) (hgd : rq = true → X.A.guards = some []) (tk : Takes X W)
    (I : Inv X pins σ H s) (hb : BindsTo s fd ⟨us, kw⟩ (ps.zip ws)) (r : Vals vs ws) (hl : vs.length = ps.length) (rr : RepL X.K (X.mg, F) ι H ds vs) (hm : HR X.K (X.mg, F) ι H m) (h : Post X.K (X.mg, F) (relE X.K (X.mg, F)) (fun c d H' => W c d σ H') ι H Q (g ds m)) :
    wpAny (model X.prog X.w) X.A (call (.ref f) us kw) (EP X pins σ Q) X.xe s := by
  refine wpAny_call (codeAny_mono (Z0.run X.A X.stack s H ⟨us, kw⟩ ws vs Q (fun c d H' => W c d σ H') hr hgd I.env0 hb r ⟨hl, F, ι, ds, m, rr, hm, h⟩) fun res s' hq => ?_)
  cases res with
  | error e => exact passAt tk σ pins H s e s' I hq
  | ok fl =>
    cases fl with
    | ret u => exact I.after hq
    | next => cases hq
    | brk => cases hq
    | cont => cases hq
/-- a call of a def: the arguments as many as the parameters -/
theorem z_call {rq : Bool} (Z0 : ZF rq X.prog X.w X.K X.mg X.base k f fd ps g) (hgl : ∀ ds m, ds.length ≠ ps.length → g ds m = .bad) (hr : Room k X.A) (hgd : rq = true → X.A.guards = some []) (hg : Gl X x) (hm : X.mg x = some (.ref f)) (hk : PySem.W.keepIn X.K (.ref f) = true) (hb : Binds X.K fd ps []) (tk : Takes X W)
    (ha : ZA X W (e :: es) t) (hdb : (x == ("__debug__" : Str)) = false := by decide) (he : starEach (e :: es) X.env = (false, eval e X.env) :: starEach es X.env := by rfl) (hpl : (backTo pos (starEach es X.env)).any (·.1) = false := by rfl) :
    ZE X W (.Call (.Name x p) (e :: es) [] pos) (eBlt g t) := by
  refine ⟨fun pins s σ H Q I ⟨F, ι, ρ, m, hρ, hm', hp⟩ => ?_⟩
  refine wpAny_Call_Name_kw (ld_glob I hg hm ?_ hdb)
  have hA : tA X.K X.mg W t σ H fun vs H1 => ∃ ι1 ds m1, HR X.K (X.mg, F) ι1 H1 m1 ∧ RepL X.K (X.mg, F) ι1 H1 ds vs ∧ Post X.K (X.mg, F) (relE X.K (X.mg, F)) (fun c d H' => W c d σ H') ι1 H1 Q (g ds m1) :=
    ⟨F, ι, ρ, m, hρ, hm', Post.seq hp fun ds m1 ι1 H1 vs _ e1 h1 r1 hp1 => ⟨ι1, ds, m1, h1, r1, hp1⟩⟩
  refine PySem.W.callWith_K (h₀ := X.base) I.ok.mod.kin hk (thn (ha.run pos pins s σ H _ I hA) fun us s1 ⟨vs, H1, I1, r, ι1, ds, m1, h1, r1, hp1⟩ => ⟨I1.kIn, ?_⟩) he hpl
  by_cases hl : ds.length = ps.length
  · have hv : vs.length = ps.length := r1.length.symm.trans hl
    have hb' := hb s1 us I1.kIn (by rw [List.append_nil, ← r.length]; exact hv)
    rw [List.append_nil] at hb'
    exact zrun Z0 hr hgd tk I1 hb' r hv r1 h1 hp1
  · rw [hgl ds m1 hl] at hp1
    exact hp1.elim
end
theorem fnF_len {np ns : Nat} {b : SF} {ds : List D} {m : M} (h : ds.length ≠ np) : fnF np ns b ds m = .bad := if_neg h
end Z

namespace Z
open PySem PySem.Spec PyProof.Rows L2

/-! ### values as plain data -/
def toPs (f : D → Option PyData) : List D → Option (List PyData)
  | [] => some []
  | d :: ds => match f d, toPs f ds with
    | some p, some ps => some (p :: ps)
    | _, _ => none
def toP : Nat → M → D → Option PyData
  | 0, _, _ => none
  | n + 1, m, d => match d with
    | .non => some .none
    | .bl b => some (.bool b)
    | .int i => some (.int i)
    | .str x => some (.str x)
    | .tup xs => (toPs (toP n m) xs).map .tuple
    | .fl xs => (toPs (toP n m) xs).map .list
    | .sl xs => (toPs (toP n m) xs).map .list
    | .kt xs => (toPs (toP n m) xs).map .tuple
    | .ref a => match m[a]? with
      | some (.lst xs) => (toPs (toP n m) xs).map .list
      | _ => none
    | _ => none
abbrev deepest : Nat := 24
section
variable {K : PySem.W.Frag} {mg : G} {ι : List Addr} {H : Hp} {m : M}
theorem dpAll {f : D → Option PyData} (hf : ∀ d p v, f d = some p → Rep K mg ι H d v → Dp K H v p) : ∀ {ds : List D} {ps : List PyData} {vs : List V}, toPs f ds = some ps → RepL K mg ι H ds vs → DpAll K H vs ps
  | [], ps, _, h, .nil => by cases h; exact .nil
  | d :: ds, ps, _, h, .cons r rs => by
    unfold toPs at h
    split at h
    · rename_i p qs h1 h2
      cases h
      exact .cons (hf _ _ _ h1 r) (dpAll hf h2 rs)
    · cases h
theorem dp_of (hm : HR K mg ι H m) : ∀ (n : Nat) (d : D) (p : PyData) (v : V), toP n m d = some p → Rep K mg ι H d v → Dp K H v p
  | 0, _, _, _, h, _ => by cases h
  | n + 1, d, p, v, h, r => by
    cases r with
    | non => cases h; exact .non
    | bl b => cases h; exact .bl b
    | int i => cases h; exact .int i
    | str x => cases h; exact .str x
    | tup hs hr =>
      obtain ⟨ps, h1, rfl⟩ := Option.map_eq_some_iff.mp (show Option.map PyData.tuple _ = some p from h)
      exact .tup (.of hs) (dpAll (dp_of hm n) h1 hr)
    | fl hs hr =>
      obtain ⟨ps, h1, rfl⟩ := Option.map_eq_some_iff.mp (show Option.map PyData.list _ = some p from h)
      exact .lst hs.sq (dpAll (dp_of hm n) h1 hr)
    | sl _ hs hr =>
      obtain ⟨ps, h1, rfl⟩ := Option.map_eq_some_iff.mp (show Option.map PyData.list _ = some p from h)
      exact .lst (.of hs) (dpAll (dp_of hm n) h1 hr)
    | kt hs hr =>
      obtain ⟨ps, h1, rfl⟩ := Option.map_eq_some_iff.mp (show Option.map PyData.tuple _ = some p from h)
      exact .tup hs.sq (dpAll (dp_of hm n) h1 hr)
    | @ref a ad e =>
      obtain ⟨c, hc, cr⟩ := hm.lt e
      have h : (match m[a]? with | some (.lst xs) => (toPs (toP n m) xs).map PyData.list | _ => none) = some p := h
      rw [hc] at h
      cases cr with
      | lst hl hr =>
        obtain ⟨ps, h1, rfl⟩ := Option.map_eq_some_iff.mp (show Option.map PyData.list _ = some p from h)
        exact .lst (.inl (.inl hl)) (dpAll (dp_of hm n) h1 hr)
      | dK _ _ => cases h
      | dT _ _ => cases h
      | ins _ _ _ => cases h
    | glo _ => cases h
    | ty _ => cases h
    | exc _ _ _ _ _ _ => cases h
    | ex0 _ _ _ => cases h
    | cau _ _ _ => cases h
end
/-! ### operations -/
def oEq (x y : D) (m : M) : R D := match toP deepest m x, toP deepest m y with
  | some p, some q => if (SeqAt.shaped p && SeqAt.shaped q) = true then .ok (.bl (PyData.eqv p q)) m else .bad
  | _, _ => .bad
def oNe (x y : D) (m : M) : R D := match toP deepest m x, toP deepest m y with
  | some p, some q => if (SeqAt.shaped p && SeqAt.shaped q) = true then .ok (.bl (!PyData.eqv p q)) m else .bad
  | _, _ => .bad
def notNone : PyData → Bool
  | .none => false
  | _ => true
theorem notNone_ne {p : PyData} (h : notNone p = true) : p ≠ .none := fun e => by subst e; cases h
/-- an order: on ints by i, on data by g -/
def oOrdP (g : PyData → PyData → Bool) (x y : D) (m : M) : R D := match toP deepest m x, toP deepest m y with
  | some p, some q => if (PySem.W.alike p q && notNone p && decide (p.depth ≤ 64)) = true then .ok (.bl (g p q)) m else .bad
  | _, _ => .bad
def oOrd (i : Int → Int → Bool) (g : PyData → PyData → Bool) (x y : D) (m : M) : R D := match x, y with
  | .int a, .int b => .ok (.bl (i a b)) m
  | .tup a, y => oOrdP g (.tup a) y m
  | .str a, y => oOrdP g (.str a) y m
  | .ref a, y => oOrdP g (.ref a) y m
  | _, _ => .bad
def oLt : D → D → M → R D := oOrd (fun a b => decide (a < b)) (fun p q => PySem.W.dataLt p q)
def oLe : D → D → M → R D := oOrd (fun a b => decide (a ≤ b)) (fun p q => !PySem.W.dataLt q p)
def oGt : D → D → M → R D := oOrd (fun a b => decide (b < a)) (fun p q => PySem.W.dataLt q p)
def oGe : D → D → M → R D := oOrd (fun a b => decide (b ≤ a)) (fun p q => !PySem.W.dataLt p q)
section
variable {X : Cx}
abbrev Un64 (X : Cx) : Prop := X.A.units + 64 < cLine
theorem op2_eq : Op2 X (rEqD X.K) oEq := fun F E ι H m x y v u Q hm rx ry hp => by
  unfold oEq at hp
  split at hp
  · rename_i p q h1 h2
    split at hp
    · rename_i hs
      rw [Bool.and_eq_true] at hs
      exact ⟨p, q, dp_of hm _ _ _ _ h1 rx, dp_of hm _ _ _ _ h2 ry, hs.1, hs.2, hp.okI hm (.bl _)⟩
    · exact hp.elim
  · exact hp.elim
theorem op2_ne : Op2 X (rNeD X.K) oNe := fun F E ι H m x y v u Q hm rx ry hp => by
  unfold oNe at hp
  split at hp
  · rename_i p q h1 h2
    split at hp
    · rename_i hs
      rw [Bool.and_eq_true] at hs
      exact ⟨p, q, dp_of hm _ _ _ _ h1 rx, dp_of hm _ _ _ _ h2 ry, hs.1, hs.2, hp.okI hm (.bl _)⟩
    · exact hp.elim
  · exact hp.elim
/-- an order's reading -/
def rOrd (K : PySem.W.Frag) (i : Int → Int → Bool) (g : PyData → PyData → Bool) : R2 := fun x y H Q => (∃ a b, x = .int a ∧ y = .int b ∧ Q (.bl (i a b)) H) ∨
  ∃ p q, Dp K H x p ∧ Dp K H y q ∧ PySem.W.alike p q = true ∧ p ≠ .none ∧ p.depth ≤ 64 ∧ Q (.bl (g p q)) H
theorem op2_ordP {i : Int → Int → Bool} {g : PyData → PyData → Bool} : Op2 X (rOrd X.K i g) (oOrdP g) := fun F E ι H m x y v u Q hm rx ry hp => by
  unfold oOrdP at hp
  split at hp
  · rename_i p q h1 h2
    split at hp
    · rename_i hs
      rw [Bool.and_eq_true, Bool.and_eq_true] at hs
      exact .inr ⟨p, q, dp_of hm _ _ _ _ h1 rx, dp_of hm _ _ _ _ h2 ry, hs.1.1, notNone_ne hs.1.2, of_decide_eq_true hs.2, hp.okI hm (.bl _)⟩
    · exact hp.elim
  · exact hp.elim
theorem op2_ord {i : Int → Int → Bool} {g : PyData → PyData → Bool} : Op2 X (rOrd X.K i g) (oOrd i g) := fun F E ι H m x y v u Q hm rx ry hp => by
  unfold oOrd at hp
  split at hp
  · cases rx; cases ry
    exact .inl ⟨_, _, rfl, rfl, hp.okI hm (.bl _)⟩
  · exact op2_ordP F E ι H m _ _ v u Q hm rx ry hp
  · exact op2_ordP F E ι H m _ _ v u Q hm rx ry hp
  · exact op2_ordP F E ι H m _ _ v u Q hm rx ry hp
  · exact hp.elim
theorem opr_ord {op : CmpOp} {i : Int → Int → Bool} {g : PyData → PyData → Bool} (hu : Un64 X)
    (h1 : ∀ (a b : Int) (t t' : Tok) (Q : Value → Shared → Prop) (s : Shared), Q (.bool (i a b)) s → wpAny (model X.prog X.w) X.A (compareOp op (.int a t) (.int b t')) Q X.xe s)
    (h2 : ∀ (s : Shared) (v u : Value) (p q : PyData) (as bs : List Addr) (Q : Value → Shared → Prop), Reads s.heap v p as → Reads s.heap u q bs → PySem.W.alike p q = true → p ≠ .none → X.A.units + min p.depth q.depth < cLine → Q (.bool (g p q)) s → wpAny (model X.prog X.w) X.A (compareOp op v u) Q X.xe s) :
    OpR X (compareOp op) (rOrd X.K i g) := by
  intro pins s σ H x y v u Q I rx ry q
  rcases q with ⟨a, b, rfl, rfl, q⟩ | ⟨p, r, d1, d2, ha, hn, hd, q⟩
  · obtain ⟨t, rfl⟩ := rx
    obtain ⟨t', rfl⟩ := ry
    exact h1 a b t t' _ s ⟨.bl _, H, I, rfl, q⟩
  · obtain ⟨as, r1⟩ := Dp.reads I p x v d1 rx
    obtain ⟨bs, r2⟩ := Dp.reads I r y u d2 ry
    have hu' : X.A.units + 64 < cLine := hu
    exact h2 s v u p r as bs _ r1 r2 ha hn (by omega) ⟨.bl _, H, I, rfl, q⟩
theorem opr_lt (hu : Un64 X) : OpR X (compareOp .Lt) (rOrd X.K (fun a b => decide (a < b)) (fun p q => PySem.W.dataLt p q)) := opr_ord hu (fun _ _ _ _ _ _ h => lt_int h) fun s v u p q as bs Q r1 r2 ha hn hd h => PySem.W.lt_data r1 r2 ha hn hd h
theorem opr_le (hu : Un64 X) : OpR X (compareOp .LtE) (rOrd X.K (fun a b => decide (a ≤ b)) (fun p q => !PySem.W.dataLt q p)) := opr_ord hu (fun _ _ _ _ _ _ h => le_int h) fun s v u p q as bs Q r1 r2 ha hn hd h => PySem.W.le_data r1 r2 ha hn hd h
theorem opr_gt (hu : Un64 X) : OpR X (compareOp .Gt) (rOrd X.K (fun a b => decide (b < a)) (fun p q => PySem.W.dataLt q p)) := opr_ord hu (fun _ _ _ _ _ _ h => gt_int h) fun s v u p q as bs Q r1 r2 ha hn hd h => PySem.W.gt_data r1 r2 ha hn hd h
theorem opr_ge (hu : Un64 X) : OpR X (compareOp .GtE) (rOrd X.K (fun a b => decide (b ≤ a)) (fun p q => !PySem.W.dataLt p q)) := opr_ord hu (fun _ _ _ _ _ _ h => ge_int h) fun s v u p q as bs Q r1 r2 ha hn hd h => PySem.W.ge_data r1 r2 ha hn hd h

/-! arithmetic, joining -/
end
/-- a list's items, that it may be joined -/
def lstOf (m : M) : D → Option (List D)
  | .sl xs => some xs
  | .ref n => match m[n]? with
    | some (.lst xs) => some xs
    | _ => none
  | _ => none
def small64b (i : Int) : Bool := decide (-(2 ^ 64) < i) && decide (i < 2 ^ 64)
def oAdd (x y : D) (m : M) : R D := match x, y with
  | .int a, .int b => .ok (.int (a + b)) m
  | .str a, .str b => if a.length + b.length ≤ line then .ok (.str (a ++ b)) m else .bad
  | .tup a, .tup b => if a.length + b.length ≤ line then .ok (.tup (a ++ b)) m else .bad
  | .ref a, y => match m[a]?, lstOf m y with
    | some (.lst xs), some ys => if xs.length + ys.length ≤ line then .ok (.ref m.length) (m ++ [.lst (xs ++ ys)]) else .bad
    | _, _ => .bad
  | .sl xs, y => match lstOf m y with
    | some ys => if xs.length + ys.length ≤ line then .ok (.ref m.length) (m ++ [.lst (xs ++ ys)]) else .bad
    | _ => .bad
  | _, _ => .bad
/-- the same, lists to lists that nobody writes -/
def oAddS (x y : D) (m : M) : R D := match lstOf m x, lstOf m y with
  | some xs, some ys => if xs.length + ys.length ≤ line then .ok (.sl (xs ++ ys)) m else .bad
  | _, _ => .bad
def oSub (x y : D) (m : M) : R D := match x, y with
  | .int a, .int b => .ok (.int (a - b)) m
  | _, _ => .bad
def oMul (x y : D) (m : M) : R D := match x, y with
  | .int a, .int b => if (small64b a || small64b b) = true then .ok (.int (a * b)) m else .bad
  | .tup xs, .int k => if xs ≠ [] ∧ 2 ≤ k ∧ k ≤ 1000 ∧ xs.length ≤ 1000 then .ok (.tup (List.replicate k.toNat xs).flatten) m else .bad
  | .ref a, .int k => match m[a]? with
    | some (.lst xs) => if -(2 ^ 63) ≤ k ∧ k < 2 ^ 63 ∧ xs.length * k.toNat ≤ line then .ok (.ref m.length) (m ++ [.lst (List.replicate k.toNat xs).flatten]) else .bad
    | _ => .bad
  | .sl xs, .int k => if -(2 ^ 63) ≤ k ∧ k < 2 ^ 63 ∧ xs.length * k.toNat ≤ line then .ok (.sl (List.replicate k.toNat xs).flatten) m else .bad
  | _, _ => .bad
def oFdiv (x y : D) (m : M) : R D := match x, y with
  | .int a, .int b => if 0 < b ∧ b < 1073741824 then .ok (.int (a / b)) m else .bad
  | _, _ => .bad
def oMod (x y : D) (m : M) : R D := match x, y with
  | .int a, .int b => if 0 < b then .ok (.int (a % b)) m else .bad
  | _, _ => .bad
def oPow (x y : D) (m : M) : R D := match x, y with
  | .int a, .int b => if 0 ≤ b ∧ b ≤ 1000000 ∧ a.natAbs < 2 ^ 64 then .ok (.int (a ^ b.toNat)) m else .bad
  | _, _ => .bad
def oNeg (x : D) (m : M) : R D := match x with
  | .int a => .ok (.int (-a)) m
  | _ => .bad
section
variable {X : Cx}
theorem small64b_ok {i : Int} (h : small64b i = true) : -(2 ^ 64) < i ∧ i < 2 ^ 64 := by
  unfold small64b at h
  rw [Bool.and_eq_true] at h
  exact ⟨of_decide_eq_true h.1, of_decide_eq_true h.2⟩
theorem lst_at {K : PySem.W.Frag} {mg : G} {ι : List Addr} {H : Hp} {m : M} (hm : HR K mg ι H m) {n : Nat} {a : Addr} {xs : List D} (e : ι[n]? = some a) (h : m[n]? = some (.lst xs)) : ∃ vs, H a = some (.lst vs) ∧ RepL K mg ι H xs vs := by
  obtain ⟨c, hc, cr⟩ := hm.lt e
  rw [h] at hc
  cases hc
  cases cr with
  | lst h1 h2 => exact ⟨_, h1, h2⟩
theorem lstOf_rep {K : PySem.W.Frag} {mg : G} {ι : List Addr} {H : Hp} {m : M} (hm : HR K mg ι H m) {d : D} {v : V} {xs : List D} (r : Rep K mg ι H d v) (h : lstOf m d = some xs) : ∃ p vs, v = .ref p ∧ H p = some (.lst vs) ∧ RepL K mg ι H xs vs := by
  cases r with
  | sl _ h1 h2 => cases h; exact ⟨_, _, rfl, h1, h2⟩
  | @ref n a e =>
    have h : (match m[n]? with | some (.lst xs) => some xs | _ => none) = some xs := h
    split at h
    · rename_i ys hc
      cases h
      obtain ⟨us, h1, h2⟩ := lst_at hm e hc
      exact ⟨_, us, rfl, h1, h2⟩
    · cases h
  | _ => cases h
/-- a new list cell -/
theorem Post.newL {K : PySem.W.Frag} {mg : G} {ι : List Addr} {H : Hp} {m : M} {E : XK} {Q : VK} {xs : List D} {vs : List V} (hm : HR K mg ι H m) (r : RepL K mg ι H xs vs) (hp : Post K mg (relE K mg) E ι H Q (.ok (.ref m.length) (m ++ [.lst xs]))) {p : Addr} (hn : H p = none) : Q (.ref p) (upd H p (.lst vs)) := by
  refine hp (ι ++ [p]) _ _ (Ext.cell hn) (hm.cell hn (.lst upd_same (r.mono (Ext.cell hn)))) (.ref ?_)
  rw [← hm.len]; simp
theorem Post.newT {K : PySem.W.Frag} {mg : G} {ι : List Addr} {H : Hp} {m : M} {E : XK} {Q : VK} {xs : List D} {vs : List V} (hm : HR K mg ι H m) (r : RepL K mg ι H xs vs) (hp : Post K mg (relE K mg) E ι H Q (.ok (.tup xs) m)) {p : Addr} (hn : H p = none) : Q (.ref p) (upd H p (.tup vs)) :=
  hp ι _ _ (Ext.side hn) (hm.side hn) (.tup upd_same (r.mono (Ext.side hn)))
abbrev rAddI : R2 := rI0 fun i j => .int (i + j)
abbrev rAddS : R2 := fun x y H Q => ∃ i j, x = .str i ∧ y = .str j ∧ i.length + j.length ≤ sizeLine ∧ Q (.str (i ++ j)) H
theorem opr_add : OpR X (binaryOp .Add) (fun x y H Q => rAddI x y H Q ∨ rAddS x y H Q ∨ rCatA X.K x y H Q ∨ rCat x y H Q) := op_add.or (op_add_str.or (op_catA.or op_cat))
theorem op2_add : Op2 X (fun x y H Q => rAddI x y H Q ∨ rAddS x y H Q ∨ rCatA X.K x y H Q ∨ rCat x y H Q) oAdd := fun F E ι H m x y v u Q hm rx ry hp => by
  unfold oAdd at hp
  split at hp
  · cases rx; cases ry
    exact .inl ⟨_, _, rfl, rfl, hp.okI hm (.int _)⟩
  · split at hp
    · rename_i hl
      cases rx; cases ry
      exact .inr (.inl ⟨_, _, rfl, rfl, by rw [line_eq]; exact hl, hp.okI hm (.str _)⟩)
    · exact hp.elim
  · split at hp
    · rename_i hl
      cases rx with
      | tup h1 r1 =>
        cases ry with
        | tup h2 r2 =>
          refine .inr (.inr (.inl ⟨_, _, _, _, rfl, rfl, .of h1, .of h2, by rw [line_eq, ← r1.length, ← r2.length]; exact hl, fun e => ?_, fun e e2 => ?_, fun e e2 p hn => hp.newT hm (r1.append r2) hn⟩))
          · subst e
            cases r1
            exact hp.okI hm (.tup h2 r2)
          · subst e2
            cases r2
            rw [List.append_nil] at hp
            exact hp.okI hm (.tup h1 r1)
    · exact hp.elim
  · split at hp
    · rename_i xs ys e1 e2
      split at hp
      · rename_i hl
        cases rx with
        | ref ea =>
          obtain ⟨vs, h1, r1⟩ := lst_at hm ea e1
          obtain ⟨b, us, rfl, h2, r2⟩ := lstOf_rep hm ry e2
          exact .inr (.inr (.inr ⟨_, _, _, _, rfl, rfl, h1, h2, by rw [line_eq, ← r1.length, ← r2.length]; exact hl, fun p hn => hp.newL hm (r1.append r2) hn⟩))
      · exact hp.elim
    · exact hp.elim
  · split at hp
    · rename_i ys e2
      split at hp
      · rename_i hl
        cases rx with
        | sl _ h1 r1 =>
          obtain ⟨b, us, rfl, h2, r2⟩ := lstOf_rep hm ry e2
          exact .inr (.inr (.inr ⟨_, _, _, _, rfl, rfl, h1, h2, by rw [line_eq, ← r1.length, ← r2.length]; exact hl, fun p hn => hp.newL hm (r1.append r2) hn⟩))
      · exact hp.elim
    · exact hp.elim
  · exact hp.elim
theorem op2_addS : Op2 X (fun x y H Q => rAddI x y H Q ∨ rAddS x y H Q ∨ rCatA X.K x y H Q ∨ rCat x y H Q) oAddS := fun F E ι H m x y v u Q hm rx ry hp => by
  unfold oAddS at hp
  split at hp
  · rename_i xs ys e1 e2
    split at hp
    · rename_i hl
      obtain ⟨a, vs, rfl, h1, r1⟩ := lstOf_rep hm rx e1
      obtain ⟨b, us, rfl, h2, r2⟩ := lstOf_rep hm ry e2
      exact .inr (.inr (.inr ⟨_, _, _, _, rfl, rfl, h1, h2, by rw [line_eq, ← r1.length, ← r2.length]; exact hl, fun p hn => hp.newS hm (r1.append r2) hn⟩))
    · exact hp.elim
  · exact hp.elim
theorem op2_sub : Op2 X (rI0 fun i j => .int (i - j)) oSub := fun F E ι H m x y v u Q hm rx ry hp => by
  unfold oSub at hp
  split at hp
  · cases rx; cases ry
    exact ⟨_, _, rfl, rfl, hp.okI hm (.int _)⟩
  · exact hp.elim
theorem RepL.rep {K : PySem.W.Frag} {mg : G} {ι : List Addr} {H : Hp} {xs : List D} {vs : List V} (r : RepL K mg ι H xs vs) : ∀ k : Nat, RepL K mg ι H (List.replicate k xs).flatten (List.replicate k vs).flatten
  | 0 => .nil
  | k + 1 => by
    rw [List.replicate_succ, List.replicate_succ, List.flatten_cons, List.flatten_cons]
    exact r.append (RepL.rep r k)
theorem opr_mul : OpR X (binaryOp .Mult) (fun x y H Q => rI CMul (fun i j => .int (i * j)) x y H Q ∨ rRepT X.K x y H Q ∨ rRep x y H Q) := op_mul.or (op_repT.or op_rep)
theorem op2_mul : Op2 X (fun x y H Q => rI CMul (fun i j => .int (i * j)) x y H Q ∨ rRepT X.K x y H Q ∨ rRep x y H Q) oMul := fun F E ι H m x y v u Q hm rx ry hp => by
  unfold oMul at hp
  split at hp
  · split at hp
    · rename_i hc
      cases rx; cases ry
      refine .inl ⟨_, _, rfl, rfl, ?_, hp.okI hm (.int _)⟩
      rw [Bool.or_eq_true] at hc
      rcases hc with hc | hc
      · exact .inl (small64b_ok hc)
      · exact .inr (small64b_ok hc)
    · exact hp.elim
  · split at hp
    · rename_i hc
      obtain ⟨c1, c2, c3, c4⟩ := hc
      cases ry
      cases rx with
      | tup h1 r1 =>
        exact .inr (.inl ⟨_, _, _, rfl, rfl, .of h1, fun e => by subst e; cases r1; exact c1 rfl, c2, c3, by rw [← r1.length]; exact c4, fun p hn => hp.newT hm (r1.rep _) hn⟩)
    · exact hp.elim
  · split at hp
    · rename_i xs e1
      split at hp
      · rename_i hc
        obtain ⟨c1, c2, c3⟩ := hc
        cases ry
        cases rx with
        | ref ea =>
          obtain ⟨vs, h1, r1⟩ := lst_at hm ea e1
          exact .inr (.inr ⟨_, _, _, rfl, rfl, h1, c1, c2, by rw [line_eq, ← r1.length]; exact c3, fun p hn => hp.newL hm (r1.rep _) hn⟩)
      · exact hp.elim
    · exact hp.elim
  · split at hp
    · rename_i hc
      obtain ⟨c1, c2, c3⟩ := hc
      cases ry
      cases rx with
      | sl _ h1 r1 => exact .inr (.inr ⟨_, _, _, rfl, rfl, h1, c1, c2, by rw [line_eq, ← r1.length]; exact c3, fun p hn => hp.newS hm (r1.rep _) hn⟩)
    · exact hp.elim
  · exact hp.elim
theorem op2_fdiv : Op2 X (rI CDiv fun i j => .int (i / j)) oFdiv := fun F E ι H m x y v u Q hm rx ry hp => by
  unfold oFdiv at hp
  split at hp
  · split at hp
    · rename_i hc
      cases rx; cases ry
      exact ⟨_, _, rfl, rfl, hc, hp.okI hm (.int _)⟩
    · exact hp.elim
  · exact hp.elim
theorem op2_mod : Op2 X (rI (fun _ j => 0 < j) fun i j => .int (i % j)) oMod := fun F E ι H m x y v u Q hm rx ry hp => by
  unfold oMod at hp
  split at hp
  · split at hp
    · rename_i hc
      cases rx; cases ry
      exact ⟨_, _, rfl, rfl, hc, hp.okI hm (.int _)⟩
    · exact hp.elim
  · exact hp.elim
theorem op2_pow : Op2 X (rI CPow fun i j => .int (i ^ j.toNat)) oPow := fun F E ι H m x y v u Q hm rx ry hp => by
  unfold oPow at hp
  split at hp
  · split at hp
    · rename_i hc
      cases rx; cases ry
      exact ⟨_, _, rfl, rfl, hc, hp.okI hm (.int _)⟩
    · exact hp.elim
  · exact hp.elim
theorem z_neg {W : WX} {a : Expr} {f : EF} {pos : Pos} (ha : ZE X W a f) : ZE X W (.UnaryOp .USub a pos) (eUn oNeg f) := z_un un_neg (fun F E ι H m x v Q hm rx hp => by
  unfold oNeg at hp
  split at hp
  · cases rx
    exact ⟨_, rfl, hp.okI hm (.int _)⟩
  · exact hp.elim) ha
end
/-! ### identity with None, True, False -/
def oIsN (x y : D) (m : M) : R D := match y with
  | .non => match x with
    | .non => .ok (.bl true) m
    | _ => .ok (.bl false) m
  | .bl b => match x with
    | .bl a => .ok (.bl (decide (a = b))) m
    | _ => .bad
  | _ => .bad
def oNotN (x y : D) (m : M) : R D := match y with
  | .non => match x with
    | .non => .ok (.bl false) m
    | _ => .ok (.bl true) m
  | .bl b => match x with
    | .bl a => .ok (.bl (!decide (a = b))) m
    | _ => .bad
  | _ => .bad
section
variable {X : Cx}
abbrev rIsN : R2 := fun x y H Q => (y = .non ∧ Q (.bl (decide (x = .non))) H) ∨ rIsB x y H Q
abbrev rNotN : R2 := fun x y H Q => (y = .non ∧ Q (.bl (!decide (x = .non))) H) ∨ rNotB x y H Q
theorem opr_is : OpR X (compareOp .Is) rIsN := op_isN.or op_isBl
theorem opr_isnot : OpR X (compareOp .IsNot) rNotN := op_notN.or op_notBl
theorem op2_is : Op2 X rIsN oIsN := fun F E ι H m x y v u Q hm rx ry hp => by
  unfold oIsN at hp
  split at hp
  · cases ry
    split at hp
    · cases rx
      exact .inl ⟨rfl, hp.okI hm (.bl true)⟩
    · rename_i hx
      refine .inl ⟨rfl, ?_⟩
      have e : v ≠ .non := fun e => by subst e; cases rx; exact hx rfl
      rw [decide_eq_false e]
      exact hp.okI hm (.bl false)
  · split at hp
    · cases rx; cases ry
      exact .inr ⟨_, _, rfl, rfl, hp.okI hm (.bl _)⟩
    · exact hp.elim
  · exact hp.elim
theorem op2_isnot : Op2 X rNotN oNotN := fun F E ι H m x y v u Q hm rx ry hp => by
  unfold oNotN at hp
  split at hp
  · cases ry
    split at hp
    · cases rx
      exact .inl ⟨rfl, hp.okI hm (.bl false)⟩
    · rename_i hx
      refine .inl ⟨rfl, ?_⟩
      have e : v ≠ .non := fun e => by subst e; cases rx; exact hx rfl
      rw [decide_eq_false e]
      exact hp.okI hm (.bl true)
  · split at hp
    · cases rx; cases ry
      exact .inr ⟨_, _, rfl, rfl, hp.okI hm (.bl _)⟩
    · exact hp.elim
  · exact hp.elim
end
end Z

namespace Z
open PySem PySem.Spec PyProof.Rows L2

/-! ### subscripts -/
def ixD (n : Nat) (i : Int) : Option Nat := if 0 ≤ i then (if i < n then some i.toNat else none) else if -(n : Int) ≤ i then some (i + n).toNat else none
def atD (xs : List D) (i : Int) : Option D := (ixD xs.length i).bind fun j => xs[j]?
abbrev KeyU := Key ⊕ List Key
def keyU (d : D) : Option KeyU := match keyOf d with
  | some k => some (.inl k)
  | none => (keyT d).map .inr
def keyB (a b : D) : Bool := decide (keyU a = keyU b)
def valD (kvs : List (D × D)) (k : D) : Option D := (kvs.find? fun p => keyB p.1 k).map (·.2)
def putD (kvs : List (D × D)) (k v : D) : List (D × D) := if kvs.any (fun p => keyB p.1 k) = true then kvs.map fun p => if keyB p.1 k = true then (p.1, v) else p else kvs ++ [(k, v)]
def isT (d : D) : Bool := (keyT d).isSome
/-- the key is of the dict's kind -/
def keyFits (kvs : List (D × D)) (k : D) : Bool := (keyU k).isSome && match kvs with
  | [] => true
  | p :: _ => isT p.1 == isT k
section
variable {K : PySem.W.Frag} {mg : G} {ι : List Addr} {H : Hp} {m : M}
theorem atI_rep {xs : List D} {vs : List V} (r : RepL K mg ι H xs vs) {i : Int} {d : D} (h : atD xs i = some d) : ∃ v, atI vs i = some v ∧ Rep K mg ι H d v := by
  unfold atD at h
  have e : ixD xs.length i = ixN vs.length i := by rw [r.length]; rfl
  rw [e] at h
  unfold atI
  cases q : ixN vs.length i with
  | none => rw [q] at h; cases h
  | some j =>
    rw [q] at h
    exact r.get (show xs[j]? = some d from h)
theorem keyU_int {i : Int} : keyU (.int i) = some (.inl (.inl i)) := rfl
theorem keyU_str {x : Str} : keyU (.str x) = some (.inl (.inr x)) := rfl
theorem kV_of {d : D} {v : V} {k : Key} (r : Rep K mg ι H d v) (h : keyOf d = some k) : v = kV k := by
  cases r <;> cases h <;> rfl
theorem kVs_of : ∀ {ds : List D} {vs : List V} {ks : List Key}, RepL K mg ι H ds vs → keysOf ds = some ks → vs = ks.map kV
  | [], _, ks, .nil, h => by cases h; rfl
  | d :: ds, _, ks, .cons r rs, h => by
    unfold keysOf at h
    split at h
    · rename_i k kr h1 h2
      cases h
      rw [kV_of r h1, kVs_of rs h2]
      rfl
    · cases h
theorem keyT_at {d : D} {v : V} {ks : List Key} (r : Rep K mg ι H d v) (h : keyT d = some ks) : ∃ b, v = .ref b ∧ H b = some (.tup (ks.map kV)) := by
  cases r with
  | tup h1 r1 =>
    have e := kVs_of r1 (show keysOf _ = some ks from h)
    exact ⟨_, rfl, by rw [← e]; exact h1⟩
  | _ => cases h
theorem keyOf_T {d : D} {k : Key} (h : keyOf d = some k) : keyT d = none := by cases d <;> first | rfl | cases h
theorem keyT_K {d : D} {ks : List Key} (h : keyT d = some ks) : keyOf d = none := by cases d <;> first | rfl | cases h
theorem valD_K {kvs : List (D × D)} {ws : List (Key × V)} {d : D} {k : Key} (r : RepK K mg ι H kvs ws) (h : keyOf d = some k) : match valD kvs d with
    | some x => ∃ v, valV ws k = some v ∧ Rep K mg ι H x v
    | none => valV ws k = none := by
  have hk : keyU d = some (.inl k) := by unfold keyU; rw [h]
  induction r with
  | nil => exact rfl
  | @cons p q l1 l2 hpq t ih =>
    have hp : keyU p.1 = some (.inl q.1) := by unfold keyU; rw [hpq.1]
    by_cases e : q.1 = k
    · have eb : keyB p.1 d = true := by unfold keyB; rw [hp, hk, e]; exact decide_eq_true rfl
      have e1 : valD (p :: l1) d = some p.2 := by unfold valD; rw [List.find?_cons_of_pos (p := fun p : D × D => keyB p.1 d) eb]; rfl
      rw [e1]
      exact ⟨q.2, valV_pos e, hpq.2⟩
    · have eb : ¬ keyB p.1 d = true := by
        unfold keyB; rw [hp, hk]
        intro z
        have := of_decide_eq_true z
        cases this
        exact e rfl
      have e1 : valD (p :: l1) d = valD l1 d := by unfold valD; rw [List.find?_cons_of_neg (p := fun p : D × D => keyB p.1 d) eb]
      rw [e1]
      rw [valV_neg e]
      exact ih
theorem valD_T {kvs : List (D × D)} {ws : List (List Key × V)} {d : D} {k : List Key} (r : RepT K mg ι H kvs ws) (h : keyT d = some k) : match valD kvs d with
    | some x => ∃ v, valV ws k = some v ∧ Rep K mg ι H x v
    | none => valV ws k = none := by
  have hk : keyU d = some (.inr k) := by unfold keyU; rw [keyT_K h, h]; rfl
  induction r with
  | nil => exact rfl
  | @cons p q l1 l2 hpq t ih =>
    have hp : keyU p.1 = some (.inr q.1) := by unfold keyU; rw [keyT_K hpq.1, hpq.1]; rfl
    by_cases e : q.1 = k
    · have eb : keyB p.1 d = true := by unfold keyB; rw [hp, hk, e]; exact decide_eq_true rfl
      have e1 : valD (p :: l1) d = some p.2 := by unfold valD; rw [List.find?_cons_of_pos (p := fun p : D × D => keyB p.1 d) eb]; rfl
      rw [e1]
      exact ⟨q.2, valV_pos e, hpq.2⟩
    · have eb : ¬ keyB p.1 d = true := by
        unfold keyB; rw [hp, hk]
        intro z
        have := of_decide_eq_true z
        cases this
        exact e rfl
      have e1 : valD (p :: l1) d = valD l1 d := by unfold valD; rw [List.find?_cons_of_neg (p := fun p : D × D => keyB p.1 d) eb]
      rw [e1, valV_neg e]
      exact ih
theorem any_K {kvs : List (D × D)} {ws : List (Key × V)} {d : D} {k : Key} (r : RepK K mg ι H kvs ws) (h : keyOf d = some k) : kvs.any (fun p => keyB p.1 d) = ws.any fun q => decide (q.1 = k) := by
  have hk : keyU d = some (.inl k) := by unfold keyU; rw [h]
  induction r with
  | nil => rfl
  | @cons p q l1 l2 hpq t ih =>
    have hp : keyU p.1 = some (.inl q.1) := by unfold keyU; rw [hpq.1]
    rw [List.any_cons, List.any_cons, ih]
    congr 1
    unfold keyB
    rw [hp, hk]
    by_cases e : q.1 = k
    · rw [e]; simp
    · rw [decide_eq_false e, decide_eq_false]
      intro z; cases z; exact e rfl
theorem any_T {kvs : List (D × D)} {ws : List (List Key × V)} {d : D} {k : List Key} (r : RepT K mg ι H kvs ws) (h : keyT d = some k) : kvs.any (fun p => keyB p.1 d) = ws.any fun q => decide (q.1 = k) := by
  have hk : keyU d = some (.inr k) := by unfold keyU; rw [keyT_K h, h]; rfl
  induction r with
  | nil => rfl
  | @cons p q l1 l2 hpq t ih =>
    have hp : keyU p.1 = some (.inr q.1) := by unfold keyU; rw [keyT_K hpq.1, hpq.1]; rfl
    rw [List.any_cons, List.any_cons, ih]
    congr 1
    unfold keyB
    rw [hp, hk]
    by_cases e : q.1 = k
    · rw [e]; simp
    · rw [decide_eq_false e, decide_eq_false]
      intro z; cases z; exact e rfl
theorem putD_K {kvs : List (D × D)} {ws : List (Key × V)} {d x : D} {k : Key} {v : V} (r : RepK K mg ι H kvs ws) (h : keyOf d = some k) (rx : Rep K mg ι H x v) : RepK K mg ι H (putD kvs d x) (putK ws k v) := by
  have hk : keyU d = some (.inl k) := by unfold keyU; rw [h]
  unfold putD putK
  rw [any_K r h]
  split
  · refine (?_ : ∀ {kvs ws}, RepK K mg ι H kvs ws → RepK K mg ι H (kvs.map _) (ws.map _)) r
    intro kvs ws r
    induction r with
    | nil => exact .nil
    | @cons p q l1 l2 hpq t ih =>
      have hp : keyU p.1 = some (.inl q.1) := by unfold keyU; rw [hpq.1]
      rw [List.map_cons, List.map_cons]
      refine .cons ?_ ih
      by_cases e : q.1 = k
      · have eb : keyB p.1 d = true := by unfold keyB; rw [hp, hk, e]; exact decide_eq_true rfl
        rw [if_pos eb, if_pos e]
        exact ⟨hpq.1, rx⟩
      · have eb : ¬ keyB p.1 d = true := by
          unfold keyB; rw [hp, hk]
          intro z
          have := of_decide_eq_true z
          cases this
          exact e rfl
        rw [if_neg eb, if_neg e]
        exact hpq
  · refine (?_ : ∀ {kvs ws}, RepK K mg ι H kvs ws → RepK K mg ι H (kvs ++ [(d, x)]) (ws ++ [(k, v)])) r
    intro kvs ws r
    induction r with
    | nil => exact .cons ⟨h, rx⟩ .nil
    | cons hpq t ih => exact .cons hpq ih
theorem putD_T {kvs : List (D × D)} {ws : List (List Key × V)} {d x : D} {k : List Key} {v : V} (r : RepT K mg ι H kvs ws) (h : keyT d = some k) (rx : Rep K mg ι H x v) : RepT K mg ι H (putD kvs d x) (putK ws k v) := by
  have hk : keyU d = some (.inr k) := by unfold keyU; rw [keyT_K h, h]; rfl
  unfold putD putK
  rw [any_T r h]
  split
  · refine (?_ : ∀ {kvs ws}, RepT K mg ι H kvs ws → RepT K mg ι H (kvs.map _) (ws.map _)) r
    intro kvs ws r
    induction r with
    | nil => exact .nil
    | @cons p q l1 l2 hpq t ih =>
      have hp : keyU p.1 = some (.inr q.1) := by unfold keyU; rw [keyT_K hpq.1, hpq.1]; rfl
      rw [List.map_cons, List.map_cons]
      refine .cons ?_ ih
      by_cases e : q.1 = k
      · have eb : keyB p.1 d = true := by unfold keyB; rw [hp, hk, e]; exact decide_eq_true rfl
        rw [if_pos eb, if_pos e]
        exact ⟨hpq.1, rx⟩
      · have eb : ¬ keyB p.1 d = true := by
          unfold keyB; rw [hp, hk]
          intro z
          have := of_decide_eq_true z
          cases this
          exact e rfl
        rw [if_neg eb, if_neg e]
        exact hpq
  · refine (?_ : ∀ {kvs ws}, RepT K mg ι H kvs ws → RepT K mg ι H (kvs ++ [(d, x)]) (ws ++ [(k, v)])) r
    intro kvs ws r
    induction r with
    | nil => exact .cons ⟨h, rx⟩ .nil
    | cons hpq t ih => exact .cons hpq ih
end
/-! an empty dict is of either kind -/
section
variable {X : Cx} {pins : List (Addr × Obj)} {σ : L2.St} {H : Hp} {s : Shared} {a : Addr}
theorem retype {o o' : HO} (I : Inv X pins σ H s) (h : H a = some o) (mu : Mut (H a)) (hx : ∃ u, s.heap.get? a = some u) (new : ∀ H', ObjOk X.prog X.w H' s.heap a o') : Inv X pins σ (upd H a o') s :=
  I.write (t' := s.toks) (h' := s.heap) mu (.inl rfl) (fun b u _ q => q) hx (new _)
theorem toT (I : Inv X pins σ H s) (h : H a = some (.dK [])) : Inv X pins σ (upd H a (.dT [])) s := by
  obtain ⟨z, y, vs, r, o, es, ep, e1, e2, e3, e4, e5, e6⟩ := I.hok a _ h
  cases r
  refine retype I h (by rw [h]; trivial) ⟨o, e1⟩ fun H' => ?_
  refine ⟨Nat.zero_le _, y, [], .nil, o, es, ep, e1, e2, e3, ?_, List.nodup_nil⟩
  cases e5' : es.toList with
  | nil => rfl
  | cons x l => rw [e5'] at e5; cases e5
theorem toK (I : Inv X pins σ H s) (h : H a = some (.dT [])) : Inv X pins σ (upd H a (.dK [])) s := by
  obtain ⟨z, y, vs, r, o, es, ep, e1, e2, e3, e4, e5⟩ := I.hok a _ h
  cases r
  refine retype I h (by rw [h]; trivial) ⟨o, e1⟩ fun H' => ?_
  have e0 : es.toList = [] := e4
  refine ⟨Nat.zero_le _, y, [], .nil, o, es, ep, e1, e2, e3, ?_, by rw [e0]; exact .nil, List.nodup_nil⟩
  intro e he
  rw [← Array.mem_toList_iff, e0] at he
  cases he
end
end Z

namespace Z
open PySem PySem.Spec PyProof.Rows L2

/-! ### dicts -/
def DAt (H : Hp) (a : Addr) (y : V) (o : Option V) (H' : Hp) : Prop := (DGet H a y o ∧ H' = H) ∨ (H a = some (.dK []) ∧ H' = upd H a (.dT []) ∧ DGet H' a y o) ∨ (H a = some (.dT []) ∧ H' = upd H a (.dK []) ∧ DGet H' a y o)
theorem DAt.inv {X : Cx} {pins : List (Addr × Obj)} {σ : L2.St} {H H' : Hp} {s : Shared} {a : Addr} {y : V} {o : Option V} (d : DAt H a y o H') (I : Inv X pins σ H s) : Inv X pins σ H' s ∧ DGet H' a y o := by
  rcases d with ⟨g, rfl⟩ | ⟨e, rfl, g⟩ | ⟨e, rfl, g⟩
  · exact ⟨I, g⟩
  · exact ⟨toT I e, g⟩
  · exact ⟨toK I e, g⟩
section
variable {K : PySem.W.Frag} {mg : G} {ι : List Addr} {H : Hp} {m : M}
theorem set_self {m : M} {n : Nat} {c : Cell} (h : m[n]? = some c) : m.set n c = m := by
  obtain ⟨h1, h2⟩ := List.getElem?_eq_some_iff.mp h
  rw [← h2]
  exact List.set_getElem_self h1
theorem dic_at (hm : HR K mg ι H m) {n : Nat} {a : Addr} {kvs : List (D × D)} (e : ι[n]? = some a) (h : m[n]? = some (.dic kvs)) : (∃ ws, H a = some (.dK ws) ∧ RepK K mg ι H kvs ws) ∨ ∃ ws, H a = some (.dT ws) ∧ RepT K mg ι H kvs ws := by
  obtain ⟨c, hc, cr⟩ := hm.lt e
  rw [h] at hc
  cases hc
  cases cr with
  | dK h1 h2 => exact .inl ⟨_, h1, h2⟩
  | dT h1 h2 => exact .inr ⟨_, h1, h2⟩
/-- the cell's dict, its kind turned -/
theorem turnE (hm : HR K mg ι H m) {n : Nat} {a : Addr} {o : HO} (e : ι[n]? = some a) (hc : m[n]? = some (.dic [])) (h2 : CellRep K mg ι (upd H a o) a (.dic [])) (ho : NT o := by intro _ h; cases h) : Ext ι H ι (upd H a o) ∧ HR K mg ι (upd H a o) m := by
  obtain ⟨c, hc', cr⟩ := hm.lt e
  have ex : Ext ι H ι (upd H a o) := Ext.write hm e cr.notup.1 cr.notup.2 ho
  refine ⟨ex, ?_⟩
  have := hm.write e ex h2
  rw [set_self hc] at this
  exact this
theorem dAt_of (hm : HR K mg ι H m) {n : Nat} {a : Addr} {kvs : List (D × D)} {k : D} {y : V} (e : ι[n]? = some a) (hc : m[n]? = some (.dic kvs)) (r : Rep K mg ι H k y) (hf : keyFits kvs k = true) :
    ∃ o H', DAt H a y o H' ∧ Ext ι H ι H' ∧ HR K mg ι H' m ∧ match valD kvs k with
      | some d => ∃ v, o = some v ∧ Rep K mg ι H' d v
      | none => o = none := by
  unfold keyFits at hf
  rw [Bool.and_eq_true] at hf
  obtain ⟨hk, hf⟩ := hf
  have two : (∃ q, keyOf k = some q) ∨ ∃ qs, keyT k = some qs := by
    unfold keyU at hk
    cases e1 : keyOf k with
    | some q => exact .inl ⟨q, rfl⟩
    | none =>
      rw [e1] at hk
      cases e2 : keyT k with
      | some qs => exact .inr ⟨qs, rfl⟩
      | none => rw [e2] at hk; cases hk
  rcases dic_at hm e hc with ⟨ws, h1, r1⟩ | ⟨ws, h1, r1⟩
  · rcases two with ⟨q, hq⟩ | ⟨qs, hq⟩
    · have ey := kV_of r hq
      subst ey
      refine ⟨valV ws q, H, .inl ⟨DGet.k h1, rfl⟩, .refl, hm, ?_⟩
      have := valD_K r1 hq
      split
      · rename_i d hd
        rw [hd] at this
        exact this
      · rename_i hd
        rw [hd] at this
        exact this
    · cases r1 with
      | nil =>
        obtain ⟨b, rfl, hb⟩ := keyT_at r hq
        have hab : b ≠ a := fun z => by subst z; rw [h1] at hb; cases hb
        obtain ⟨x1, x2⟩ := turnE hm e hc (o := .dT []) (.dT upd_same .nil)
        exact ⟨none, _, .inr (.inl ⟨h1, rfl, .inr ⟨[], qs, b, .inl upd_same, rfl, by rw [upd_ne hab]; exact hb, rfl⟩⟩), x1, x2, rfl⟩
      | cons hpq t =>
        exfalso
        simp only [isT, keyOf_T hpq.1, hq] at hf
        cases hf
  · rcases two with ⟨q, hq⟩ | ⟨qs, hq⟩
    · cases r1 with
      | nil =>
        have ey := kV_of r hq
        subst ey
        obtain ⟨x1, x2⟩ := turnE hm e hc (o := .dK []) (.dK upd_same .nil)
        exact ⟨none, _, .inr (.inr ⟨h1, rfl, .inl ⟨[], q, .inl upd_same, rfl, rfl⟩⟩), x1, x2, rfl⟩
      | cons hpq t =>
        exfalso
        simp only [isT, hpq.1, keyOf_T hq] at hf
        cases hf
    · obtain ⟨b, rfl, hb⟩ := keyT_at r hq
      refine ⟨valV ws qs, H, .inl ⟨DGet.t h1 hb, rfl⟩, .refl, hm, ?_⟩
      have := valD_T r1 hq
      split
      · rename_i d hd
        rw [hd] at this
        exact this
      · rename_i hd
        rw [hd] at this
        exact this
end
/-! ### in -/
def flatD : D → Bool
  | .non => true
  | .bl _ => true
  | .int _ => true
  | .str _ => true
  | _ => false
def eqF : D → D → Bool
  | .non, .non => true
  | .bl a, .bl b => a == b
  | .bl a, .int b => (if a then 1 else 0) == b
  | .int a, .bl b => a == (if b then 1 else 0)
  | .int a, .int b => a == b
  | .str a, .str b => a == b
  | _, _ => false
def inB (x y : D) (m : M) : Option Bool := match y with
  | .str z => match x with
    | .str w => if w.length = 1 then some (decide (w.cps.getD 0 0 ∈ z.cps.toList)) else none
    | _ => none
  | .tup ys => if (flatD x && ys.all flatD) = true then some (ys.any fun y => eqF y x) else none
  | .kt ys => if (flatD x && ys.all flatD) = true then some (ys.any fun y => eqF y x) else none
  | .fl ys => if (flatD x && ys.all flatD) = true then some (ys.any fun y => eqF y x) else none
  | .sl ys => if (flatD x && ys.all flatD) = true then some (ys.any fun y => eqF y x) else match toP deepest m x, toPs (toP deepest m) ys with
    | some p, some ps => if (SeqAt.shaped p && SeqAt.shaped (.list ps)) = true then some (ps.any fun z => PyData.eqv z p) else none
    | _, _ => none
  | .ref n => match m[n]? with
    | some (.lst ys) => if (flatD x && ys.all flatD) = true then some (ys.any fun y => eqF y x) else match toP deepest m x, toPs (toP deepest m) ys with
      | some p, some ps => if (SeqAt.shaped p && SeqAt.shaped (.list ps)) = true then some (ps.any fun z => PyData.eqv z p) else none
      | _, _ => none
    | some (.dic kvs) => if keyFits kvs x = true then some (valD kvs x).isSome else none
    | _ => none
  | _ => none
def oIn (x y : D) (m : M) : R D := match inB x y m with
  | some b => .ok (.bl b) m
  | none => .bad
def oNotIn (x y : D) (m : M) : R D := match inB x y m with
  | some b => .ok (.bl (!b)) m
  | none => .bad
section
variable {X : Cx} {ι : List Addr} {H : Hp}
theorem flat_rep {K : PySem.W.Frag} {mg : G} {x : D} {v : V} (r : Rep K mg ι H x v) (h : flatD x = true) : flatV v = true := by
  cases r <;> first | rfl | cases h
theorem eqF_rep {K : PySem.W.Frag} {mg : G} {x y : D} {v u : V} (r : Rep K mg ι H x v) (r2 : Rep K mg ι H y u) (h : flatD x = true) (h2 : flatD y = true) : eqV v u = eqF x y := by
  cases r <;> first | (cases h; done) | (cases r2 <;> first | (cases h2; done) | rfl)
theorem flats_rep {K : PySem.W.Frag} {mg : G} : ∀ {xs : List D} {vs : List V}, RepL K mg ι H xs vs → xs.all flatD = true → vs.all flatV = true
  | _, _, .nil, _ => rfl
  | _, _, .cons r t, h => by
    rw [List.all_cons, Bool.and_eq_true] at h ⊢
    exact ⟨flat_rep r h.1, flats_rep t h.2⟩
theorem inV_rep {K : PySem.W.Frag} {mg : G} {x : D} {v : V} (r : Rep K mg ι H x v) (hx : flatD x = true) : ∀ {xs : List D} {vs : List V}, RepL K mg ι H xs vs → xs.all flatD = true → inV v vs = xs.any fun y => eqF y x
  | _, _, .nil, _ => rfl
  | _, _, .cons r1 t, h => by
    rw [List.all_cons, Bool.and_eq_true] at h
    have ih := inV_rep r hx t h.2
    unfold inV at ih ⊢
    rw [List.any_cons, List.any_cons, ih, eqF_rep r1 r h.1 hx]
/-- the readings of in (neg: not in) -/
def rInZ (K : PySem.W.Frag) (neg : Bool) : R2 := fun x y H Q => ∃ b, Q (.bl (if neg then !b else b)) H ∧ ((∃ (c : Nat) (z : Str), x = .str ⟨#[c]⟩ ∧ y = .str z ∧ b = decide (c ∈ z.cps.toList)) ∨
  (∃ p xs, y = .ref p ∧ (SqL K H p xs ∨ SqT K H p xs) ∧ flatV x = true ∧ xs.all flatV = true ∧ b = inV x xs) ∨
  (∃ d ds, Dp K H x d ∧ Dp K H y (.list ds) ∧ SeqAt.shaped d = true ∧ SeqAt.shaped (.list ds) = true ∧ b = ds.any fun z => PyData.eqv z d))
def rInZD (neg : Bool) : R2 := fun x y H Q => ∃ a o H', y = .ref a ∧ DAt H a x o H' ∧ Q (.bl (if neg then !o.isSome else o.isSome)) H'
theorem opr_in (hu : X.A.units + 65 < cLine) : OpR X (compareOp .In) (fun x y H Q => rInZ X.K false x y H Q ∨ rInZD false x y H Q) := by
  intro pins s σ H x y v u Q I rx ry h
  rcases h with ⟨b, q, h⟩ | ⟨a, o, H', rfl, d, q⟩
  · rcases h with ⟨c, z, e1, e2, e3⟩ | ⟨p, xs, e1, h1, h2, h3, e3⟩ | ⟨d, ds, h1, h2, h3, h4, e3⟩
    · exact op_in_sign pins s σ H x y v u Q I rx ry ⟨c, z, e1, e2, by rw [← e3]; exact q⟩
    · exact op_in_seq pins s σ H x y v u Q I rx ry ⟨p, xs, e1, h1, h2, h3, by rw [← e3]; exact q⟩
    · exact op_inD hu pins s σ H x y v u Q I rx ry ⟨d, ds, h1, h2, h3, h4, by rw [← e3]; exact q⟩
  · cases ry
    obtain ⟨I', g⟩ := d.inv I
    exact d_in (by omega) I' g rx fun s' I2 => ⟨.bl _, H', I2, rfl, q⟩
theorem opr_notin (hu : X.A.units + 65 < cLine) : OpR X (compareOp .NotIn) (fun x y H Q => rInZ X.K true x y H Q ∨ rInZD true x y H Q) := by
  intro pins s σ H x y v u Q I rx ry h
  rcases h with ⟨b, q, h⟩ | ⟨a, o, H', rfl, d, q⟩
  · rcases h with ⟨c, z, e1, e2, e3⟩ | ⟨p, xs, e1, h1, h2, h3, e3⟩ | ⟨d, ds, h1, h2, h3, h4, e3⟩
    · exact op_notIn_sign pins s σ H x y v u Q I rx ry ⟨c, z, e1, e2, by rw [← e3]; exact q⟩
    · exact op_notIn_seq pins s σ H x y v u Q I rx ry ⟨p, xs, e1, h1, h2, h3, by rw [← e3]; exact q⟩
    · exact op_notInD hu pins s σ H x y v u Q I rx ry ⟨d, ds, h1, h2, h3, h4, by rw [← e3]; exact q⟩
  · cases ry
    obtain ⟨I', g⟩ := d.inv I
    exact d_notIn (by omega) I' g rx fun s' I2 => ⟨.bl _, H', I2, rfl, q⟩
theorem inB_ok {E : XK} {m : M} {neg : Bool} {x y : D} {v u : V} {Q : VK} {b : Bool} (hm : HR X.K (X.mg, F) ι H m) (rx : Rep X.K (X.mg, F) ι H x v) (ry : Rep X.K (X.mg, F) ι H y u) (hb : inB x y m = some b)
    (hp : Post X.K (X.mg, F) (relE X.K (X.mg, F)) E ι H Q (.ok (.bl (if neg then !b else b)) m)) : rInZ X.K neg v u H Q ∨ rInZD neg v u H Q := by
  have seq : ∀ {ys : List D} {p : Addr} {us : List V}, (SqL X.K H p us ∨ SqT X.K H p us) → RepL X.K (X.mg, F) ι H ys us → u = .ref p → (flatD x && ys.all flatD) = true → b = ys.any (fun y => eqF y x) → rInZ X.K neg v u H Q := fun {ys p us} hs hr eu hf eb => by
    rw [Bool.and_eq_true] at hf
    refine ⟨b, hp.okI hm (.bl _), .inr (.inl ⟨p, us, eu, hs, flat_rep rx hf.1, flats_rep hr hf.2, ?_⟩)⟩
    rw [eb, inV_rep rx hf.1 hr hf.2]
  unfold inB at hb
  split at hb
  · split at hb
    · split at hb
      · rename_i w hw
        cases hb
        cases rx; cases ry
        refine .inl ⟨_, hp.okI hm (.bl _), .inl ⟨w.cps.getD 0 0, _, ?_, rfl, rfl⟩⟩
        congr 1
        obtain ⟨cs⟩ := w
        obtain ⟨l⟩ := cs
        have hw : l.length = 1 := hw
        match l, hw with
        | [c], _ => rfl
      · cases hb
    · cases hb
  · split at hb
    · rename_i hf
      cases hb
      cases ry with
      | tup h1 r1 => exact .inl (seq (.inr (.of h1)) r1 rfl hf rfl)
    · cases hb
  · split at hb
    · rename_i hf
      cases hb
      cases ry with
      | kt h1 r1 => exact .inl (seq (.inr h1.sq) r1 rfl hf rfl)
    · cases hb
  · split at hb
    · rename_i hf
      cases hb
      cases ry with
      | fl h1 r1 => exact .inl (seq (.inl h1.sq) r1 rfl hf rfl)
    · cases hb
  · cases ry with
    | sl _ h1 r1 =>
      split at hb
      · rename_i hf
        cases hb
        exact .inl (seq (.inl (.of h1)) r1 rfl hf rfl)
      · split at hb
        · rename_i p ps e1 e2
          split at hb
          · rename_i hs
            cases hb
            rw [Bool.and_eq_true] at hs
            exact .inl ⟨_, hp.okI hm (.bl _), .inr (.inr ⟨p, ps, dp_of hm _ _ _ _ e1 rx, .lst (.of h1) (dpAll (dp_of hm _) e2 r1), hs.1, hs.2, rfl⟩)⟩
          · cases hb
        · cases hb
  · cases ry with
    | ref e =>
      split at hb
      · rename_i ys hc
        obtain ⟨us, h1, r1⟩ := lst_at hm e hc
        split at hb
        · rename_i hf
          cases hb
          exact .inl (seq (.inl (.of h1)) r1 rfl hf rfl)
        · split at hb
          · rename_i p ps e1 e2
            split at hb
            · rename_i hs
              cases hb
              rw [Bool.and_eq_true] at hs
              exact .inl ⟨_, hp.okI hm (.bl _), .inr (.inr ⟨p, ps, dp_of hm _ _ _ _ e1 rx, .lst (.of h1) (dpAll (dp_of hm _) e2 r1), hs.1, hs.2, rfl⟩)⟩
            · cases hb
          · cases hb
      · rename_i kvs hc
        split at hb
        · rename_i hf
          cases hb
          obtain ⟨o, H', hd, ex, hm', ho⟩ := dAt_of hm e hc rx hf
          refine .inr ⟨_, o, H', rfl, hd, ?_⟩
          have eo : o.isSome = (valD kvs x).isSome := by
            split at ho
            · rename_i d hv
              obtain ⟨w, rfl, _⟩ := ho
              rw [hv] <;> rfl
            · rename_i hv
              rw [ho, hv] <;> rfl
          rw [eo]
          exact hp ι H' _ ex hm' (.bl _)
        · cases hb
      · cases hb
  · cases hb
theorem op2_in : Op2 X (fun x y H Q => rInZ X.K false x y H Q ∨ rInZD false x y H Q) oIn := fun F E ι H m x y v u Q hm rx ry hp => by
  unfold oIn at hp
  split at hp
  · rename_i b hb
    exact inB_ok (neg := false) hm rx ry hb hp
  · exact hp.elim
theorem op2_notin : Op2 X (fun x y H Q => rInZ X.K true x y H Q ∨ rInZD true x y H Q) oNotIn := fun F E ι H m x y v u Q hm rx ry hp => by
  unfold oNotIn at hp
  split at hp
  · rename_i b hb
    exact inB_ok (neg := true) hm rx ry hb hp
  · exact hp.elim
end
end Z

namespace Z
open PySem PySem.Spec PyProof.Rows L2

/-! ### reading by subscript -/
def oIx (x y : D) (m : M) : R D := match x with
  | .tup xs => match y with
    | .int i => match atD xs i with
      | some d => .ok d m
      | none => .bad
    | _ => .bad
  | .kt xs => match y with
    | .int i => match atD xs i with
      | some d => .ok d m
      | none => .bad
    | _ => .bad
  | .fl xs => match y with
    | .int i => match atD xs i with
      | some d => .ok d m
      | none => .bad
    | _ => .bad
  | .sl xs => match y with
    | .int i => match atD xs i with
      | some d => .ok d m
      | none => .bad
    | _ => .bad
  | .str z => match y with
    | .int i => if z.length ≤ line then (match (ixD z.length i).bind fun j => z.cps.toList[j]? with
      | some c => .ok (.str ⟨#[c]⟩) m
      | none => .bad) else .bad
    | _ => .bad
  | .ref n => match m[n]? with
    | some (.lst xs) => match y with
      | .int i => match atD xs i with
        | some d => .ok d m
        | none => .bad
      | _ => .bad
    | some (.dic kvs) => if keyFits kvs y = true then (match valD kvs y with
      | some d => .ok d m
      | none => .bad) else .bad
    | _ => .bad
  | _ => .bad
def rIxD : R2 := fun x y H Q => ∃ a v H', x = .ref a ∧ DAt H a y (some v) H' ∧ Q v H'
section
variable {X : Cx}
theorem ix_dict (hu : X.A.units + 65 < cLine) : IxR X rIxD := by
  intro value slice pins s σ H x y v u Q I rx ry ⟨a, w, H', e, d, q⟩ hs
  subst e
  cases rx
  obtain ⟨I', g⟩ := d.inv I
  exact tail_any (dict_typeIs I' g) PySem.F.slot_dict_getitem.lookup (d_getItem (by omega) I' g ry fun w' s3 I3 rw' => ⟨w, H', I3, rw', q⟩) hs
abbrev rIxA (K : PySem.W.Frag) : R2 := fun x y H Q => rIx K x y H Q ∨ rIxD x y H Q
theorem op2_ix : Op2 X (rIxA X.K) oIx := fun F E ι H m x y v u Q hm rx ry hp => by
  have seq : ∀ {ys : List D} {p : Addr} {us : List V} {i : Int}, (SqL X.K H p us ∨ SqT X.K H p us) → RepL X.K (X.mg, F) ι H ys us → v = .ref p → u = .int i → Post X.K (X.mg, F) (relE X.K (X.mg, F)) E ι H Q (match atD ys i with
      | some d => .ok d m
      | none => .bad) → rIx X.K v u H Q := fun {ys p us i} hs hr ev eu hp => by
    split at hp
    · rename_i d hd
      obtain ⟨w, h1, h2⟩ := atI_rep hr hd
      rcases hs with hs | hs
      · exact .inl ⟨p, us, i, w, ev, eu, hs, h1, hp.okI hm h2⟩
      · exact .inr (.inl ⟨p, us, i, w, ev, eu, hs, h1, hp.okI hm h2⟩)
    · exact hp.elim
  unfold oIx at hp
  split at hp
  · split at hp
    · cases ry
      cases rx with
      | tup h1 r1 => exact .inl (seq (.inr (.of h1)) r1 rfl rfl hp)
    · exact hp.elim
  · split at hp
    · cases ry
      cases rx with
      | kt h1 r1 => exact .inl (seq (.inr h1.sq) r1 rfl rfl hp)
    · exact hp.elim
  · split at hp
    · cases ry
      cases rx with
      | fl h1 r1 => exact .inl (seq (.inl h1.sq) r1 rfl rfl hp)
    · exact hp.elim
  · split at hp
    · cases ry
      cases rx with
      | sl _ h1 r1 => exact .inl (seq (.inl (.of h1)) r1 rfl rfl hp)
    · exact hp.elim
  · split at hp
    · split at hp
      · rename_i hl
        split at hp
        · rename_i c hc
          cases ry; cases rx
          refine .inl (.inr (.inr ⟨_, _, c, rfl, rfl, by rw [line_eq]; exact hl, ?_, hp.okI hm (.str _)⟩))
          unfold atI
          rw [Array.length_toList]
          exact hc
        · exact hp.elim
      · exact hp.elim
    · exact hp.elim
  · cases rx with
    | ref e =>
      split at hp
      · rename_i xs hc
        split at hp
        · cases ry
          obtain ⟨us, h1, r1⟩ := lst_at hm e hc
          exact .inl (seq (.inl (.of h1)) r1 rfl rfl hp)
        · exact hp.elim
      · rename_i kvs hc
        split at hp
        · rename_i hf
          split at hp
          · rename_i d hd
            obtain ⟨o, H', hda, ex, hm', ho⟩ := dAt_of hm e hc ry hf
            rw [hd] at ho
            obtain ⟨w, rfl, hw⟩ := ho
            exact .inr ⟨_, w, H', rfl, hda, hp ι H' _ ex hm' hw⟩
          · exact hp.elim
        · exact hp.elim
      · exact hp.elim
  · exact hp.elim
theorem z_ix {W : WX} {a b : Expr} {f h : EF} {pos : Pos} (hu : X.A.units + 65 < cLine) (ha : ZE X W a f) (hb : ZE X W b h) (hs : PlainIx b := by intro _ _; rfl) : ZE X W (.Subscript a b pos) (eBin oIx f h) :=
  PE.imp (pe_ix (ix_seq.or (ix_dict hu)) ha hb hs) fun σ H Q q => two op2_ix q
end
/-! ### slices -/
def cutD (xs : List D) (lo hi : Option Int) : List D := (xs.drop (HT.sIx xs.length 0 lo)).take (HT.sIx xs.length xs.length hi - HT.sIx xs.length 0 lo)
def oSl (x : D) (lo hi : Option Int) (m : M) : R D := match x with
  | .tup xs => .ok (.tup (cutD xs lo hi)) m
  | .str z => if z.length ≤ line then .ok (.str (cutS z lo hi)) m else .bad
  | .fl xs => .ok (.sl (cutD xs lo hi)) m
  | .sl xs => .ok (.sl (cutD xs lo hi)) m
  | .ref n => match m[n]? with
    | some (.lst xs) => .ok (.sl (cutD xs lo hi)) m
    | _ => .bad
  | _ => .bad
abbrev OF := Rho → M → R (Option Int)
def oNo : OF := fun _ m => .ok none m
def oSome (f : EF) : OF := fun ρ m => (f ρ m).bind fun d m1 => match d with
  | .int i => .ok (some i) m1
  | _ => .bad
def eSl (f : EF) (lo hi : OF) : EF := fun ρ m => (f ρ m).bind fun x m1 => (lo ρ m1).bind fun l m2 => (hi ρ m2).bind fun u m3 => oSl x l u m3
abbrev relO : Relt (Option Int) (Option Int) := fun _ _ a b => a = b
def tO (K : PySem.W.Frag) (mg : Str → Option Value) (W : WX) (f : OF) : TO := fun σ H Q => ∃ F ι ρ m, EnvR K (mg, F) ι H ρ σ ∧ HR K (mg, F) ι H m ∧ Post K (mg, F) relO (fun c d H' => W c d σ H') ι H Q (f ρ m)
abbrev ZO (X : Cx) (W : WX) (e : Option Expr) (f : OF) : Prop := PO X e (tO X.K X.mg W f)
def PO.imp {X : Cx} {e : Option Expr} {t t' : TO} (h : PO X e t) (i : ∀ σ H Q, t' σ H Q → t σ H Q) : PO X e t' := ⟨fun pins s σ H Q I q => h.run pins s σ H Q I (i _ _ _ q)⟩
section
variable {X : Cx} {W : WX}
theorem zo_none : ZO X W none oNo := PO.imp po_none fun σ H Q ⟨F, ι, ρ, m, hρ, hm, hp⟩ => hp.okI hm rfl
theorem zo_some {e : Expr} {f : EF} (he : ZE X W e f) : ZO X W (some e) (oSome f) := PO.imp (po_some he) fun σ H Q ⟨F, ι, ρ, m, hρ, hm, hp⟩ => ⟨F, ι, ρ, m, hρ, hm, by
  refine Post.seq hp fun d m1 ι1 H1 v _ e1 h1 r1 hp1 => ?_
  cases r1 with
  | int i => exact ⟨i, rfl, hp1.okI h1 rfl⟩
  | _ => exact hp1.elim⟩
theorem RepL.cut {K : PySem.W.Frag} {mg : G} {ι : List Addr} {H : Hp} {xs : List D} {vs : List V} (r : RepL K mg ι H xs vs) (lo hi : Option Int) : RepL K mg ι H (cutD xs lo hi) (cutV vs lo hi) := by
  unfold cutD cutV
  rw [r.length]
  exact (r.drop _).take _
theorem z_slice {a : Expr} {lo hi : Option Expr} {f : EF} {l u : OF} {p2 pos : Pos} (ha : ZE X W a f) (hl : ZO X W lo l) (hh : ZO X W hi u) : ZE X W (.Subscript a (.Slice lo hi none p2) pos) (eSl f l u) := by
  refine PE.imp (pe_slice (sl_tupA.or (sl_list.or sl_str)) ha hl hh) fun σ H Q ⟨F, ι, ρ, m, hρ, hm, hp⟩ => ⟨F, ι, ρ, m, hρ, hm, ?_⟩
  refine Post.seq hp fun x m1 ι1 H1 v _ e1 h1 r1 hp1 => ⟨F, ι1, ρ, m1, hρ.mono e1, h1, ?_⟩
  refine Post.seq hp1 fun li m2 ι2 H2 lv _ e2 h2 r2 hp2 => ⟨F, ι2, ρ, m2, (hρ.mono e1).mono e2, h2, ?_⟩
  refine Post.seq hp2 fun ui m3 ι3 H3 uv _ e3 h3 r3 hp3 => ?_
  cases r2
  cases r3
  have rx := (r1.mono e2).mono e3
  unfold oSl at hp3
  split at hp3
  · cases rx with
    | @tup xs a vs hs hr =>
      have hc := hr.cut li ui
      refine .inl ⟨_, _, rfl, .of hs, fun hw => ?_, fun _ p hn => hp3.newT h3 hc hn⟩
      have e : cutV vs li ui = vs := by
        unfold cutV
        rw [hw.1, hw.2, List.drop_zero, Nat.sub_zero]
        exact List.take_length
      rw [e] at hc
      exact hp3.okI h3 (.tup hs hc)
  · split at hp3
    · rename_i hl
      cases rx
      exact .inr (.inr ⟨_, rfl, by rw [line_eq]; exact hl, hp3.okI h3 (.str _)⟩)
    · exact hp3.elim
  · cases rx with
    | fl hs hr => exact .inr (.inl ⟨_, _, rfl, hs.sq, fun p hn => hp3.newS h3 (hr.cut li ui) hn⟩)
  · cases rx with
    | sl _ hs hr => exact .inr (.inl ⟨_, _, rfl, .of hs, fun p hn => hp3.newS h3 (hr.cut li ui) hn⟩)
  · split at hp3
    · rename_i xs hc
      cases rx with
      | ref e =>
        obtain ⟨vs, hs, hr⟩ := lst_at h3 e hc
        exact .inr (.inl ⟨_, _, rfl, .of hs, fun p hn => hp3.newS h3 (hr.cut li ui) hn⟩)
    · exact hp3.elim
  · exact hp3.elim
end
/-! ### len, isinstance, conversions -/
def lenD (m : M) : D → Option Nat
  | .str z => if z.length ≤ line then some z.length else none
  | .tup xs => some xs.length
  | .kt xs => some xs.length
  | .fl xs => some xs.length
  | .sl xs => some xs.length
  | .ref n => match m[n]? with
    | some (.lst xs) => some xs.length
    | some (.dic kvs) => some kvs.length
    | _ => none
  | _ => none
def bLen (ds : List D) (m : M) : R D := match ds with
  | [d] => match lenD m d with
    | some n => .ok (.int n) m
    | none => .bad
  | _ => .bad
theorem paired_len {α β : Type} {F : α → β → Prop} : ∀ {l₁ : List α} {l₂ : List β}, Paired F l₁ l₂ → l₁.length = l₂.length
  | _, _, .nil => rfl
  | _, _, .cons _ t => by rw [List.length_cons, List.length_cons, paired_len t]
section
variable {X : Cx}
abbrev rLenA (K : PySem.W.Frag) : List V → Hp → VK → Prop := fun xs H Q => (∃ p ys, xs = [.ref p] ∧ (SqL K H p ys ∨ SqT K H p ys) ∧ Q (.int ys.length) H) ∨ (∃ z, xs = [.str z] ∧ z.length ≤ sizeLine ∧ Q (.int z.length) H) ∨
  (∃ (d : Addr) (kvs : List (Key × V)), xs = [V.ref d] ∧ H d = some (.dK kvs) ∧ Q (.int kvs.length) H) ∨ rLenT xs H Q
theorem cr_len : CallR X (.builtin "len") (rLenA X.K) := call_len_seq.or (call_len_str.or (call_lenD.or call_len_dT))
theorem opl_len : OpL X (rLenA X.K) bLen := fun F E ι H m xs vs Q hm r hp => by
  unfold bLen at hp
  split at hp
  · split at hp
    · rename_i d n hn
      cases r with
      | cons r1 r2 =>
        cases r2
        unfold lenD at hn
        split at hn
        · split at hn
          · rename_i hl
            cases hn
            cases r1
            exact .inr (.inl ⟨_, rfl, by rw [line_eq]; exact hl, hp.okI hm (.int _)⟩)
          · cases hn
        · cases hn
          cases r1 with
          | tup h1 h2 =>
            refine .inl ⟨_, _, rfl, .inr (.of h1), ?_⟩
            rw [← h2.length]
            exact hp.okI hm (.int _)
        · cases hn
          cases r1 with
          | kt h1 h2 =>
            refine .inl ⟨_, _, rfl, .inr h1.sq, ?_⟩
            rw [← h2.length]
            exact hp.okI hm (.int _)
        · cases hn
          cases r1 with
          | fl h1 h2 =>
            refine .inl ⟨_, _, rfl, .inl h1.sq, ?_⟩
            rw [← h2.length]
            exact hp.okI hm (.int _)
        · cases hn
          cases r1 with
          | sl _ h1 h2 =>
            refine .inl ⟨_, _, rfl, .inl (.of h1), ?_⟩
            rw [← h2.length]
            exact hp.okI hm (.int _)
        · cases r1 with
          | ref e =>
            split at hn
            · rename_i ys hc
              cases hn
              obtain ⟨us, h1, h2⟩ := lst_at hm e hc
              refine .inl ⟨_, _, rfl, .inl (.of h1), ?_⟩
              rw [← h2.length]
              exact hp.okI hm (.int _)
            · rename_i kvs hc
              cases hn
              rcases dic_at hm e hc with ⟨ws, h1, h2⟩ | ⟨ws, h1, h2⟩
              · refine .inr (.inr (.inl ⟨_, _, rfl, h1, ?_⟩))
                rw [← paired_len h2]
                exact hp.okI hm (.int _)
              · refine .inr (.inr (.inr ⟨_, _, rfl, h1, ?_⟩))
                rw [← paired_len h2]
                exact hp.okI hm (.int _)
            · cases hn
        · cases hn
    · exact hp.elim
  · exact hp.elim
end
/-! isinstance -/
def tyName (m : M) : D → Option String
  | .non => some "NoneType"
  | .bl _ => some "bool"
  | .int _ => some "int"
  | .str _ => some "str"
  | .tup _ => some "tuple"
  | .kt _ => some "tuple"
  | .fl _ => some "list"
  | .sl _ => some "list"
  | .ref n => match m[n]? with
    | some (.lst _) => some "list"
    | some (.dic _) => some "dict"
    | _ => none
  | _ => none
/-- is a a subtype of b, of the built-in ones that come here -/
def subTy (a b : String) : Option Bool := if (["NoneType", "bool", "int", "str", "tuple", "list", "dict"].contains a && ["bool", "int", "str", "tuple", "list", "dict"].contains b) = true then some (a == b || (a == "bool" && b == "int")) else none
theorem subTy_ok {a b : String} {r : Bool} (h : subTy a b = some r) : kitB a b = some r := by
  unfold subTy at h
  split at h
  · rename_i hc
    cases h
    rw [Bool.and_eq_true, List.contains_iff_mem, List.contains_iff_mem] at hc
    obtain ⟨h1, h2⟩ := hc
    have all : ∀ a ∈ ["NoneType", "bool", "int", "str", "tuple", "list", "dict"], ∀ b ∈ ["bool", "int", "str", "tuple", "list", "dict"], kitB a b = some (a == b || (a == "bool" && b == "int")) := by decide +kernel
    exact all a h1 b h2
  · cases h
theorem ty_rep {K : PySem.W.Frag} {mg : G} {ι : List Addr} {H : Hp} {m : M} (hm : HR K mg ι H m) {d : D} {v : V} {n : String} (r : Rep K mg ι H d v) (h : tyName m d = some n) : TyX K H v (.type n) := by
  cases r with
  | non => cases h; exact .base .non
  | bl b => cases h; exact .base (.bl b)
  | int i => cases h; exact .base (.int i)
  | str x => cases h; exact .base (.str x)
  | tup h1 _ => cases h; exact .base (.tup h1)
  | kt h1 _ =>
    cases h
    obtain ⟨o, its, k, h1, h2, _⟩ := h1
    exact .kTuple h1 h2
  | fl h1 _ =>
    cases h
    rcases h1 with ⟨o, h1⟩ | ⟨o, its, k, h1, h2, _⟩
    · exact .base (.frz h1)
    · exact .kList h1 h2
  | sl _ h1 _ => cases h; exact .base (.lst h1)
  | exc _ _ _ _ _ _ => cases h
  | ex0 _ _ _ => cases h
  | cau _ _ _ => cases h
  | ref e =>
    obtain ⟨c, hc, cr⟩ := hm.lt e
    unfold tyName at h
    dsimp only at h
    rw [hc] at h
    cases cr with
    | lst h1 _ => cases h; exact .base (.lst h1)
    | dK h1 _ => cases h; exact .base (.dK h1)
    | dT h1 _ => cases h; exact .base (.dT h1)
    | ins _ _ _ => cases h
  | glo _ => cases h
  | ty _ => cases h
def bIsi (ds : List D) (m : M) : R D := match ds with
  | [d, .ty b] => match tyName m d with
    | some a => match subTy a b with
      | some r => .ok (.bl r) m
      | none => .bad
    | none => .bad
  | _ => .bad
section
variable {X : Cx}
theorem opl_isi : OpL X (rIsi X.K) bIsi := fun F E ι H m xs vs Q hm r hp => by
  unfold bIsi at hp
  split at hp
  · rename_i d b
    split at hp
    · rename_i a hn
      split at hp
      · rename_i res hs
        cases r with
        | cons r1 r2 =>
          cases r2 with
          | cons r2 r3 =>
            cases r3
            cases r2
            exact ⟨_, _, _, _, res, rfl, .ty b, ty_rep hm r1 hn, kit_ty (subTy_ok hs), hp.okI hm (.bl _)⟩
      · exact hp.elim
    · exact hp.elim
  · exact hp.elim
end
/-- isinstance(x, (T, U)) -/
def eIsi2 (f : EF) (b c : String) : EF := fun ρ m => (f ρ m).bind fun d m1 => match tyName m1 d with
  | some a => match subTy a b, subTy a c with
    | some r, some q => .ok (.bl (r || q)) m1
    | _, _ => .bad
  | none => .bad
section
variable {X : Cx} {W : WX}
theorem z_ty {x : Str} {n : String} {pos : Pos} (hg : Gl X x) (hm : X.mg x = none) (hv : bootBuiltins x = some (.type n)) (hn : x ≠ "__name__" := by decide) (hd : (x == ("__debug__" : Str)) = false := by decide) : ZE X W (.Name x pos) (eCon (.ty n)) :=
  z_con (v := .ty n) (pe_bltn hg hm hv rfl hn hd) fun _ _ _ => .ty n
theorem z_isi2 {e t1 t2 : Expr} {f : EF} {b c : String} {p pos tp : Pos} {k : Nat} (hg : Gl X "isinstance") (hm : X.mg "isinstance" = none) (hv : bootBuiltins "isinstance" = some (.builtin "isinstance")) (ha : ZE X W e f) (h1 : ZE X W t1 (eCon (.ty b))) (h2 : ZE X W t2 (eCon (.ty c)))
    (s1 : starEach [t1, t2] X.env = (false, eval t1 X.env) :: starEach [t2] X.env := by rfl) (s2 : starEach [t2] X.env = (false, eval t2 X.env) :: starEach [] X.env := by rfl)
    (he : starEach [e, .Tuple [t1, t2] k tp] X.env = (false, eval e X.env) :: starEach [.Tuple [t1, t2] k tp] X.env := by rfl) (hpl : (backTo pos (starEach [.Tuple [t1, t2] k tp] X.env)).any (·.1) = false := by rfl) :
    ZE X W (.Call (.Name "isinstance" p) [e, .Tuple [t1, t2] k tp] [] pos) (eIsi2 f b c) := by
  have hA : ZA X W [e, .Tuple [t1, t2] k tp] (aCons f (aCons (eTup (aCons (eCon (.ty b)) (aCons (eCon (.ty c)) aNil))) aNil)) := za_cons ha (za_cons (z_tup (za_cons h1 (za_cons h2 za_nil s2) s1)) za_nil (by rfl)) he
  refine PE.imp (pe_callB call_isiT hg hm hv hA (by decide) (by decide) he hpl) fun σ H Q ⟨F, ι, ρ, m, hρ, hm, hp⟩ => ⟨F, ι, ρ, m, hρ, hm, ?_⟩
  unfold eIsi2 at hp
  unfold aCons aNil eTup
  cases q : f ρ m with
  | bad => rw [q] at hp; exact hp
  | err x m1 => rw [q] at hp; exact hp
  | ok d m1 =>
    rw [q] at hp
    have hp : Post X.K (X.mg, F) (relE X.K (X.mg, F)) (fun c d H' => W c d σ H') ι H Q (match tyName m1 d with
      | some a => match subTy a b, subTy a c with
        | some r, some q => .ok (.bl (r || q)) m1
        | _, _ => .bad
      | none => .bad) := hp
    show Post X.K (X.mg, F) (relA X.K (X.mg, F)) _ ι H _ (.ok [d, .tup [.ty b, .ty c]] m1)
    intro ι' H' vs e1 hm1 rr
    split at hp
    · rename_i a hn
      split at hp
      · rename_i r1 r2 hs1 hs2
        cases rr with
        | cons ra rb =>
          cases rb with
          | cons rb rc =>
            cases rc
            cases rb with
            | tup ht hr =>
              cases hr with
              | cons x1 hr =>
                cases hr with
                | cons x2 hr =>
                  cases hr
                  cases x1; cases x2
                  refine ⟨_, _, _, _, [.type b, .type c], r1 || r2, rfl, ht, .cons (.ty b) (.cons (.ty c) .nil), ty_rep hm1 ra hn, ?_, hp ι' H' _ e1 hm1 (.bl _)⟩
                  refine kitAny_cons (kit_ty (subTy_ok hs1)) (fun e => ?_) (fun e => by rw [e]; rfl)
                  refine kitAny_cons (kit_ty (subTy_ok hs2)) (fun e2 => by rw [e, e2]; rfl) (fun e2 => by rw [e2]; exact Bool.or_true _)
      · exact hp.elim
    · exact hp.elim
end
/-! tuple(x), list(x), int(x), str(x), repr(x), max, min, any, all -/
def seqD (m : M) : D → Option (List D)
  | .tup xs => some xs
  | .kt xs => some xs
  | .fl xs => some xs
  | .sl xs => some xs
  | .ref n => match m[n]? with
    | some (.lst xs) => some xs
    | _ => none
  | _ => none
def bList (ds : List D) (m : M) : R D := match ds with
  | [d] => match seqD m d with
    | some xs => .ok (.ref m.length) (m ++ [.lst xs])
    | none => .bad
  | _ => .bad
def bListS (ds : List D) (m : M) : R D := match ds with
  | [d] => match seqD m d with
    | some xs => .ok (.sl xs) m
    | none => .bad
  | _ => .bad
def bTuple (ds : List D) (m : M) : R D := match ds with
  | [.ref n] => match m[n]? with
    | some (.lst xs) => .ok (.tup xs) m
    | _ => .bad
  | [.fl xs] => .ok (.tup xs) m
  | [.sl xs] => .ok (.tup xs) m
  | [.tup xs] => .ok (.tup xs) m
  | _ => .bad
def bInt (ds : List D) (m : M) : R D := match ds with
  | [.int i] => .ok (.int i) m
  | [.bl b] => .ok (.int (if b then 1 else 0)) m
  | _ => .bad
def bMax2 (ds : List D) (m : M) : R D := match ds with
  | [.int i, .int j] => .ok (.int (if j > i then j else i)) m
  | _ => .bad
def bMin2 (ds : List D) (m : M) : R D := match ds with
  | [.int i, .int j] => .ok (.int (if j < i then j else i)) m
  | _ => .bad
def blsD : List D → Option (List Bool)
  | [] => some []
  | .bl b :: r => (blsD r).map (b :: ·)
  | _ :: _ => none
def bAll (ds : List D) (m : M) : R D := match ds with
  | [d] => match (seqL m d).bind blsD with
    | some bs => .ok (.bl (bs.all id)) m
    | none => .bad
  | _ => .bad
where seqL (m : M) : D → Option (List D)
  | .fl xs => some xs
  | .sl xs => some xs
  | .ref n => match m[n]? with
    | some (.lst xs) => some xs
    | _ => none
  | _ => none
def bAny (ds : List D) (m : M) : R D := match ds with
  | [d] => match (bAll.seqL m d).bind blsD with
    | some bs => .ok (.bl (bs.any id)) m
    | none => .bad
  | _ => .bad
section
variable {X : Cx} {K : PySem.W.Frag} {mg : G} {ι : List Addr} {H : Hp} {m : M}
theorem seqD_rep (hm : HR K mg ι H m) {d : D} {v : V} {xs : List D} (r : Rep K mg ι H d v) (h : seqD m d = some xs) : ∃ p vs, v = .ref p ∧ (SqL K H p vs ∨ SqT K H p vs) ∧ RepL K mg ι H xs vs := by
  cases r with
  | tup h1 h2 => cases h; exact ⟨_, _, rfl, .inr (.of h1), h2⟩
  | kt h1 h2 => cases h; exact ⟨_, _, rfl, .inr h1.sq, h2⟩
  | fl h1 h2 => cases h; exact ⟨_, _, rfl, .inl h1.sq, h2⟩
  | sl _ h1 h2 => cases h; exact ⟨_, _, rfl, .inl (.of h1), h2⟩
  | @ref n a e =>
    have h : (match m[n]? with | some (.lst xs) => some xs | _ => none) = some xs := h
    split at h
    · rename_i ys hc
      cases h
      obtain ⟨us, h1, h2⟩ := lst_at hm e hc
      exact ⟨_, us, rfl, .inl (.of h1), h2⟩
    · cases h
  | _ => cases h
theorem seqL_rep (hm : HR K mg ι H m) {d : D} {v : V} {xs : List D} (r : Rep K mg ι H d v) (h : bAll.seqL m d = some xs) : ∃ p vs, v = .ref p ∧ SqL K H p vs ∧ RepL K mg ι H xs vs := by
  cases r with
  | fl h1 h2 => cases h; exact ⟨_, _, rfl, h1.sq, h2⟩
  | sl _ h1 h2 => cases h; exact ⟨_, _, rfl, .of h1, h2⟩
  | @ref n a e =>
    have h : (match m[n]? with | some (.lst xs) => some xs | _ => none) = some xs := h
    split at h
    · rename_i ys hc
      cases h
      obtain ⟨us, h1, h2⟩ := lst_at hm e hc
      exact ⟨_, us, rfl, .of h1, h2⟩
    · cases h
  | _ => cases h
theorem bls_rep : ∀ {xs : List D} {vs : List V} {bs : List Bool}, RepL K mg ι H xs vs → blsD xs = some bs → vs = bs.map V.bl
  | [], _, _, .nil, h => by cases h; rfl
  | d :: r, _, bs, .cons r1 r2, h => by
    cases r1 with
    | bl b =>
      obtain ⟨cs, h1, rfl⟩ := Option.map_eq_some_iff.mp (show (blsD r).map (b :: ·) = some bs from h)
      rw [bls_rep r2 h1]
      rfl
    | _ => cases h
theorem opl_list : OpL X (fun xs H Q => ∃ p ys, xs = [.ref p] ∧ (SqL X.K H p ys ∨ SqT X.K H p ys) ∧ ∀ l, H l = none → Q (.ref l) (upd H l (.lst ys))) bList := fun F E ι H m xs vs Q hm r hp => by
  unfold bList at hp
  split at hp
  · split at hp
    · rename_i ys hy
      cases r with
      | cons r1 r2 =>
        cases r2
        obtain ⟨p, us, rfl, h1, h2⟩ := seqD_rep hm r1 hy
        exact ⟨p, us, rfl, h1, fun l hl => hp.newL hm h2 hl⟩
    · exact hp.elim
  · exact hp.elim
theorem opl_listS : OpL X (fun xs H Q => ∃ p ys, xs = [.ref p] ∧ (SqL X.K H p ys ∨ SqT X.K H p ys) ∧ ∀ l, H l = none → Q (.ref l) (upd H l (.lst ys))) bListS := fun F E ι H m xs vs Q hm r hp => by
  unfold bListS at hp
  split at hp
  · split at hp
    · rename_i ys hy
      cases r with
      | cons r1 r2 =>
        cases r2
        obtain ⟨p, us, rfl, h1, h2⟩ := seqD_rep hm r1 hy
        exact ⟨p, us, rfl, h1, fun l hl => hp.newS hm h2 hl⟩
    · exact hp.elim
  · exact hp.elim
theorem opl_tuple : OpL X (fun xs H Q => ∃ p ys, xs = [.ref p] ∧ ((SqL X.K H p ys ∧ ∀ l, H l = none → Q (.ref l) (upd H l (.tup ys))) ∨ (SqT X.K H p ys ∧ Q (.ref p) H))) bTuple := fun F E ι H m xs vs Q hm r hp => by
  unfold bTuple at hp
  split at hp
  · cases r with
    | cons r1 r2 =>
      cases r2
      cases r1 with
      | ref e =>
        split at hp
        · rename_i ys hc
          obtain ⟨us, h1, h2⟩ := lst_at hm e hc
          exact ⟨_, us, rfl, .inl ⟨.of h1, fun l hl => hp.newT hm h2 hl⟩⟩
        · exact hp.elim
  · cases r with
    | cons r1 r2 =>
      cases r2
      cases r1 with
      | fl h1 h2 => exact ⟨_, _, rfl, .inl ⟨h1.sq, fun l hl => hp.newT hm h2 hl⟩⟩
  · cases r with
    | cons r1 r2 =>
      cases r2
      cases r1 with
      | sl _ h1 h2 => exact ⟨_, _, rfl, .inl ⟨.of h1, fun l hl => hp.newT hm h2 hl⟩⟩
  · cases r with
    | cons r1 r2 =>
      cases r2
      cases r1 with
      | tup h1 h2 => exact ⟨_, _, rfl, .inr ⟨.of h1, hp.okI hm (.tup h1 h2)⟩⟩
  · exact hp.elim
theorem opl_int : OpL X (fun xs H Q => (∃ i, xs = [.int i] ∧ Q (.int i) H) ∨ ∃ k, xs = [.bl k] ∧ Q (.int (if k then 1 else 0)) H) bInt := fun F E ι H m xs vs Q hm r hp => by
  unfold bInt at hp
  split at hp
  · cases r with
    | cons r1 r2 => cases r2; cases r1; exact .inl ⟨_, rfl, hp.okI hm (.int _)⟩
  · cases r with
    | cons r1 r2 => cases r2; cases r1; exact .inr ⟨_, rfl, hp.okI hm (.int _)⟩
  · exact hp.elim
theorem opl_max2 : OpL X (fun xs H Q => ∃ i j, xs = [.int i, .int j] ∧ Q (.int (if j > i then j else i)) H) bMax2 := fun F E ι H m xs vs Q hm r hp => by
  unfold bMax2 at hp
  split at hp
  · cases r with
    | cons r1 r2 =>
      cases r2 with
      | cons r2 r3 => cases r3; cases r1; cases r2; exact ⟨_, _, rfl, hp.okI hm (.int _)⟩
  · exact hp.elim
theorem opl_min2 : OpL X (fun xs H Q => ∃ i j, xs = [.int i, .int j] ∧ Q (.int (if j < i then j else i)) H) bMin2 := fun F E ι H m xs vs Q hm r hp => by
  unfold bMin2 at hp
  split at hp
  · cases r with
    | cons r1 r2 =>
      cases r2 with
      | cons r2 r3 => cases r3; cases r1; cases r2; exact ⟨_, _, rfl, hp.okI hm (.int _)⟩
  · exact hp.elim
theorem opl_all : OpL X (rAll X.K) bAll := fun F E ι H m xs vs Q hm r hp => by
  unfold bAll at hp
  split at hp
  · split at hp
    · rename_i bs hb
      obtain ⟨ys, h1, h2⟩ := Option.bind_eq_some_iff.mp hb
      cases r with
      | cons r1 r2 =>
        cases r2
        obtain ⟨p, us, rfl, h3, h4⟩ := seqL_rep hm r1 h1
        have e := bls_rep h4 h2
        subst e
        exact ⟨p, bs, rfl, h3, hp.okI hm (.bl _)⟩
    · exact hp.elim
  · exact hp.elim
theorem opl_any : OpL X (rAny X.K) bAny := fun F E ι H m xs vs Q hm r hp => by
  unfold bAny at hp
  split at hp
  · split at hp
    · rename_i bs hb
      obtain ⟨ys, h1, h2⟩ := Option.bind_eq_some_iff.mp hb
      cases r with
      | cons r1 r2 =>
        cases r2
        obtain ⟨p, us, rfl, h3, h4⟩ := seqL_rep hm r1 h1
        have e := bls_rep h4 h2
        subst e
        exact ⟨p, bs, rfl, h3, hp.okI hm (.bl _)⟩
    · exact hp.elim
  · exact hp.elim
/-! repr -/
end
def noLong : PyData → Bool := fun p => p.showable && !p.hasDict && decide (p.depth ≤ 60) && decide (p.shown.length ≤ line)
def bRepr (ds : List D) (m : M) : R D := match ds with
  | [d] => match toP deepest m d with
    | some p => if noLong p = true then .ok (.str p.shown) m else .bad
    | none => .bad
  | _ => .bad
section
variable {X : Cx}
def rRepr (K : PySem.W.Frag) : List V → Hp → VK → Prop := fun xs H Q => ∃ v p, xs = [v] ∧ Dp K H v p ∧ noLong p = true ∧ Q (.str p.shown) H
theorem cr_repr (hu : Un64 X) (hg : X.A.guards = some []) : CallR X (.builtin "repr") (rRepr X.K) := by
  intro pins s σ H xs us Q I r ⟨v, p, e, d, hn, q⟩
  subst e
  obtain ⟨u, rfl, ru⟩ := vals1 r
  obtain ⟨as, rd⟩ := Dp.reads I p v u d ru
  unfold noLong at hn
  rw [Bool.and_eq_true, Bool.and_eq_true, Bool.and_eq_true] at hn
  obtain ⟨⟨⟨h1, h2⟩, h3⟩, h4⟩ := hn
  have h4' : p.shown.length ≤ sizeLine := by rw [line_eq]; exact of_decide_eq_true h4
  have h3' : p.depth ≤ 60 := of_decide_eq_true h3
  have hu' : X.A.units + 64 < cLine := hu
  cases d with
  | non =>
    cases ru
    exact PySem.P.repr_of_none ⟨.str _, H, I.tok _, ⟨_, rfl⟩, q⟩
  | bl b =>
    cases ru
    exact PySem.P.repr_of_bool ⟨.str _, H, I.tok _, ⟨_, rfl⟩, q⟩
  | int i =>
    obtain ⟨t, rfl⟩ := ru
    have h1 : decide (i.natAbs.log2 < 1920) = true := by simpa [PyData.showable] using h1
    exact PySem.P.repr_of_int (of_decide_eq_true h1) ⟨.str _, H, I.tok _, ⟨_, rfl⟩, q⟩
  | str x =>
    obtain ⟨t, rfl⟩ := ru
    exact PySem.P.repr_of_str ⟨.str _, H, I.tok _, ⟨_, rfl⟩, q⟩ h4'
  | lst hs hr =>
    cases ru
    exact repr_of_reads' rd h1 (fun e => by rw [e] at h2; cases h2) hg (by omega) (fun _ _ e => e) (fun h' u tk hk => ⟨.str _, H, I.kept hk, ⟨_, rfl⟩, q⟩) h4'
  | tup hs hr =>
    cases ru
    exact repr_of_reads' rd h1 (fun e => by rw [e] at h2; cases h2) hg (by omega) (fun _ _ e => e) (fun h' u tk hk => ⟨.str _, H, I.kept hk, ⟨_, rfl⟩, q⟩) h4'
theorem opl_repr : OpL X (rRepr X.K) bRepr := fun F E ι H m xs vs Q hm r hp => by
  unfold bRepr at hp
  split at hp
  · split at hp
    · rename_i p e
      split at hp
      · rename_i hn
        cases r with
        | cons r1 r2 =>
          cases r2
          exact ⟨_, p, rfl, dp_of hm _ _ _ _ e r1, hn, hp.okI hm (.str _)⟩
      · exact hp.elim
    · exact hp.elim
  · exact hp.elim
end
end Z

namespace Z
open PySem PySem.Spec PyProof.Rows L2

/-! ### what a loop walks -/
def isTupD : D → Bool
  | .tup _ => true
  | .kt _ => true
  | _ => false
def cellAt (n : Nat) (i : Nat) (m : M) : Option (Option D) := match m[n]? with
  | some (.lst ys) => some ys[i]?
  | _ => none
def itOf (m : M) : D → Option Itz
  | .tup xs => some (itD xs)
  | .kt xs => some (itD xs)
  | .fl xs => some (itD xs)
  | .sl xs => some (itD xs)
  | .ref n => match m[n]? with
    | some (.lst xs) => some ⟨xs.length + 1, cellAt n⟩
    | _ => none
  | _ => none
def iSeq (f : EF) : IF := fun ρ m => (f ρ m).bind fun d m1 => match itOf m1 d with
  | some z => .ok z m1
  | none => .bad
section
variable {X : Cx} {W : WX} {K : PySem.W.Frag} {mg : G} {ι : List Addr} {H : Hp}
theorem relI_tup {a : Addr} {xs : List D} {vs : List V} (h : SqT K H a vs) (hs : ∀ {ι' H'}, Ext ι H ι' H' → SqT K H' a vs) (r : RepL K mg ι H xs vs) : relI K mg ι H (itD xs) (Itt K a) := fun i F' ι' H' m' hF e hm => by
  have q := hs e
  have r' := (r.grow hF).mono e
  refine ⟨fun hn => ⟨vs, q, ?_⟩, fun d hd => ?_⟩
  · have hn : xs[i]? = none := Option.some.inj hn
    rw [← r.length]
    exact List.getElem?_eq_none_iff.mp hn
  · have hd : xs[i]? = some d := Option.some.inj hd
    obtain ⟨v, h1, h2⟩ := r'.get hd
    refine ⟨⟨vs, v, q, h1⟩, fun x H'' hy => ?_⟩
    obtain ⟨rfl, hx⟩ := hy
    have := hx vs q
    rw [h1] at this
    cases this
    exact ⟨.refl, hm, h2⟩
theorem relI_lst {a : Addr} {xs : List D} {vs : List V} (hs : ∀ {ι' H'}, Ext ι H ι' H' → SqL K H' a vs) (r : RepL K mg ι H xs vs) : relI K mg ι H (itD xs) (Itl K a) := fun i F' ι' H' m' hF e hm => by
  have q := hs e
  have r' := (r.grow hF).mono e
  refine ⟨fun hn => ⟨vs, q, ?_⟩, fun d hd => ?_⟩
  · have hn : xs[i]? = none := Option.some.inj hn
    rw [← r.length]
    exact List.getElem?_eq_none_iff.mp hn
  · have hd : xs[i]? = some d := Option.some.inj hd
    obtain ⟨v, h1, h2⟩ := r'.get hd
    refine ⟨⟨vs, v, q, h1⟩, fun x H'' hy => ?_⟩
    obtain ⟨rfl, hx⟩ := hy
    have := hx vs q
    rw [h1] at this
    cases this
    exact ⟨.refl, hm, h2⟩
theorem relI_cell {n : Nat} {a : Addr} {k : Nat} (e0 : ι[n]? = some a) : relI K mg ι H ⟨k, cellAt n⟩ (Itl K a) := fun i F' ι' H' m' hF e hm => by
  have e1 := e.get e0
  refine ⟨fun hn => ?_, fun d hd => ?_⟩
  · have hn : (match m'[n]? with | some (.lst ys) => some ys[i]? | _ => none) = some none := hn
    split at hn
    · rename_i ys hc
      obtain ⟨us, h1, h2⟩ := lst_at hm e1 hc
      refine ⟨us, .of h1, ?_⟩
      rw [← h2.length]
      exact List.getElem?_eq_none_iff.mp (Option.some.inj hn)
    · cases hn
  · have hd : (match m'[n]? with | some (.lst ys) => some ys[i]? | _ => none) = some (some d) := hd
    split at hd
    · rename_i ys hc
      obtain ⟨us, h1, h2⟩ := lst_at hm e1 hc
      obtain ⟨v, h3, h4⟩ := h2.get (Option.some.inj hd)
      refine ⟨⟨us, v, .of h1, h3⟩, fun x H'' hy => ?_⟩
      obtain ⟨rfl, hx⟩ := hy
      have := hx us (.of h1)
      rw [h3] at this
      cases this
      exact ⟨.refl, hm, h4⟩
    · cases hd
theorem zi_seq {tg e : Expr} {f : EF} (he : ZE X W e f) : ZI X W tg e (iSeq f) := by
  refine ⟨fun pins s σ H R' I ⟨F, ι, ρ, m, hρ, hm, hp⟩ => ?_⟩
  unfold iSeq at hp
  by_cases q : ∃ d m1, f ρ m = .ok d m1 ∧ isTupD d = true
  · obtain ⟨d0, m0, q, ht⟩ := q
    refine (pi_tup he).run pins s σ H R' I ⟨F, ι, ρ, m, hρ, hm, Post.seq hp fun d m1 ι1 H1 v hq e1 h1 r1 hp1 => ?_⟩
    rw [q] at hq
    cases hq
    cases r1 with
    | tup h2 r2 => exact ⟨_, rfl, ⟨_, .of h2⟩, hp1.okI h1 (relI_tup (.of h2) (fun e => .of (e.tup _ _ h2)) r2)⟩
    | kt h2 r2 => exact ⟨_, rfl, ⟨_, h2.sq⟩, hp1.okI h1 (relI_tup h2.sq (fun e => h2.sq) r2)⟩
    | _ => cases ht
  · refine (pi_list he).run pins s σ H R' I ⟨F, ι, ρ, m, hρ, hm, Post.seq hp fun d m1 ι1 H1 v hq e1 h1 r1 hp1 => ?_⟩
    cases r1 with
    | tup h2 r2 => exact (q ⟨_, _, hq, rfl⟩).elim
    | kt h2 r2 => exact (q ⟨_, _, hq, rfl⟩).elim
    | fl h2 r2 => exact ⟨_, rfl, ⟨_, h2.sq⟩, hp1.okI h1 (relI_lst (fun e => (e.sqF h2).sq) r2)⟩
    | sl n h2 r2 => exact ⟨_, rfl, ⟨_, .of h2⟩, hp1.okI h1 (relI_lst (fun e => .of (e.fr _ _ nt_lst (fun q => n (List.mem_append_left _ q)) h2)) r2)⟩
    | @ref n a e =>
      have hp1 : Post X.K (X.mg, F) (relI X.K (X.mg, F)) (fun c d H' => W c d σ H') ι1 H1 R' (match itOf m1 (.ref n) with
        | some z => .ok z m1
        | none => .bad) := hp1
      split at hp1
      · rename_i z hz
        have hz : (match m1[n]? with | some (.lst xs) => some (Itz.mk (xs.length + 1) (cellAt n)) | _ => none) = some z := hz
        split at hz
        · rename_i xs hc
          cases hz
          obtain ⟨us, h2, r2⟩ := lst_at h1 e hc
          exact ⟨_, rfl, ⟨_, .of h2⟩, hp1.okI h1 (relI_cell e)⟩
        · cases hz
      · exact hp1.elim
    | _ => exact hp1.elim
/-! ranges -/
end
def itR (lo : Int) (n : Nat) : Itz := ⟨n + 1, fun i _ => some (if i < n then some (.int (lo + i)) else none)⟩
abbrev small62 (i : Int) : Bool := decide (-(2 ^ 62) ≤ i) && decide (i < 2 ^ 62)
def iRange (a : AF) : IF := fun ρ m => (a ρ m).bind fun ds m1 => match ds with
  | [.int j] => if small62 j = true then .ok (itR 0 j.toNat) m1 else .bad
  | [.int i, .int j] => if (small62 i && small62 j) = true then .ok (itR i (j - i).toNat) m1 else .bad
  | _ => .bad
section
variable {X : Cx} {W : WX} {K : PySem.W.Frag} {mg : G} {ι : List Addr} {H : Hp}
theorem small62_ok {i : Int} (h : small62 i = true) : -(2 ^ 62) ≤ i ∧ i < 2 ^ 62 := by
  unfold small62 at h
  rw [Bool.and_eq_true] at h
  exact ⟨of_decide_eq_true h.1, of_decide_eq_true h.2⟩
theorem relI_rng {lo : Int} {n : Nat} : relI K mg ι H (itR lo n) (Itr lo n) := fun i F' ι' H' m' hF e hm => by
  refine ⟨fun hn => ?_, fun d hd => ?_⟩
  · have hn : (if i < n then some (D.int (lo + i)) else none) = none := Option.some.inj hn
    split at hn
    · cases hn
    · rename_i h
      exact Nat.le_of_not_lt h
  · have hd : (if i < n then some (D.int (lo + i)) else none) = some d := Option.some.inj hd
    split at hd
    · rename_i h
      cases hd
      refine ⟨h, fun x H'' hy => ?_⟩
      obtain ⟨rfl, rfl⟩ := hy
      exact ⟨.refl, hm, .int _⟩
    · cases hd
theorem zi_range1 {tg a : Expr} {f : EF} {p pos : Pos} (hg : Gl X "range") (hm : X.mg "range" = none) (ha : ZE X W a f) (hs : starEach [a] X.env = [(false, eval a X.env)] := by rfl) (hs2 : starEach [a] X.env = (false, eval a X.env) :: starEach [] X.env := by rfl) :
    ZI X W tg (.Call (.Name "range" p) [a] [] pos) (iRange (aCons f aNil)) := by
  refine PI.imp (pi_range1 hg hm (za_cons ha za_nil hs2) hs) fun σ H R' ⟨F, ι, ρ, m, hρ, hm, hp⟩ => ⟨F, ι, ρ, m, hρ, hm, ?_⟩
  refine Post.seq hp fun ds m1 ι1 H1 vs hq e1 h1 r1 hp1 => ?_
  have one : ds.length = 1 := by
    unfold aCons aNil at hq
    cases q : f ρ m with
    | ok d m2 => rw [q] at hq; cases hq; rfl
    | err x m2 => rw [q] at hq; cases hq
    | bad => rw [q] at hq; cases hq
  split at hp1
  · split at hp1
    · rename_i hj
      cases r1 with
      | cons r1 r2 =>
        cases r1; cases r2
        exact ⟨_, rfl, (small62_ok hj).1, (small62_ok hj).2, hp1.okI h1 relI_rng⟩
    · exact hp1.elim
  · cases one
  · exact hp1.elim
theorem zi_range2 {tg a b : Expr} {f h : EF} {p pos : Pos} (hg : Gl X "range") (hm : X.mg "range" = none) (ha : ZE X W a f) (hb : ZE X W b h) (hs : starEach [a, b] X.env = [(false, eval a X.env), (false, eval b X.env)] := by rfl) (hs2 : starEach [b] X.env = [(false, eval b X.env)] := by rfl)
    (hs3 : starEach [a, b] X.env = (false, eval a X.env) :: starEach [b] X.env := by rfl) (hs4 : starEach [b] X.env = (false, eval b X.env) :: starEach [] X.env := by rfl) :
    ZI X W tg (.Call (.Name "range" p) [a, b] [] pos) (iRange (aCons f (aCons h aNil))) := by
  refine PI.imp (pi_range2 hg hm (za_cons ha (za_cons hb za_nil hs4) hs3) hs hs2) fun σ H R' ⟨F, ι, ρ, m, hρ, hm, hp⟩ => ⟨F, ι, ρ, m, hρ, hm, ?_⟩
  refine Post.seq hp fun ds m1 ι1 H1 vs hq e1 h1 r1 hp1 => ?_
  have two : ds.length = 2 := by
    unfold aCons aNil at hq
    cases q : f ρ m with
    | ok d m2 =>
      rw [q] at hq
      cases q2 : h ρ m2 with
      | ok d2 m3 =>
        have hq : (((h ρ m2).bind fun d m1 => (.ok [d] m1 : R (List D))).bind fun ds m2 => .ok (d :: ds) m2) = R.ok ds m1 := hq
        rw [q2] at hq
        cases hq; rfl
      | err x m3 =>
        have hq : (((h ρ m2).bind fun d m1 => (.ok [d] m1 : R (List D))).bind fun ds m2 => .ok (d :: ds) m2) = R.ok ds m1 := hq
        rw [q2] at hq; cases hq
      | bad =>
        have hq : (((h ρ m2).bind fun d m1 => (.ok [d] m1 : R (List D))).bind fun ds m2 => .ok (d :: ds) m2) = R.ok ds m1 := hq
        rw [q2] at hq; cases hq
    | err x m2 => rw [q] at hq; cases hq
    | bad => rw [q] at hq; cases hq
  split at hp1
  · cases two
  · split at hp1
    · rename_i hj
      rw [Bool.and_eq_true] at hj
      cases r1 with
      | cons r1 r2 =>
        cases r2 with
        | cons r2 r3 =>
          cases r1; cases r2; cases r3
          exact ⟨_, _, rfl, ⟨(small62_ok hj.1).1, (small62_ok hj.1).2, (small62_ok hj.2).1, (small62_ok hj.2).2⟩, hp1.okI h1 relI_rng⟩
    · exact hp1.elim
  · exact hp1.elim
end
/-! texts, sign by sign -/
def itS (x : Str) : Itz := ⟨x.cps.size + 1, fun i _ => some (x.cps[i]?.map fun c => .str ⟨#[c]⟩)⟩
def iStrZ (f : EF) : IF := fun ρ m => (f ρ m).bind fun d m1 => match d with
  | .str x => .ok (itS x) m1
  | _ => .bad
/-! two at once -/
def tupItems : D → Option (List D)
  | .tup xs => some xs
  | .kt xs => some xs
  | _ => none
def lstItems : D → Option (List D)
  | .sl xs => some xs
  | .fl xs => some xs
  | _ => none
def seqs2 : List D → Option (List D × List D)
  | [x, y] => match tupItems x, tupItems y with
    | some xs, some ys => some (xs, ys)
    | _, _ => match lstItems x, lstItems y with
      | some xs, some ys => some (xs, ys)
      | _, _ => none
  | _ => none
def itZ (xs ys : List D) : Itz := ⟨xs.length + 1, fun i _ => some (match xs[i]?, ys[i]? with
  | some x, some y => some (.tup [x, y])
  | _, _ => none)⟩
def iZipZ (a : AF) : IF := fun ρ m => (a ρ m).bind fun ds m1 => match seqs2 ds with
  | some (xs, ys) => .ok (itZ xs ys) m1
  | none => .bad
def itE (xs : List D) : Itz := ⟨xs.length + 1, fun i _ => some (xs[i]?.map fun x => .tup [.int (i : Nat), x])⟩
def iEnumZ (f : EF) : IF := fun ρ m => (f ρ m).bind fun d m1 => match d with
  | .tup xs => .ok (itE xs) m1
  | .kt xs => .ok (itE xs) m1
  | .fl xs => .ok (itE xs) m1
  | .sl xs => .ok (itE xs) m1
  | _ => .bad
section
variable {X : Cx} {W : WX} {K : PySem.W.Frag} {mg : G} {ι : List Addr} {H : Hp}
theorem zi_str {tg e : Expr} {f : EF} (he : ZE X W e f) : ZI X W tg e (iStrZ f) := PI.imp (pi_str he) fun σ H R' ⟨F, ι, ρ, m, hρ, hm, hp⟩ => ⟨F, ι, ρ, m, hρ, hm, by
  refine Post.seq hp fun d m1 ι1 H1 v hq e1 h1 r1 hp1 => ?_
  cases r1 with
  | str x =>
    refine ⟨x, rfl, hp1.okI h1 fun i F' ι' H' m' hF e hm => ⟨fun hn => ?_, fun d hd => ?_⟩⟩
    · have hn : (x.cps[i]?.map fun c => D.str ⟨#[c]⟩) = none := Option.some.inj hn
      rw [Option.map_eq_none_iff] at hn
      exact Array.getElem?_eq_none_iff.mp hn
    · have hd : (x.cps[i]?.map fun c => D.str ⟨#[c]⟩) = some d := Option.some.inj hd
      obtain ⟨c, hc, rfl⟩ := Option.map_eq_some_iff.mp hd
      refine ⟨(Array.getElem?_eq_some_iff.mp hc).1, fun z H'' hy => ?_⟩
      obtain ⟨rfl, c', hc', rfl⟩ := hy
      rw [hc] at hc'
      cases hc'
      exact ⟨.refl, hm, .str _⟩
  | _ => exact hp1.elim⟩
/-- a new pair that a walk gives -/
theorem pair_new {ι' : List Addr} {H' : Hp} {m' : M} {T : Addr} {x y : V} {d1 d2 : D} (hm : HR K mg ι' H' m') (hT : H' T = none) (r1 : Rep K mg ι' H' d1 x) (r2 : Rep K mg ι' H' d2 y) :
    Ext ι' H' ι' (upd H' T (.tup [x, y])) ∧ HR K mg ι' (upd H' T (.tup [x, y])) m' ∧ Rep K mg ι' (upd H' T (.tup [x, y])) (.tup [d1, d2]) (.ref T) :=
  ⟨Ext.side hT, hm.side hT, .tup upd_same (.cons (r1.mono (Ext.side hT)) (.cons (r2.mono (Ext.side hT)) .nil))⟩
theorem relI_zip {a b : Addr} {xs ys : List D} {vs us : List V} (hs : ∀ {ι' H'}, Ext ι H ι' H' → SqL K H' a vs) (hs2 : ∀ {ι' H'}, Ext ι H ι' H' → SqL K H' b us) (r : RepL K mg ι H xs vs) (r2 : RepL K mg ι H ys us) : relI K mg ι H (itZ xs ys) (L2.Itz K a b) := fun i F' ι' H' m' hF e hm => by
  refine ⟨fun hn => ⟨vs, us, hs e, hs2 e, ?_⟩, fun d hd => ?_⟩
  · have hn : (match xs[i]?, ys[i]? with | some x, some y => some (D.tup [x, y]) | _, _ => none) = none := Option.some.inj hn
    rw [← r.length, ← r2.length]
    cases q : xs[i]? with
    | none => exact .inl (List.getElem?_eq_none_iff.mp q)
    | some x =>
      cases q2 : ys[i]? with
      | none => exact .inr (List.getElem?_eq_none_iff.mp q2)
      | some y => rw [q, q2] at hn; cases hn
  · have hd : (match xs[i]?, ys[i]? with | some x, some y => some (D.tup [x, y]) | _, _ => none) = some d := Option.some.inj hd
    split at hd
    · rename_i x y q q2
      cases hd
      obtain ⟨v, h1, h2⟩ := ((r.grow hF).mono e).get q
      obtain ⟨u, h3, h4⟩ := ((r2.grow hF).mono e).get q2
      refine ⟨⟨vs, us, v, u, hs e, hs2 e, h1, h3⟩, fun z H'' hy => ?_⟩
      obtain ⟨T, v', u', rfl, hT, rfl, f1, f2⟩ := hy
      have e1 := f1 vs (hs e)
      have e2 := f2 us (hs2 e)
      rw [h1] at e1
      rw [h3] at e2
      cases e1; cases e2
      exact pair_new hm hT h2 h4
    · cases hd
theorem relI_zipT {a b : Addr} {xs ys : List D} {vs us : List V} (hs : ∀ {ι' H'}, Ext ι H ι' H' → SqT K H' a vs) (hs2 : ∀ {ι' H'}, Ext ι H ι' H' → SqT K H' b us) (r : RepL K mg ι H xs vs) (r2 : RepL K mg ι H ys us) : relI K mg ι H (itZ xs ys) (RZ.ItzT K a b) := fun i F' ι' H' m' hF e hm => by
  refine ⟨fun hn => ⟨vs, us, hs e, hs2 e, ?_⟩, fun d hd => ?_⟩
  · have hn : (match xs[i]?, ys[i]? with | some x, some y => some (D.tup [x, y]) | _, _ => none) = none := Option.some.inj hn
    rw [← r.length, ← r2.length]
    cases q : xs[i]? with
    | none => exact .inl (List.getElem?_eq_none_iff.mp q)
    | some x =>
      cases q2 : ys[i]? with
      | none => exact .inr (List.getElem?_eq_none_iff.mp q2)
      | some y => rw [q, q2] at hn; cases hn
  · have hd : (match xs[i]?, ys[i]? with | some x, some y => some (D.tup [x, y]) | _, _ => none) = some d := Option.some.inj hd
    split at hd
    · rename_i x y q q2
      cases hd
      obtain ⟨v, h1, h2⟩ := ((r.grow hF).mono e).get q
      obtain ⟨u, h3, h4⟩ := ((r2.grow hF).mono e).get q2
      refine ⟨⟨vs, us, v, u, hs e, hs2 e, h1, h3⟩, fun z H'' hy => ?_⟩
      obtain ⟨T, v', u', rfl, hT, rfl, f1, f2⟩ := hy
      have e1 := f1 vs (hs e)
      have e2 := f2 us (hs2 e)
      rw [h1] at e1
      rw [h3] at e2
      cases e1; cases e2
      exact pair_new hm hT h2 h4
    · cases hd
theorem tupItems_rep {d : D} {v : V} {xs : List D} (r : Rep K mg ι H d v) (h : tupItems d = some xs) : ∃ a vs, v = .ref a ∧ (∀ {ι' H'}, Ext ι H ι' H' → SqT K H' a vs) ∧ RepL K mg ι H xs vs := by
  cases r with
  | tup h1 h2 => cases h; exact ⟨_, _, rfl, fun e => .of (e.tup _ _ h1), h2⟩
  | kt h1 h2 => cases h; exact ⟨_, _, rfl, fun e => h1.sq, h2⟩
  | _ => cases h
theorem lstItems_rep {d : D} {v : V} {xs : List D} (r : Rep K mg ι H d v) (h : lstItems d = some xs) : ∃ a vs, v = .ref a ∧ (∀ {ι' H'}, Ext ι H ι' H' → SqL K H' a vs) ∧ RepL K mg ι H xs vs := by
  cases r with
  | sl n h1 h2 => cases h; exact ⟨_, _, rfl, fun e => .of (e.fr _ _ nt_lst (fun q => n (List.mem_append_left _ q)) h1), h2⟩
  | fl h1 h2 => cases h; exact ⟨_, _, rfl, fun e => (e.sqF h1).sq, h2⟩
  | _ => cases h
theorem zi_zip {e e2 : Expr} {f h : EF} {p pos tpos : Pos} {elts : List Expr} {kk : Nat} (hg : Gl X "zip") (hm : X.mg "zip" = none) (ha : ZE X W e f) (hb : ZE X W e2 h)
    (hs : starEach [e, e2] X.env = (false, eval e X.env) :: starEach [e2] X.env := by rfl) (hs2 : starEach [e2] X.env = (false, eval e2 X.env) :: starEach [] X.env := by rfl) (hpl : (backTo pos (starEach [e2] X.env)).any (·.1) = false := by rfl) :
    ZI X W (.Tuple elts kk tpos) (.Call (.Name "zip" p) [e, e2] [] pos) (iZipZ (aCons f (aCons h aNil))) := by
  refine PI.imp (RZ.pi_zipA hg hm (za_cons ha (za_cons hb za_nil hs2) hs) hs hpl) fun σ H R' ⟨F, ι, ρ, m, hρ, hm, hp⟩ => ⟨F, ι, ρ, m, hρ, hm, ?_⟩
  refine Post.seq hp fun ds m1 ι1 H1 vs hq e1 h1 r1 hp1 => ?_
  split at hp1
  · rename_i xs ys hz
    unfold seqs2 at hz
    split at hz
    · rename_i x y
      cases r1 with
      | cons r1 r2 =>
        cases r2 with
        | cons r2 r3 =>
          cases r3
          split at hz
          · rename_i us ws q1 q2
            cases hz
            obtain ⟨a, vs, rfl, s1, t1⟩ := tupItems_rep r1 q1
            obtain ⟨b, us, rfl, s2, t2⟩ := tupItems_rep r2 q2
            exact ⟨a, b, vs, us, rfl, .inr ⟨s1 .refl, s2 .refl, hp1.okI h1 (relI_zipT s1 s2 t1 t2)⟩⟩
          · split at hz
            · rename_i us ws q1 q2
              cases hz
              obtain ⟨a, vs, rfl, s1, t1⟩ := lstItems_rep r1 q1
              obtain ⟨b, us, rfl, s2, t2⟩ := lstItems_rep r2 q2
              exact ⟨a, b, vs, us, rfl, .inl ⟨s1 .refl, s2 .refl, hp1.okI h1 (relI_zip s1 s2 t1 t2)⟩⟩
            · cases hz
    · cases hz
  · exact hp1.elim
end
end Z

namespace Z
open PySem PySem.Spec PyProof.Rows L2

/-! ### comprehensions -/
def wipeR (ρ : Rho) : List Nat → Rho
  | [] => ρ
  | i :: l => (wipeR ρ l).set i none
def lcN (nxt : Nat → M → Option (Option D)) (g : GF) (tt : TF) (f : EF) : Nat → Nat → Rho → List D → M → R (List D)
  | 0, _, _, _, _ => .bad
  | fuel + 1, i, ρ, acc, m => match nxt i m with
    | none => .bad
    | some none => .ok acc m
    | some (some d) => match g d ρ m with
      | none => .bad
      | some (ρ1, m1) => match tt ρ1 m1 with
        | .ok true m2 => match f ρ1 m2 with
          | .ok y m3 => if acc.length < line then lcN nxt g tt f fuel (i + 1) ρ (acc ++ [y]) m3 else .bad
          | _ => .bad
        | .ok false m2 => lcN nxt g tt f fuel (i + 1) ρ acc m2
        | _ => .bad
def eLc (it : IF) (own : List Nat) (g : GF) (tt : TF) (f : EF) : EF := fun ρ m => (it ρ m).bind fun z m1 => (lcN z.nxt g tt f z.fuel 0 (wipeR ρ own) [] m1).bind fun xs m2 => .ok (.sl xs) m2
def eLcC (it : IF) (own : List Nat) (g : GF) (tt : TF) (f : EF) : EF := fun ρ m => (it ρ m).bind fun z m1 => (lcN z.nxt g tt f z.fuel 0 (wipeR ρ own) [] m1).bind fun xs m2 => .ok (.ref m2.length) (m2 ++ [.lst xs])
def OkI {α : Type} (A : α → M → Prop) : R α → Prop
  | .ok a m => A a m
  | _ => False
def tYesF : TF := fun _ m => .ok true m

section
variable {K : PySem.W.Frag} {mg : G} {ι ι' : List Addr} {H H' : Hp} {D0 : Addr}
theorem EnvR.unset {ρ : Rho} {σ : L2.St} (h : EnvR K mg ι H ρ σ) (i : Nat) : EnvR K mg ι H (ρ.set i none) (σ.set i none) := by
  refine ⟨by simp [h.1], fun j d' hj => ?_⟩
  by_cases e : i = j
  · subst e
    have hl : i < ρ.length := by
      have := (List.getElem?_eq_some_iff.mp hj).1
      simpa using this
    rw [List.getElem?_set_self hl] at hj
    cases hj
  · rw [List.getElem?_set_ne e] at hj
    obtain ⟨v', h1, h2⟩ := h.2 j d' hj
    exact ⟨v', by rw [List.getElem?_set_ne e]; exact h1, h2⟩
theorem EnvR.wipe {ρ : Rho} {σ : L2.St} (h : EnvR K mg ι H ρ σ) : ∀ l, EnvR K mg ι H (wipeR ρ l) (wipe σ l)
  | [] => h
  | i :: l => (EnvR.wipe h l).unset i
theorem wipe_set (σ : L2.St) (x : Option V) : ∀ (l : List Nat) (i : Nat), i ∈ l → wipe (σ.set i x) l = wipe σ l
  | j :: l, i, h => by
    show (wipe (σ.set i x) l).set j none = (wipe σ l).set j none
    by_cases hi : i ∈ l
    · rw [wipe_set σ x l i hi]
    · have e : i = j := by
        rcases List.mem_cons.mp h with h | h
        · exact h
        · exact absurd h hi
      subst e
      have comm : ∀ (l : List Nat), i ∉ l → wipe (σ.set i x) l = (wipe σ l).set i x := by
        intro l
        induction l with
        | nil => intro _; rfl
        | cons k l ih =>
          intro hk
          have hk1 : i ≠ k := fun e => hk (by rw [e]; exact List.mem_cons_self)
          show (wipe (σ.set i x) l).set k none = ((wipe σ l).set k none).set i x
          rw [ih fun q => hk (List.mem_cons_of_mem _ q)]
          exact List.set_comm _ _ hk1
      rw [comm l hi, List.set_set]
theorem wipe_idem (σ : L2.St) (l : List Nat) : ∀ l' : List Nat, (∀ i ∈ l', i ∈ l) → wipe (wipe σ l') l = wipe σ l
  | [], _ => rfl
  | i :: l', h => by
    show wipe ((wipe σ l').set i none) l = wipe σ l
    rw [wipe_set _ _ l i (h i List.mem_cons_self)]
    exact wipe_idem σ l l' fun j hj => h j (List.mem_cons_of_mem _ hj)
/-! an address of the side -/
theorem Ext.hide {o : HO} (e : Ext ι H ι' H') (hn : H D0 = none) : Ext ι H ι' (upd H' D0 o) :=
  ⟨e.pre, fun a vs h => by rw [upd_ne (ne_of_none h hn)]; exact e.tup a vs h, fun a ob u h => by rw [upd_ne (ne_of_none h hn)]; exact e.frz a ob u h, fun a ob hnt ha h => by rw [upd_ne (ne_of_none h hn)]; exact e.fr a ob hnt ha h,
    fun a ob hnt h => by
      rw [upd_ne (ne_of_none h hn)]; exact e.dom a ob hnt h⟩
section
variable {o o' : HO} (hD : D0 ∈ mg.2) (hi : D0 ∉ ι) (h0 : H D0 = some o) (hl : (∃ xs, o = .lst xs) ∨ (∃ xs, o = .dK xs) ∨ ∃ xs, o = .dT xs)
include hl in
theorem side_ne (h0 : H D0 = some o) {a : Addr} {u : HO} (ha : H a = some u) (hu : (∀ xs, u ≠ .lst xs) ∧ (∀ xs, u ≠ .dK xs) ∧ ∀ xs, u ≠ .dT xs) : a ≠ D0 := by
  rintro rfl
  rw [h0] at ha
  cases ha
  rcases hl with ⟨xs, h⟩ | ⟨xs, h⟩ | ⟨xs, h⟩
  · exact hu.1 xs h
  · exact hu.2.1 xs h
  · exact hu.2.2 xs h
mutual
theorem Rep.aside (hD : D0 ∈ mg.2) (hi : D0 ∉ ι) (h0 : H D0 = some o) (hl : (∃ xs, o = .lst xs) ∨ (∃ xs, o = .dK xs) ∨ ∃ xs, o = .dT xs) : ∀ {d : D} {v : V}, Rep K mg ι H d v → Rep K mg ι (upd H D0 o') d v
  | _, _, .non => .non
  | _, _, .bl b => .bl b
  | _, _, .int i => .int i
  | _, _, .str x => .str x
  | _, _, .tup h r => .tup (by rw [upd_ne (side_ne hl h0 h ⟨by simp, by simp, by simp⟩)]; exact h) (RepL.aside hD hi h0 hl r)
  | _, _, .ref h => .ref h
  | _, _, .glo h => .glo h
  | _, _, .ty n => .ty n
  | _, _, .fl h r => .fl (by
      rcases h with ⟨ob, h⟩ | h
      · exact .inl ⟨ob, by rw [upd_ne (side_ne hl h0 h ⟨by simp, by simp, by simp⟩)]; exact h⟩
      · exact .inr h) (RepL.aside hD hi h0 hl r)
  | _, _, .sl n h r => .sl n (by rw [upd_ne (fun e => n (List.mem_append_right _ (by rw [e]; exact hD)))]; exact h) (RepL.aside hD hi h0 hl r)
  | _, _, .exc c na nd ha hd r => .exc c na nd (by rw [upd_ne (side_ne hl h0 ha ⟨by simp [exo], by simp [exo], by simp [exo]⟩)]; exact ha) (by rw [upd_ne (side_ne hl h0 hd ⟨by simp [exd], by simp [exd], by simp [exd]⟩)]; exact hd) (RepL.aside hD hi h0 hl r)
  | _, _, .ex0 c na ha => .ex0 c na (by rw [upd_ne (side_ne hl h0 ha ⟨by simp [exo], by simp [exo], by simp [exo]⟩)]; exact ha)
  | _, _, .cau n h r => .cau n (by rw [upd_ne (side_ne hl h0 h ⟨by simp, by simp, by simp⟩)]; exact h) (RepL.aside hD hi h0 hl r)
  | _, _, .kt h r => .kt h (RepL.aside hD hi h0 hl r)
theorem RepL.aside (hD : D0 ∈ mg.2) (hi : D0 ∉ ι) (h0 : H D0 = some o) (hl : (∃ xs, o = .lst xs) ∨ (∃ xs, o = .dK xs) ∨ ∃ xs, o = .dT xs) : ∀ {ds : List D} {vs : List V}, RepL K mg ι H ds vs → RepL K mg ι (upd H D0 o') ds vs
  | _, _, .nil => .nil
  | _, _, .cons h r => .cons (Rep.aside hD hi h0 hl h) (RepL.aside hD hi h0 hl r)
end
include hD hi h0 hl in
theorem HR.aside {m : M} (h : HR K mg ι H m) (hw : NT o' := by intro _ h; cases h) : HR K mg ι (upd H D0 o') m := by
  refine ⟨h.len, h.nd, fun a ha => ?_, fun p hp => ?_, fun n a c h1 h2 => ?_⟩
  · by_cases e : a = D0
    · exact ⟨o', hw, by rw [e, upd_same]⟩
    · rw [upd_ne e]; exact h.fd a ha
  · obtain ⟨ps, t1, t2, t3⟩ := h.tb p hp
    have n1 : ∀ q, H D0 ≠ some (.tbl q) := fun q z => by rw [h0] at z; cases z; rcases hl with ⟨_, h⟩ | ⟨_, h⟩ | ⟨_, h⟩ <;> cases h
    have n2 : ∀ q, H D0 ≠ some (.ext q) := fun q z => by rw [h0] at z; cases z; rcases hl with ⟨_, h⟩ | ⟨_, h⟩ | ⟨_, h⟩ <;> cases h
    refine ⟨ps, by rw [upd_ne (fun e => n1 ps (by rw [← e]; exact t1))]; exact t1, t2, fun pos cv hcv => ?_⟩
    obtain ⟨c, rfl, hc'⟩ := t3 pos cv hcv
    exact ⟨c, rfl, by rw [upd_ne (fun e => n2 _ (by rw [← e]; exact hc'))]; exact hc'⟩
  · have hne : a ≠ D0 := fun e => hi (by rw [← e]; exact List.mem_of_getElem? h1)
    have up : ∀ {u}, H a = some u → upd H D0 o' a = some u := fun q => by rw [upd_ne hne]; exact q
    cases h.at' n a c h1 h2 with
    | lst h r => exact .lst (up h) (r.aside hD hi h0 hl)
    | dK h r => exact .dK (up h) (paired_mono (fun _ _ ⟨x, y⟩ => ⟨x, y.aside hD hi h0 hl⟩) r)
    | dT h r => exact .dT (up h) (paired_mono (fun _ _ ⟨x, y⟩ => ⟨x, y.aside hD hi h0 hl⟩) r)
    | ins hc h r => exact .ins hc (up h) (paired_mono (fun _ _ ⟨x, y⟩ => ⟨x, y.aside hD hi h0 hl⟩) r)
include hD hi h0 hl in
theorem EnvR.aside {ρ : Rho} {σ : L2.St} (h : EnvR K mg ι H ρ σ) : EnvR K mg ι (upd H D0 o') ρ σ :=
  ⟨h.1, fun i d q => let ⟨v, h1, h2⟩ := h.2 i d q; ⟨v, h1, h2.aside hD hi h0 hl⟩⟩
end
/-- the side's address at the start -/
theorem HR.hide {m : M} {o : HO} (h : HR K mg ι H m) (hn : H D0 = none) (hw : NT o := by intro _ h; cases h) : HR K (mg.1, D0 :: mg.2) ι (upd H D0 o) m := by
  have hF : ∀ a ∈ D0 :: mg.2, a ∈ mg.2 ∨ H a = none := fun a ha => by
    rcases List.mem_cons.mp ha with q | q
    · exact .inr (by rw [q]; exact hn)
    · exact .inl q
  refine ⟨h.len, h.nd, fun a ha => ?_, LamX.Tabs.ext h.tb (fun b o q => by rw [upd_ne (ne_of_none q hn)]; exact q), fun n a c h1 h2 => ?_⟩
  · by_cases e : a = D0
    · exact ⟨o, hw, by rw [e, upd_same]⟩
    · rw [upd_ne e]
      rcases List.mem_cons.mp ha with q | q
      · exact absurd q e
      · exact h.fd a q
  · exact ((h.at' n a c h1 h2).grow hF).mono (Ext.side hn) fun o' q => by rw [upd_ne (ne_of_none q hn)]; exact q
theorem growD (hn : H D0 = none) : ∀ a ∈ D0 :: mg.2, a ∈ mg.2 ∨ H a = none := fun a ha => by
  rcases List.mem_cons.mp ha with q | q
  · exact .inr (by rw [q]; exact hn)
  · exact .inl q
/-- the side's address at the end -/
theorem HR.less {m : M} (h : HR K (mg.1, D0 :: mg.2) ι H m) : HR K mg ι H m := HR.grow (mg := (mg.1, D0 :: mg.2)) (F' := mg.2) (fun a ha => .inl (List.mem_cons_of_mem D0 ha)) (fun a ha => h.fd a (List.mem_cons_of_mem D0 ha)) h
theorem RepL.less {ds : List D} {vs : List V} (h : RepL K (mg.1, D0 :: mg.2) ι H ds vs) : RepL K mg ι H ds vs := RepL.grow (mg := (mg.1, D0 :: mg.2)) (F' := mg.2) (fun a ha => .inl (List.mem_cons_of_mem D0 ha)) h
/-! the side's address becomes a cell -/
mutual
theorem Rep.track {F : List Addr} {a0 : Str → Option Value} {o : HO} (h0 : H D0 = some o) (hx : (∀ p, o ≠ .ext p) ∧ ∀ p, o ≠ .xd p) : ∀ {d : D} {v : V}, Rep K (a0, D0 :: F) ι H d v → Rep K (a0, F) (ι ++ [D0]) H d v
  | _, _, .non => .non
  | _, _, .bl b => .bl b
  | _, _, .int i => .int i
  | _, _, .str x => .str x
  | _, _, .tup h r => .tup h (RepL.track h0 hx r)
  | _, _, .ref h => .ref (by rw [List.getElem?_append_left (List.getElem?_eq_some_iff.mp h).1]; exact h)
  | _, _, .glo h => .glo h
  | _, _, .ty n => .ty n
  | _, _, .fl h r => .fl h (RepL.track h0 hx r)
  | _, _, .sl n h r => .sl (fun q => n (by
      rcases List.mem_append.mp q with q | q
      · rcases List.mem_append.mp q with q | q
        · exact List.mem_append_left _ q
        · exact List.mem_append_right _ (by rw [List.mem_singleton.mp q]; exact List.mem_cons_self)
      · exact List.mem_append_right _ (List.mem_cons_of_mem _ q))) h (RepL.track h0 hx r)
  | _, _, .exc c na nd ha hd r => .exc c (fun q => by
      rcases List.mem_append.mp q with q | q
      · exact na q
      · rw [List.mem_singleton.mp q, h0] at ha; cases ha; exact hx.1 _ rfl) (fun q => by
      rcases List.mem_append.mp q with q | q
      · exact nd q
      · rw [List.mem_singleton.mp q, h0] at hd; cases hd; exact hx.1 _ rfl) ha hd (RepL.track h0 hx r)
  | _, _, .ex0 c na ha => .ex0 c (fun q => by
      rcases List.mem_append.mp q with q | q
      · exact na q
      · rw [List.mem_singleton.mp q, h0] at ha; cases ha; exact hx.1 _ rfl) ha
  | _, _, .cau n h r => .cau (fun q => by
      rcases List.mem_append.mp q with q | q
      · exact n q
      · rw [List.mem_singleton.mp q, h0] at h; cases h; exact hx.2 _ rfl) h (RepL.track h0 hx r)
  | _, _, .kt h r => .kt h (RepL.track h0 hx r)
theorem RepL.track {F : List Addr} {a0 : Str → Option Value} {o : HO} (h0 : H D0 = some o) (hx : (∀ p, o ≠ .ext p) ∧ ∀ p, o ≠ .xd p) : ∀ {ds : List D} {vs : List V}, RepL K (a0, D0 :: F) ι H ds vs → RepL K (a0, F) (ι ++ [D0]) H ds vs
  | _, _, .nil => .nil
  | _, _, .cons h r => .cons (Rep.track h0 hx h) (RepL.track h0 hx r)
end
theorem HR.track {F : List Addr} {a0 : Str → Option Value} {m : M} {o : HO} {c : Cell} (h : HR K (a0, D0 :: F) ι H m) (hi : D0 ∉ ι) (h0 : H D0 = some o) (hx : (∀ p, o ≠ .ext p) ∧ ∀ p, o ≠ .xd p) (hc : CellRep K (a0, F) (ι ++ [D0]) H D0 c) : HR K (a0, F) (ι ++ [D0]) H (m ++ [c]) := by
  refine ⟨by simp [h.len], ?_, fun a ha => h.fd a (List.mem_cons_of_mem _ ha), h.tb, fun n a c' h1 h2 => ?_⟩
  · rw [List.nodup_append]
    refine ⟨h.nd, by simp, fun x hx y hy e => ?_⟩
    rw [List.mem_singleton.mp hy] at e
    subst e
    exact hi hx
  · by_cases hn : n < ι.length
    · rw [List.getElem?_append_left hn] at h1
      rw [List.getElem?_append_left (by rw [← h.len]; exact hn)] at h2
      cases h.at' n a c' h1 h2 with
      | lst h r => exact .lst h (r.track h0 hx)
      | dK h r => exact .dK h (paired_mono (fun _ _ ⟨x, y⟩ => ⟨x, y.track h0 hx⟩) r)
      | dT h r => exact .dT h (paired_mono (fun _ _ ⟨x, y⟩ => ⟨x, y.track h0 hx⟩) r)
      | ins hc h r => exact .ins hc h (paired_mono (fun _ _ ⟨x, y⟩ => ⟨x, y.track h0 hx⟩) r)
    · rw [List.getElem?_append_right (by omega)] at h1
      rw [List.getElem?_append_right (by rw [← h.len]; omega)] at h2
      have z : n - ι.length = 0 := by
        cases q : n - ι.length with
        | zero => rfl
        | succ k => rw [q] at h1; simp at h1
      rw [z] at h1
      rw [← h.len, z] at h2
      simp at h1 h2
      subst h1; subst h2
      exact hc
theorem Ext.newCell (e : Ext ι H ι' H') (hn : H D0 = none) : Ext ι H (ι' ++ [D0]) H' := by
  obtain ⟨t, rfl, ht⟩ := e.pre
  refine ⟨⟨t ++ [D0], by rw [List.append_assoc], fun a ha => ?_⟩, e.tup, e.frz, e.fr, e.dom⟩
  rcases List.mem_append.mp ha with q | q
  · exact ht a q
  · intro o z
    rw [List.mem_singleton.mp q, hn] at z; cases z
end
/-! targets of a comprehension's own names -/
section
variable (K : PySem.W.Frag) (mg : Str → Option Value) (own : List Nat)
def tGo (g : GF) : TG := fun v σ H Q => ∃ F ι ρ m d, EnvR K (mg, F) ι H ρ σ ∧ HR K (mg, F) ι H m ∧ Rep K (mg, F) ι H d v ∧ PostG K (mg, F) ι H (fun σ' H' => wipe σ' own = wipe σ own → Q σ' H') (g d ρ m)
def tGso (g : GFs) : TGs := fun vs σ H Q => ∃ F ι ρ m ds, EnvR K (mg, F) ι H ρ σ ∧ HR K (mg, F) ι H m ∧ RepL K (mg, F) ι H ds vs ∧ PostG K (mg, F) ι H (fun σ' H' => wipe σ' own = wipe σ own → Q σ' H') (g ds ρ m)
end
abbrev ZGo (X : Cx) (own : List Nat) (e : Expr) (g : GF) : Prop := PG X e (tGo X.K X.mg own g)
abbrev ZGso (X : Cx) (own : List Nat) (e : List Expr) (g : GFs) : Prop := PGs X e (tGso X.K X.mg own g)
section
variable {X : Cx} {pos : Pos} {own : List Nat}
theorem zgo_name {i : Nat} {x : Str} (hN : X.N.Nodup) (hi : X.N[i]? = some x) (hx : Loc X.env.scope x) (hf : X.fn x = true ∨ X.env.scope.names.lookup x = some .local := by first | exact .inl rfl | exact .inr rfl | assumption) (ho : i ∈ own := by decide) : ZGo X own (.Name x pos) (gNm i) :=
  PG.imp (pg_name hN hi hx hf) fun v σ H Q ⟨F, ι, ρ, m, d, hρ, hm, hd, hp⟩ => hp ι H _ .refl hm (hρ.set i hd) (wipe_set σ _ own i ho)
theorem zgso_nil : ZGso X own [] gsNil := PGs.imp pgs_nil fun vs σ H Q ⟨F, ι, ρ, m, ds, hρ, hm, hd, hp⟩ => by
  cases hd with
  | nil => exact ⟨rfl, hp ι H _ .refl hm hρ rfl⟩
  | cons _ _ => exact hp.elim
theorem zgso_cons {e : Expr} {es : List Expr} {g : GF} {u : GFs} (h1 : ZGo X own e g) (h2 : ZGso X own es u)
    (hs : (assignEach (e :: es) X.env).map (·.2) = assign e X.env :: (assignEach es X.env).map (·.2) := by rfl) : ZGso X own (e :: es) (gsCons g u) := PGs.imp (pgs_cons h1 h2 hs) fun vs σ H Q ⟨F, ι, ρ, m, ds, hρ, hm, hd, hp⟩ => by
  cases hd with
  | nil => exact hp.elim
  | @cons d v ds vs r rs =>
    refine ⟨v, vs, rfl, F, ι, ρ, m, d, hρ, hm, r, ?_⟩
    have hp : PostG X.K (X.mg, F) ι H (fun σ' H' => wipe σ' own = wipe σ own → Q σ' H') ((g d ρ m).bind fun p => u ds p.1 p.2) := hp
    cases q : g d ρ m with
    | none => rw [q] at hp; exact hp
    | some p =>
      rw [q] at hp
      exact fun ι' H' σ' e h1 h2 hw => ⟨F, ι', p.1, p.2, ds, h2, h1, rs.mono e, by rw [hw]; exact PostG.shift e hp⟩
theorem zgo_tup {es : List Expr} {k : Nat} {g : GFs} {n : Nat} (hc : X.calm = true) (h : ZGso X own es g)
    (hn : (assignEach es X.env).length = n := by rfl) (hst : (assignEach es X.env).findIdx? (·.1) = none := by rfl) : ZGo X own (.Tuple es k pos) (gTp n g) := PG.imp (pg_tup hc h hn hst) fun v σ H Q ⟨F, ι, ρ, m, d, hρ, hm, hd, hp⟩ => by
  cases hd with
  | tup hs hr =>
    have hp : PostG X.K (X.mg, F) ι H (fun σ' H' => wipe σ' own = wipe σ own → Q σ' H') (if _ = n then _ else none) := hp
    split at hp
    · rename_i hl
      exact ⟨_, _, rfl, .of hs, by rw [← hr.length]; exact hl, F, ι, ρ, m, _, hρ, hm, hr, hp⟩
    · exact hp.elim
  | _ => exact hp.elim
end
abbrev WN : WX := fun _ _ _ _ => False
abbrev ZTs (X : Cx) (ifs : List Expr) (f : TF) : Prop := PTs X ifs (tT X.K X.mg WN f)
section
variable {X : Cx}
def PTs.imp {X : Cx} {e : List Expr} {t t' : TT} (h : PTs X e t) (i : ∀ σ H Q, t' σ H Q → t σ H Q) : PTs X e t' := ⟨fun pins s σ H Q I q => h.run pins s σ H Q I (i _ _ _ q)⟩
theorem zts_nil : ZTs X [] tYesF := PTs.imp pts_nil fun σ H Q ⟨F, ι, ρ, m, hρ, hm, hp⟩ => hp.okI hm rfl
theorem zts_one {c : Expr} {f : TF} (h : ZT X WN c f) : ZTs X [c] f := pts_one h
end
/-- what a comprehension reads -/
theorem lc_run {K : PySem.W.Frag} {mg : Str → Option Value} {W : WX} {it : IF} {own : List Nat} {g : GF} {tt : TF} {f : EF} {σ : L2.St} {H : Hp} {Q : VK}
    (fin : ∀ F ι H (m : M) (xs : List D), Prop)
    (hfin : ∀ F ι H0 ι' H' m xs vs D0, fin F ι H0 m xs → H0 D0 = none → Ext ι H0 ι' H' → D0 ∉ ι' → D0 ∉ F → HR K (mg, D0 :: F) ι' H' m → H' D0 = some (.lst vs) → RepL K (mg, D0 :: F) ι' H' xs vs → Q (.ref D0) H')
    (q : ∃ F ι ρ m, EnvR K (mg, F) ι H ρ σ ∧ HR K (mg, F) ι H m ∧ Post K (mg, F) (relI K (mg, F)) (fun c d H' => W c d σ H') ι H (fun J H1 => ∃ ι1 z m1, Ext ι H ι1 H1 ∧ HR K (mg, F) ι1 H1 m1 ∧ relI K (mg, F) ι1 H1 z J ∧
      OkI (fun xs m2 => fin F ι1 H1 m2 xs) (lcN z.nxt g tt f z.fuel 0 (wipeR ρ own) [] m1)) (it ρ m)) :
    tLc (tI K mg W it) (tGo K mg own g) (tT K mg WN tt) (tE K mg WN f) own σ H Q := by
  obtain ⟨F, ι, ρ, m, hρ, hm, hp⟩ := q
  refine ⟨F, ι, ρ, m, hρ, hm, ?_⟩
  cases hit : it ρ m with
  | bad => rw [hit] at hp; exact hp
  | err x m1 => rw [hit] at hp; exact hp
  | ok z0 m0 =>
  rw [hit] at hp
  intro ι0 H1 J e0 h0 r0
  obtain ⟨ι1, z, m1, e1, h1, r1, hp1⟩ := hp ι0 H1 J e0 h0 r0
  intro D0 hD
  have hDi : D0 ∉ ι1 := fun h => by
    obtain ⟨o, q⟩ := h1.mem h
    rw [hD] at q; cases q
  have hDF : D0 ∉ F := fun h => by
    obtain ⟨o, _, q⟩ := h1.fd D0 h
    rw [hD] at q; cases q
  refine ⟨fun i n H2 => ∃ ι2 m2 acc vs, Ext ι1 H1 ι2 H2 ∧ D0 ∉ ι2 ∧ H2 D0 = some (.lst vs) ∧ HR K (mg, D0 :: F) ι2 H2 m2 ∧ RepL K (mg, D0 :: F) ι2 H2 acc vs ∧ EnvR K (mg, D0 :: F) ι2 H2 (wipeR ρ own) (wipe σ own) ∧
    OkI (fun xs m2 => fin F ι1 H1 m2 xs) (lcN z.nxt g tt f n i (wipeR ρ own) acc m2), ⟨z.fuel, ι1, m1, [], [], (Ext.refl).hide hD, hDi, upd_same, HR.hide (mg := (mg, F)) h1 hD, .nil, ?_, hp1⟩, ?_⟩
  · exact (((hρ.mono e1).grow (growD (mg := (mg, F)) hD)).mono (Ext.side hD)).wipe own
  rintro i n H2 ⟨ι2, m2, acc, vs, e2, d2, hd2, h2, ra, hρ2, hp2⟩
  obtain ⟨rs, rg⟩ := r1 i (D0 :: F) ι2 H2 m2 (growD (mg := (mg, F)) hD) e2 h2
  cases n with
  | zero => exact hp2.elim
  | succ n =>
    unfold lcN at hp2
    match hn : z.nxt i m2 with
    | none => rw [hn] at hp2; exact hp2.elim
    | some none =>
      rw [hn] at hp2
      exact .inl ⟨rs hn, hfin F ι1 H1 ι2 H2 m2 acc vs D0 hp2 hD e2 d2 hDF h2 hd2 ra⟩
    | some (some d) =>
      rw [hn] at hp2
      dsimp only at hp2
      obtain ⟨hgo, hy⟩ := rg d hn
      refine .inr ⟨hgo, fun H' => ∃ ι2 m2 acc vs, Ext ι1 H1 ι2 H' ∧ D0 ∉ ι2 ∧ H' D0 = some (.lst vs) ∧ HR K (mg, D0 :: F) ι2 H' m2 ∧ RepL K (mg, D0 :: F) ι2 H' acc vs ∧ EnvR K (mg, D0 :: F) ι2 H' (wipeR ρ own) (wipe σ own) ∧
        OkI (fun xs m2 => fin F ι1 H1 m2 xs) (lcN z.nxt g tt f n (i + 1) (wipeR ρ own) acc m2), fun H' hN => ⟨n, Nat.lt_succ_self n, hN⟩, fun x H3 hx => ?_⟩
      obtain ⟨e3, h3, r3⟩ := hy x H3 hx
      refine ⟨D0 :: F, ι2, wipeR ρ own, m2, d, hρ2.mono e3, h3, r3, ?_⟩
      cases qg : g d (wipeR ρ own) m2 with
      | none => rw [qg] at hp2; exact hp2.elim
      | some p =>
        obtain ⟨ρ4, m4⟩ := p
        rw [qg] at hp2
        dsimp only at hp2
        intro ι4 H4 σ4 e4 h4 hρ4 hw
        refine ⟨hw.trans (wipe_idem σ own own fun _ h => h), D0 :: F, ι4, ρ4, m4, hρ4, h4, ?_⟩
        cases qt : tt ρ4 m4 with
        | bad => rw [qt] at hp2; exact hp2.elim
        | err x5 m5 => rw [qt] at hp2; exact hp2.elim
        | ok b m5 =>
          rw [qt] at hp2
          intro ι5 H5 b' e5 h5 hb
          cases hb
          have e25 : Ext ι2 H2 ι5 H5 := e3.trans (e4.trans e5)
          have d5 : D0 ∉ ι5 := e25.out nt_lst d2 hd2
          have hd5 : H5 D0 = some (.lst vs) := e25.fr _ _ nt_lst d2 hd2
          cases b with
          | false => exact iteF ⟨ι5, m5, acc, vs, e2.trans e25, d5, hd5, h5, ra.mono e25, hρ2.mono e25, hp2⟩
          | true =>
            dsimp only at hp2
            refine iteT ⟨D0 :: F, ι5, ρ4, m5, hρ4.mono e5, h5, ?_⟩
            cases qf : f ρ4 m5 with
            | bad => rw [qf] at hp2; exact hp2.elim
            | err x6 m6 => rw [qf] at hp2; exact hp2.elim
            | ok y m6 =>
              rw [qf] at hp2
              intro ι6 H6 v e6 h6 r6
              have e26 : Ext ι2 H2 ι6 H6 := e25.trans e6
              have d6 : D0 ∉ ι6 := e26.out nt_lst d2 hd2
              have hd6 : H6 D0 = some (.lst vs) := e26.fr _ _ nt_lst d2 hd2
              dsimp only at hp2
              by_cases hl : acc.length < line
              · rw [if_pos hl] at hp2
                have hM : D0 ∈ ((mg, D0 :: F) : G).2 := List.mem_cons_self
                have hL : (∃ xs, HO.lst vs = .lst xs) ∨ (∃ xs, HO.lst vs = .dK xs) ∨ ∃ xs, HO.lst vs = .dT xs := .inl ⟨vs, rfl⟩
                refine ⟨vs, hd6, by rw [line_eq, ← ra.length]; exact hl, ι6, m6, acc ++ [y], vs ++ [v], (e2.trans e26).hide hD, d6, upd_same, h6.aside hM d6 hd6 hL, ?_, (hρ2.mono e26).aside hM d6 hd6 hL, hp2⟩
                exact RepL.append ((ra.mono e26).aside hM d6 hd6 hL) (.cons (r6.aside hM d6 hd6 hL) .nil)
              · rw [if_neg hl] at hp2
                exact hp2.elim
section
variable {X : Cx} {W : WX}
theorem lcN_noerr {nxt : Nat → M → Option (Option D)} {g : GF} {tt : TF} {f : EF} : ∀ (n i : Nat) (ρ : Rho) (acc : List D) (m : M) x m', lcN nxt g tt f n i ρ acc m ≠ .err x m'
  | 0, _, _, _, _, _, _, h => by cases h
  | n + 1, i, ρ, acc, m, x, m', h => by
    unfold lcN at h
    split at h
    · cases h
    · cases h
    · split at h
      · cases h
      · split at h
        · split at h
          · split at h
            · exact lcN_noerr n _ _ _ _ _ _ h
            · cases h
          · cases h
        · exact lcN_noerr n _ _ _ _ _ _ h
        · cases h
theorem lcPost {K : PySem.W.Frag} {mg : Str → Option Value} {E : XK} {ι : List Addr} {H : Hp} {F : List Addr} {Q : VK} {r : R Itz} {ρ : Rho} {own : List Nat} {g : GF} {tt : TF} {f : EF} {k : List D → M → R D}
    (hp : Post K (mg, F) (relE K (mg, F)) E ι H Q (r.bind fun z m1 => (lcN z.nxt g tt f z.fuel 0 (wipeR ρ own) [] m1).bind k)) :
    Post K (mg, F) (relI K (mg, F)) E ι H (fun J H1 => ∃ ι1 z m1, Ext ι H ι1 H1 ∧ HR K (mg, F) ι1 H1 m1 ∧ relI K (mg, F) ι1 H1 z J ∧
      OkI (fun xs m2 => Post K (mg, F) (relE K (mg, F)) E ι1 H1 Q (k xs m2)) (lcN z.nxt g tt f z.fuel 0 (wipeR ρ own) [] m1)) r := by
  refine Post.seq hp fun z m1 ι1 H1 J _ e1 h1 r1 hp1 => ⟨ι1, z, m1, e1, h1, r1, ?_⟩
  cases q : lcN z.nxt g tt f z.fuel 0 (wipeR ρ own) [] m1 with
  | ok xs m2 => rw [q] at hp1; exact hp1
  | err x m2 => exact (lcN_noerr _ _ _ _ _ _ _ q).elim
  | bad => rw [q] at hp1; exact hp1
theorem Post.mono {α β : Type} {K : PySem.W.Frag} {mg : G} {rel : Relt α β} {E : XK} {ι : List Addr} {H : Hp} {Q Q' : β → Hp → Prop} {r : R α} (h : Post K mg rel E ι H Q r) (i : ∀ b H', Q b H' → Q' b H') : Post K mg rel E ι H Q' r := by
  cases r with
  | ok a m => exact fun ι' H' b e h1 h2 => i _ _ (h ι' H' b e h1 h2)
  | err x m => exact h
  | bad => exact h
theorem lcS {it : IF} {own : List Nat} {g : GF} {tt : TF} {f : EF} {K : PySem.W.Frag} {mg : Str → Option Value} {σ : L2.St} {H : Hp} {Q : VK} (q : tE K mg W (eLc it own g tt f) σ H Q) : tLc (tI K mg W it) (tGo K mg own g) (tT K mg WN tt) (tE K mg WN f) own σ H Q := by
  obtain ⟨F, ι, ρ, m, hρ, hm, hp⟩ := q
  refine lc_run (fun F ι H m xs => Post K (mg, F) (relE K (mg, F)) (fun c d H' => W c d σ H') ι H Q (.ok (.sl xs) m)) ?_ ⟨F, ι, ρ, m, hρ, hm, (lcPost hp).mono fun J H1 ⟨ι1, z, m1, e1, h1, r1, q⟩ => ⟨ι1, z, m1, e1, h1, r1, q⟩⟩
  intro F ι H0 ι' H' m xs vs D0 hp hD e hi hF hm hd r
  refine hp ι' H' _ e (HR.less (mg := (mg, F)) hm) (.sl (fun q => ?_) hd (RepL.less (mg := (mg, F)) r))
  rcases List.mem_append.mp q with q | q
  · exact hi q
  · exact hF q
theorem lcC {it : IF} {own : List Nat} {g : GF} {tt : TF} {f : EF} {K : PySem.W.Frag} {mg : Str → Option Value} {σ : L2.St} {H : Hp} {Q : VK} (q : tE K mg W (eLcC it own g tt f) σ H Q) : tLc (tI K mg W it) (tGo K mg own g) (tT K mg WN tt) (tE K mg WN f) own σ H Q := by
  obtain ⟨F, ι, ρ, m, hρ, hm, hp⟩ := q
  refine lc_run (fun F ι H m xs => Post K (mg, F) (relE K (mg, F)) (fun c d H' => W c d σ H') ι H Q (.ok (.ref m.length) (m ++ [.lst xs]))) ?_ ⟨F, ι, ρ, m, hρ, hm, (lcPost hp).mono fun J H1 ⟨ι1, z, m1, e1, h1, r1, q⟩ => ⟨ι1, z, m1, e1, h1, r1, q⟩⟩
  intro F ι H0 ι' H' m xs vs D0 hp hD e hi hF hm hd r
  refine hp (ι' ++ [D0]) H' _ (e.newCell hD) (hm.track hi hd ⟨fun p q => (by cases q), fun p q => (by cases q)⟩ (.lst hd (r.track hd ⟨fun p q => (by cases q), fun p q => (by cases q)⟩))) (.ref ?_)
  rw [← hm.len]; simp
variable {elt tg iter : Expr} {ifs : List Expr} {scope : Scope} {own : List (Str × Nat)} {pos : Pos} {it : IF} {g : GF} {tt : TF} {f : EF}
theorem z_lc (hc : X.calm = true) (hN : X.N.Nodup) (hi : ZI X W tg iter it) (ok : BlkOk X.N X.env.scope scope own)
    (hg : ∀ (s : Shared) (H : Hp) (C : Addr) (cl : List (Str × Addr)) (fp : List Addr), ZGo (X.blk s H scope (compEnvC scope cl C X.env) fp) (own.map (·.2)) tg g)
    (ht : ∀ (s : Shared) (H : Hp) (C : Addr) (cl : List (Str × Addr)) (fp : List Addr), ZTs (X.blk s H scope (compEnvC scope cl C X.env) fp) ifs tt)
    (he : ∀ (s : Shared) (H : Hp) (C : Addr) (cl : List (Str × Addr)) (fp : List Addr), ZE (X.blk s H scope (compEnvC scope cl C X.env) fp) WN elt f)
    (hs : ∀ x, foldedSetIterable iter X.env x = pure x := by intro _; rfl) : ZE X W (.ListComp elt [⟨tg, iter, ifs, 0⟩] scope pos) (eLc it (own.map (·.2)) g tt f) :=
  PE.imp (pe_lc hc hN hi ok hg ht he hs) fun σ H Q q => lcS q
theorem z_lcC (hc : X.calm = true) (hN : X.N.Nodup) (hi : ZI X W tg iter it) (ok : BlkOk X.N X.env.scope scope own)
    (hg : ∀ (s : Shared) (H : Hp) (C : Addr) (cl : List (Str × Addr)) (fp : List Addr), ZGo (X.blk s H scope (compEnvC scope cl C X.env) fp) (own.map (·.2)) tg g)
    (ht : ∀ (s : Shared) (H : Hp) (C : Addr) (cl : List (Str × Addr)) (fp : List Addr), ZTs (X.blk s H scope (compEnvC scope cl C X.env) fp) ifs tt)
    (he : ∀ (s : Shared) (H : Hp) (C : Addr) (cl : List (Str × Addr)) (fp : List Addr), ZE (X.blk s H scope (compEnvC scope cl C X.env) fp) WN elt f)
    (hs : ∀ x, foldedSetIterable iter X.env x = pure x := by intro _; rfl) : ZE X W (.ListComp elt [⟨tg, iter, ifs, 0⟩] scope pos) (eLcC it (own.map (·.2)) g tt f) :=
  PE.imp (pe_lc hc hN hi ok hg ht he hs) fun σ H Q q => lcC q
end
end Z

namespace Z
open PySem PySem.Spec PyProof.Rows L2

/-! ### stores under a subscript -/
def oSet (o i v : D) (m : M) : Option M := match o with
  | .ref n => match m[n]? with
    | some (.lst xs) => match i with
      | .int k => (ixD xs.length k).map fun j => m.set n (.lst (xs.set j v))
      | _ => none
    | some (.dic kvs) => if (keyFits kvs i && decide (kvs.length < line)) = true then some (m.set n (.dic (putD kvs i v))) else none
    | _ => none
  | _ => none
/-- an empty dict's kind turned, or nothing -/
def Turn (H : Hp) (a : Addr) (H' : Hp) : Prop := H' = H ∨ (H a = some (.dK []) ∧ H' = upd H a (.dT [])) ∨ (H a = some (.dT []) ∧ H' = upd H a (.dK []))
def rSt : TSet := fun o i v H Q => rSetL o i v H Q ∨ ∃ a H1 H2, o = .ref a ∧ Turn H a H1 ∧ DPut H1 a i v H2 ∧ Q H2
theorem set_st {X : Cx} (hu : X.A.units + 64 < cLine) : PSet X rSt := fun pins s σ H o i v ov iv u Q I ro ri rv q => by
  rcases q with q | ⟨a, H1, H2, rfl, ht, hp, q⟩
  · exact set_list pins s σ H o i v ov iv u Q I ro ri rv q
  · have I1 : Inv X pins σ H1 s := by
      rcases ht with rfl | ⟨e, rfl⟩ | ⟨e, rfl⟩
      · exact I
      · exact toT I e
      · exact toK I e
    cases ro
    exact d_setItem (by omega) I1 hp ri rv fun s' I' => ⟨H2, I', q⟩
section
variable {K : PySem.W.Frag} {mg : G} {ι : List Addr} {H : Hp} {m m' : M}
theorem put_rep (hm : HR K mg ι H m) {n : Nat} {a : Addr} {kvs : List (D × D)} {k x : D} {y v : V} (e : ι[n]? = some a) (hc : m[n]? = some (.dic kvs)) (r : Rep K mg ι H k y) (rx : Rep K mg ι H x v) (hf : keyFits kvs k = true) (hl : kvs.length < line) :
    ∃ H1 H2, Turn H a H1 ∧ DPut H1 a y v H2 ∧ Ext ι H ι H2 ∧ HR K mg ι H2 (m.set n (.dic (putD kvs k x))) := by
  unfold keyFits at hf
  rw [Bool.and_eq_true] at hf
  obtain ⟨hk, hf⟩ := hf
  have two : (∃ q, keyOf k = some q) ∨ ∃ qs, keyT k = some qs := by
    unfold keyU at hk
    cases e1 : keyOf k with
    | some q => exact .inl ⟨q, rfl⟩
    | none =>
      rw [e1] at hk
      cases e2 : keyT k with
      | some qs => exact .inr ⟨qs, rfl⟩
      | none => rw [e2] at hk; cases hk
  obtain ⟨c, hc', cr⟩ := hm.lt e
  have ex : ∀ (o : HO) (ho : NT o := by intro _ h; cases h), Ext ι H ι (upd H a o) := fun o ho => Ext.write hm e cr.notup.1 cr.notup.2 ho
  have bne : ∀ {b : Addr} {vs : List V}, H b = some (.tup vs) → b ≠ a := fun hb z => by subst z; exact cr.notup.1 _ hb
  rcases dic_at hm e hc with ⟨ws, h1, r1⟩ | ⟨ws, h1, r1⟩
  · have lw : kvs.length = ws.length := by
      clear h1 hc hf hl; induction r1 with
      | nil => rfl
      | cons _ _ ih => simp [ih]
    rcases two with ⟨q, hq⟩ | ⟨qs, hq⟩
    · have ey := kV_of r hq
      subst ey
      refine ⟨H, upd H a (.dK (putK ws q v)), .inl rfl, .inl ⟨ws, q, h1, rfl, by rw [line_eq, ← lw]; exact hl, rfl⟩, ex _, hm.write e (ex _) (.dK upd_same ?_)⟩
      exact paired_mono (fun _ _ ⟨z1, z2⟩ => ⟨z1, z2.mono (ex _)⟩) (putD_K r1 hq rx)
    · cases r1 with
      | nil =>
        obtain ⟨b, rfl, hb⟩ := keyT_at r hq
        have hab := bne hb
        refine ⟨upd H a (.dT []), upd H a (.dT (putK [] qs v)), .inr (.inl ⟨h1, rfl⟩), .inr ⟨[], qs, b, upd_same, rfl, by rw [upd_ne hab]; exact hb, by decide, ?_⟩, ex _, hm.write e (ex _) (.dT upd_same ?_)⟩
        · funext z
          by_cases hz : z = a
          · subst hz; rw [upd_same, upd_same]
          · rw [upd_ne hz, upd_ne hz, upd_ne hz]
        · exact paired_mono (fun _ _ ⟨z1, z2⟩ => ⟨z1, z2.mono (ex _)⟩) (putD_T .nil hq rx)
      | cons hpq t =>
        exfalso
        simp only [isT, keyOf_T hpq.1, hq] at hf
        cases hf
  · have lw : kvs.length = ws.length := by
      clear h1 hc hf hl; induction r1 with
      | nil => rfl
      | cons _ _ ih => simp [ih]
    rcases two with ⟨q, hq⟩ | ⟨qs, hq⟩
    · cases r1 with
      | nil =>
        have ey := kV_of r hq
        subst ey
        refine ⟨upd H a (.dK []), upd H a (.dK (putK [] q v)), .inr (.inr ⟨h1, rfl⟩), .inl ⟨[], q, upd_same, rfl, by decide, ?_⟩, ex _, hm.write e (ex _) (.dK upd_same ?_)⟩
        · funext z
          by_cases hz : z = a
          · subst hz; rw [upd_same, upd_same]
          · rw [upd_ne hz, upd_ne hz, upd_ne hz]
        · exact paired_mono (fun _ _ ⟨z1, z2⟩ => ⟨z1, z2.mono (ex _)⟩) (putD_K .nil hq rx)
      | cons hpq t =>
        exfalso
        simp only [isT, hpq.1, keyOf_T hq] at hf
        cases hf
    · obtain ⟨b, rfl, hb⟩ := keyT_at r hq
      refine ⟨H, upd H a (.dT (putK ws qs v)), .inl rfl, .inr ⟨ws, qs, b, h1, rfl, hb, by rw [line_eq, ← lw]; exact hl, rfl⟩, ex _, hm.write e (ex _) (.dT upd_same ?_)⟩
      exact paired_mono (fun _ _ ⟨z1, z2⟩ => ⟨z1, z2.mono (ex _)⟩) (putD_T r1 hq rx)
theorem set_rep (hm : HR K mg ι H m) {o i d : D} {vo vi v : V} (ro : Rep K mg ι H o vo) (ri : Rep K mg ι H i vi) (rv : Rep K mg ι H d v) (h : oSet o i d m = some m') : ∃ H', Ext ι H ι H' ∧ HR K mg ι H' m' ∧ ∀ Q, Q H' → rSt vo vi v H Q := by
  unfold oSet at h
  split at h
  · rename_i n
    cases ro with
    | @ref _ a e =>
    split at h
    · rename_i xs hc
      split at h
      · rename_i k
        cases ri
        obtain ⟨j, hj, rfl⟩ := Option.map_eq_some_iff.mp h
        obtain ⟨vs, h1, r1⟩ := lst_at hm e hc
        obtain ⟨c, hc', cr⟩ := hm.lt e
        have ex : Ext ι H ι (upd H a (.lst (vs.set j v))) := Ext.write hm e cr.notup.1 cr.notup.2
        exact ⟨_, ex, hm.write e ex (.lst upd_same ((r1.setAt rv j).mono ex)), fun Q q => .inl ⟨a, vs, k, j, rfl, rfl, h1, by rw [← r1.length]; exact hj, q⟩⟩
      · cases h
    · rename_i kvs hc
      split at h
      · rename_i hf
        cases h
        rw [Bool.and_eq_true] at hf
        obtain ⟨H1, H2, t, p, ex, h2⟩ := put_rep hm e hc ri rv hf.1 (of_decide_eq_true hf.2)
        exact ⟨H2, ex, h2, fun Q q => .inr ⟨a, H1, H2, rfl, t, p, q⟩⟩
      · cases h
    · cases h
  · cases h
end
def gSubZ (fo fi : EF) : GF := fun d ρ m => match fo ρ m with
  | .ok o m1 => match fi ρ m1 with
    | .ok i m2 => (oSet o i d m2).map fun m3 => (ρ, m3)
    | _ => none
  | _ => none
section
variable {X : Cx} {W : WX} {pos : Pos} {o i e : Expr} {fo fi f : EF}
theorem zg_sub (hu : X.A.units + 64 < cLine) (ho : ZE X W o fo) (hi : ZE X W i fi) (ha : ∀ (v : Value), assign (o.Subscript i pos) X.env v = (do
      let ov ← holding [v] (eval o X.env)
      let iv ← holding [v, ov] (eval i X.env)
      standAt pos
      holding [v, ov, iv] (setItem ov iv v)
      release [v, ov, iv] []) := by intro _; rfl) : ZG X (.Subscript o i pos) (gSubZ fo fi) :=
  PG.imp (pg_sub ho hi (set_st hu) ha) fun v σ H Q ⟨F, ι, ρ, m, d, hρ, hm, hd, hp⟩ => by
    unfold gSubZ at hp
    refine ⟨F, ι, ρ, m, hρ, hm, ?_⟩
    cases q1 : fo ρ m with
    | bad => rw [q1] at hp; exact hp.elim
    | err x m1 => rw [q1] at hp; exact hp.elim
    | ok ov m1 =>
      rw [q1] at hp
      intro ι1 H1 v1 e1 h1 r1
      refine ⟨F, ι1, ρ, m1, hρ.mono e1, h1, ?_⟩
      dsimp only at hp
      cases q2 : fi ρ m1 with
      | bad => rw [q2] at hp; exact hp.elim
      | err x m2 => rw [q2] at hp; exact hp.elim
      | ok iv m2 =>
        rw [q2] at hp
        intro ι2 H2 v2 e2 h2 r2
        dsimp only at hp
        cases q3 : oSet ov iv d m2 with
        | none => rw [q3] at hp; exact hp.elim
        | some m3 =>
          rw [q3] at hp
          obtain ⟨H3, e3, h3, k⟩ := set_rep h2 (r1.mono e2) r2 (hd.mono (e1.trans e2)) q3
          exact k _ (hp ι2 H3 σ (e1.trans (e2.trans e3)) h3 (hρ.mono (e1.trans (e2.trans e3))))
/-! ### methods of lists -/
def lstIs (m : M) : D → Bool
  | .ref n => match m[n]? with
    | some (.lst _) => true
    | _ => false
  | _ => false
def eMethL (g : D → List D → M → R D) (fo : EF) (a : AF) : EF := fun ρ m => (fo ρ m).bind fun x m1 => if lstIs m1 x = true then (a ρ m1).bind fun ds m2 => g x ds m2 else .bad
def OpM (X : Cx) (r : V → List V → Hp → VK → Prop) (g : D → List D → M → R D) : Prop := ∀ (F : List Addr) (E : XK) (ι : List Addr) (H : Hp) (m : M) (x : D) (v : V) (xs : List D) (vs : List V) (Q : VK), HR X.K (X.mg, F) ι H m → Rep X.K (X.mg, F) ι H x v → RepL X.K (X.mg, F) ι H xs vs →
  Post X.K (X.mg, F) (relE X.K (X.mg, F)) E ι H Q (g x xs m) → r v vs H Q
theorem lstIs_ty {K : PySem.W.Frag} {mg : G} {ι : List Addr} {H : Hp} {m : M} (hm : HR K mg ι H m) {x : D} {v : V} (r : Rep K mg ι H x v) (h : lstIs m x = true) : tyV K "list" v H := by
  unfold lstIs at h
  split at h
  · rename_i n
    cases r with
    | @ref _ a e =>
      split at h
      · rename_i xs hc
        obtain ⟨vs, h1, r1⟩ := lst_at hm e hc
        exact .inl ⟨rfl, vs, .of h1⟩
      · cases h
  · cases h
theorem z_bmL {es : List Expr} {name : Str} {apos cpos : Pos} {id : String} {r : V → List V → Hp → VK → Prop} {g : D → List D → M → R D} {a : AF} (pa : PlainAttrs "list") (slot : Slot "list" name id) (hty : typeOf (Value.builtin id) = pure (Value.type "method_descriptor")) (hm : MtR X id r) (hz : OpM X r g)
    (ho : ZE X W o fo) (ha : ZA X W (e :: es) a) (h1 : attributeBase o name X.env (eval o X.env) = eval o X.env := by rfl)
    (h2 : (((((backTo cpos (starEach (e :: es) X.env)).all fun x => !x.fst) && (backToKw cpos (keywordEach [] X.env)).all fun x => x.fst.isSome) && decide (((e :: es).length + ([] : List Keyword).length + if ([] : List Keyword).isEmpty = true then 0 else 1) < 30)) = true) := by rfl)
    (h3 : (apos.endLine == cpos.line) = true := by rfl) (h4 : starEach (e :: es) X.env = (false, eval e X.env) :: starEach es X.env := by rfl) (h5 : ((backTo cpos (starEach es X.env)).any fun x => x.fst) = false := by rfl) :
    ZE X W (.Call (.Attribute o name apos) (e :: es) [] cpos) (eMethL g fo a) := by
  refine PE.imp (pe_bm pa slot hty hm ho ha h1 h2 h3 h4 h5) fun σ H Q ⟨F, ι, ρ, m, hρ, hm', hp⟩ => ⟨F, ι, ρ, m, hρ, hm', ?_⟩
  refine Post.seq hp fun d m1 ι1 H1 v _ e1 h1 r1 hp1 => ?_
  split at hp1
  · rename_i hl
    refine ⟨lstIs_ty h1 r1 hl, F, ι1, ρ, m1, hρ.mono e1, h1, ?_⟩
    exact Post.seq hp1 fun ds m2 ι2 H2 vs _ e2 h2 r2 hp2 => hz F _ ι2 H2 m2 d v ds vs Q h2 (r1.mono e2) r2 hp2
  · exact hp1.elim
def mAppend (x : D) (ds : List D) (m : M) : R D := match x, ds with
  | .ref n, [y] => match m[n]? with
    | some (.lst xs) => if xs.length < line then .ok .non (m.set n (.lst (xs ++ [y]))) else .bad
    | _ => .bad
  | _, _ => .bad
theorem opm_append : OpM X rAppend mAppend := fun F E ι H m x v xs vs Q hm rx rs hp => by
  unfold mAppend at hp
  split at hp
  · rename_i n y
    cases rx with
    | @ref _ a e =>
    cases rs with
    | @cons _ v1 _ _ r1 r2 =>
    cases r2
    split at hp
    · rename_i ys hc
      split at hp
      · rename_i hl
        obtain ⟨us, h1, r3⟩ := lst_at hm e hc
        obtain ⟨c, hc', cr⟩ := hm.lt e
        have ex : Ext ι H ι (upd H a (.lst (us ++ [v1]))) := Ext.write hm e cr.notup.1 cr.notup.2
        exact ⟨a, us, v1, rfl, rfl, h1, by rw [line_eq, ← r3.length]; exact hl, hp ι _ _ ex (hm.write e ex (.lst upd_same ((r3.append (.cons r1 .nil)).mono ex))) .non⟩
      · exact hp.elim
    · exact hp.elim
  · exact hp.elim
end
theorem z_append {X : Cx} {W : WX} {o e : Expr} {fo f : EF} {apos cpos : Pos} (ho : ZE X W o fo) (ha : ZE X W e f) (h1 : attributeBase o "append" X.env (eval o X.env) = eval o X.env := by rfl)
    (h2 : (((((backTo cpos (starEach [e] X.env)).all fun x => !x.fst) && (backToKw cpos (keywordEach [] X.env)).all fun x => x.fst.isSome) && decide (([e].length + ([] : List Keyword).length + if ([] : List Keyword).isEmpty = true then 0 else 1) < 30)) = true) := by rfl)
    (h3 : (apos.endLine == cpos.line) = true := by rfl) (h4 : starEach [e] X.env = (false, eval e X.env) :: starEach [] X.env := by rfl) (h5 : ((backTo cpos (starEach ([] : List Expr) X.env)).any fun x => x.fst) = false := by rfl) :
    ZE X W (.Call (.Attribute o "append" apos) [e] [] cpos) (eMethL mAppend fo (aCons f aNil)) :=
  z_bmL PySem.F.plainAttrs_list PySem.F.slot_list_append PySem.F.type_list_append mt_append opm_append ho (za_cons ha za_nil h4) h1 h2 h3 h4 h5
/-! ### displays of dicts -/
def aPairs : List (EF × EF) → Rho → M → R (List (D × D))
  | [], _, m => .ok [] m
  | (f, h) :: r, ρ, m => (f ρ m).bind fun x m1 => (h ρ m1).bind fun y m2 => (aPairs r ρ m2).bind fun ps m3 => .ok ((x, y) :: ps) m3
def putAll (kvs : List (D × D)) : List (D × D) → List (D × D)
  | [] => kvs
  | (k, v) :: r => putAll (putD kvs k v) r
def eDisp (ps : List (EF × EF)) : EF := fun ρ m => (aPairs ps ρ m).bind fun kvs m1 => if (kvs.all fun p => (keyOf p.1).isSome) && decide (kvs.length ≤ 15) then .ok (.ref m1.length) (m1 ++ [.dic (putAll [] kvs)]) else .bad
def relP (K : PySem.W.Frag) (mg : G) : Relt (List (D × D)) (List (V × V)) := fun ι H => Paired fun p q => Rep K mg ι H p.1 q.1 ∧ Rep K mg ι H p.2 q.2
section
variable {K : PySem.W.Frag} {mg : Str → Option Value} {W : WX}
def trsOf (K : PySem.W.Frag) (mg : Str → Option Value) (W : WX) (ps : List (EF × EF)) : List (TE × TE) := ps.map fun p => (tE K mg W p.1, tE K mg W p.2)
theorem pairs_run : ∀ (ps : List (EF × EF)) {σ : L2.St} {H : Hp} {Q : List (V × V) → Hp → Prop}, (∃ F ι ρ m, EnvR K (mg, F) ι H ρ σ ∧ HR K (mg, F) ι H m ∧ Post K (mg, F) (relP K (mg, F)) (fun c d H' => W c d σ H') ι H Q (aPairs ps ρ m)) → tPairs (trsOf K mg W ps) σ H Q
  | [], σ, H, Q, ⟨F, ι, ρ, m, hρ, hm, hp⟩ => Post.okI hp hm .nil
  | (f, h) :: r, σ, H, Q, ⟨F, ι, ρ, m, hρ, hm, hp⟩ => by
    refine ⟨F, ι, ρ, m, hρ, hm, Post.seq hp fun x m1 ι1 H1 v1 _ e1 h1 r1 hp1 => ⟨F, ι1, ρ, m1, hρ.mono e1, h1, Post.seq hp1 fun y m2 ι2 H2 v2 _ e2 h2 r2 hp2 => ?_⟩⟩
    refine pairs_run r ⟨F, ι2, ρ, m2, (hρ.mono e1).mono e2, h2, Post.seq hp2 fun kvs m3 ι3 H3 vs _ e3 h3 r3 hp3 => ?_⟩
    exact Post.okI hp3 h3 (.cons ⟨(r1.mono e2).mono e3, r2.mono e3⟩ r3)
theorem merge_rep {mg : G} {ι : List Addr} {H : Hp} : ∀ (kvs : List (D × D)) (us : List (V × V)) (acc : List (D × D)) (ws : List (Key × V)), relP K mg ι H kvs us → RepK K mg ι H acc ws → (kvs.all fun p => (keyOf p.1).isSome) = true →
    ∃ ks : List (Key × V), us = ks.map (fun kv => (kV kv.1, kv.2)) ∧ ks.length = kvs.length ∧ RepK K mg ι H (putAll acc kvs) (mergeK ws ks)
  | [], _, acc, ws, .nil, ra, _ => ⟨[], rfl, rfl, ra⟩
  | (k, v) :: kvs, (u, w) :: us, acc, ws, .cons ⟨h1, h2⟩ t, ra, hk => by
    rw [List.all_cons, Bool.and_eq_true] at hk
    obtain ⟨q, hq⟩ := Option.isSome_iff_exists.mp hk.1
    have e := kV_of h1 hq
    obtain ⟨ks, e1, e2, e3⟩ := merge_rep kvs us (putD acc k v) (putK ws q w) t (putD_K ra hq h2) hk.2
    exact ⟨(q, w) :: ks, by rw [e1]; simp only [List.map_cons]; rw [← e], by simp [e2], e3⟩
theorem disp_run {ps : List (EF × EF)} {σ : L2.St} {H : Hp} {Q : VK} (q : tE K mg W (eDisp ps) σ H Q) : tDisp (trsOf K mg W ps) σ H Q := by
  obtain ⟨F, ι, ρ, m, hρ, hm, hp⟩ := q
  intro p hn
  have hi : p ∉ ι := fun h => by
    obtain ⟨o, q⟩ := hm.mem h
    rw [hn] at q; cases q
  refine pairs_run ps ⟨p :: F, ι, ρ, m, ((hρ.grow (growD (mg := (mg, F)) hn)).mono (Ext.side hn)), HR.hide (mg := (mg, F)) hm hn, ?_⟩
  unfold eDisp at hp
  cases q : aPairs ps ρ m with
  | bad => rw [q] at hp; exact hp
  | err x m1 =>
    rw [q] at hp
    intro ι' H' cls dd e1 h1 hx
    refine hp ι' H' cls dd ((Ext.side hn).trans e1) (HR.less (mg := (mg, F)) h1) ?_
    obtain ⟨C, g1, g2, g3⟩ := hx
    refine ⟨C, g1, g2, ?_⟩
    rcases g3 with g3 | ⟨d, ws, z1, z1', z2, z3⟩
    · exact .inl g3
    · exact .inr ⟨d, ws, z1, z1', z2, paired_mono (fun _ _ ⟨a, b⟩ => ⟨a, Rep.grow (mg := (mg, p :: F)) (F' := F) (fun a ha => .inl (List.mem_cons_of_mem p ha)) b⟩) z3⟩
  | ok kvs m1 =>
    rw [q] at hp
    intro ι' H' us e1 h1 hr
    have hp : Post K (mg, F) (relE K (mg, F)) (fun c d H' => W c d σ H') ι H Q (if ((kvs.all fun p => (keyOf p.1).isSome) && decide (kvs.length ≤ 15)) = true then .ok (.ref m1.length) (m1 ++ [.dic (putAll [] kvs)]) else .bad) := hp
    split at hp
    · rename_i hc
      rw [Bool.and_eq_true] at hc
      have d0 : p ∉ ι' := e1.out nt_dK hi upd_same
      have hd : H' p = some (.dK []) := e1.fr _ _ nt_dK hi upd_same
      obtain ⟨ks, z1, z2, z3⟩ := merge_rep kvs us [] [] hr .nil hc.1
      refine ⟨hd, ks, z1, by rw [z2]; exact of_decide_eq_true hc.2, ?_⟩
      have hM : p ∈ ((mg, p :: F) : G).2 := List.mem_cons_self
      have hL : (∃ xs, HO.dK ([] : List (Key × V)) = .lst xs) ∨ (∃ xs, HO.dK ([] : List (Key × V)) = .dK xs) ∨ ∃ xs, HO.dK ([] : List (Key × V)) = .dT xs := .inr (.inl ⟨[], rfl⟩)
      have h2 := h1.aside (o' := .dK (mergeK [] ks)) hM d0 hd hL
      have z4 : RepK K (mg, p :: F) ι' (upd H' p (.dK (mergeK [] ks))) (putAll [] kvs) (mergeK [] ks) := paired_mono (fun _ _ ⟨a, b⟩ => ⟨a, b.aside hM d0 hd hL⟩) z3
      refine hp (ι' ++ [p]) _ _ ((((Ext.refl).hide hn).trans e1 |> fun e => ?_) : Ext ι H (ι' ++ [p]) (upd H' p (.dK (mergeK [] ks)))) (HR.track h2 d0 upd_same ⟨fun p q => (by cases q), fun p q => (by cases q)⟩ (.dK upd_same (paired_mono (fun _ _ ⟨a, b⟩ => ⟨a, b.track upd_same ⟨fun p q => (by cases q), fun p q => (by cases q)⟩⟩) z4))) (.ref ?_)
      · exact (e.hide hn).newCell hn
      · rw [← h1.len]; simp
    · exact hp.elim
end
abbrev ZPs (X : Cx) (W : WX) (pos : Pos) (keys : List (Option Expr)) (values : List Expr) (ps : List (EF × EF)) : Prop := PPs X pos keys values (trsOf X.K X.mg W ps)
section
variable {X : Cx} {W : WX} {pos : Pos}
theorem zps_nil : ZPs X W pos [] [] [] := pps_nil
theorem zps_cons {k v : Expr} {ks : List (Option Expr)} {vs : List Expr} {f h : EF} {ps : List (EF × EF)} (hk : ZE X W k f) (hv : ZE X W v h) (hr : ZPs X W pos ks vs ps) : ZPs X W pos (some k :: ks) (v :: vs) ((f, h) :: ps) := pps_cons hk hv hr
theorem z_disp {keys : List (Option Expr)} {values : List Expr} {ps : List (EF × EF)} (h : ZPs X W pos keys values ps) (hall : (keys.all fun x => x.isSome) = true := by rfl) (hl : keys.length = values.length := by rfl) (h0 : keys ≠ [] := by simp) (h15 : keys.length ≤ 15 := by decide) : ZE X W (.Dict keys values pos) (eDisp ps) :=
  PE.imp (pe_disp h hall hl h0 h15) fun σ H Q q => disp_run q
end
end Z

namespace Z
open PySem PySem.Spec PyProof.Rows L2

/-! ### exceptions as values: made by a class with its own __init__ -/
def tNew (C : Addr) (sp : Sp) (ta : TA) : TE := fun σ H Q => ta σ H fun vs H1 => vs.length ≤ 1000 ∧ ∀ a, H1 a = none → sp (.ref a :: vs) (upd H1 a (exo a C none)) (fun v H2 => v = .non ∧ Q (.ref a) H2) E0
theorem pe_new {X : Cx} {e : Expr} {es : List Expr} {ta : TA} {p pos : Pos} {x : Str} {C fI : Addr} {k : Nat} {fd : FuncData} {ps : List Str} {sp : Sp}
    (T : OexC X.K C) (iC : PySem.W.findIn X.K (.ref C) "__init__" = some (some (.ref fI))) (tI : PySem.W.typeIn X.K (.ref fI) = some (.type "function"))
    (F1 : FnOk X.prog X.w X.K X.mg X.base CX0 k fI fd ps sp) (hr : Room (k + 1) X.A) (hb : Binds X.K fd ps []) (hg : Gl X x) (hm : X.mg x = some (.ref C)) (ha : PA X (e :: es) ta)
    (hdb : (x == ("__debug__" : Str)) = false := by decide) (he : starEach (e :: es) X.env = (false, eval e X.env) :: starEach es X.env := by rfl) (hpl : (backTo pos (starEach es X.env)).any (·.1) = false := by rfl) :
    PE X (.Call (.Name x p) (e :: es) [] pos) (tNew C sp ta) := by
  refine ⟨fun pins s σ H Q I h => ?_⟩
  obtain ⟨nm, q, N, bs, bm, sn, sub, ab, col, dd, k0, k1, k2, k3, k5, hC, hbm⟩ := T.cls
  refine wpAny_Call_Name_kw (ld_glob I hg hm ?_ hdb)
  refine PySem.W.callWith_K I.ok.mod.kin T.kC (thn (ha.run pos pins s σ H _ I h) fun us s1 ⟨vs, H1, I1, r1, hz, q1⟩ => ⟨I1.kIn, ?_⟩) he hpl
  obtain ⟨hp, g, dr, tk, os⟩ := s1
  have hsz := Nat.le_succ hp.objs.size
  have hn := HOk.fresh I1.hok hsz
  have hq := q1 _ hn
  have kk : ∀ (b : Addr) (o : Obj), hp.get? b = some o → ((hp.push (PySem.W.kdv_tup us)).push (HandSPX.excO C hp.objs.size)).get? b = some o := fun b o e => Heap.get?_push_of_some _ (Heap.get?_push_of_some _ e)
  have hget : ((hp.push (PySem.W.kdv_tup us)).push (HandSPX.excO C hp.objs.size)).get? (hp.objs.size + 1) = some (HandSPX.excO C hp.objs.size) := Heap.get?_push_at (by rw [Heap.size_push]) rfl
  have I2 := Inv.laid (t' := tk) I1 kk hsz (exo_ok hget)
  have r2 : Vals (.ref (hp.objs.size + 1) :: vs) (.ref (hp.objs.size + 1) :: us) := .cons rfl r1
  have hl : (Value.ref (hp.objs.size + 1) :: us ++ []).length = ps.length := by
    have := F1.len _ _ _ _ hq
    rw [← this, r2.length, List.append_nil]
  have hb' := hb ⟨(hp.push (PySem.W.kdv_tup us)).push (HandSPX.excO C hp.objs.size), g, dr, tk, os⟩ (Value.ref (hp.objs.size + 1) :: us) I2.kIn hl
  rw [List.append_nil] at hb'
  have hus : us.length ≤ sizeLine := by
    rw [← r1.length, sizeLine_eq]
    omega
  refine wpAny_call (HandSPX.call_own PySem.F.excBase_ValueError (fun Y => HandSPX.refsVE_contains Y bm hbm) (I1.kIn C _ hC) (PySem.W.looks_findIn I1.kIn iC) (fun self => PySem.W.bind_fn I1.kIn self tI) hus (codeAny_mono
    (F1.run (X.A.under (.builtin "type.__call__" ⟨Value.ref C :: us, []⟩)) X.stack ⟨(hp.push (PySem.W.kdv_tup us)).push (HandSPX.excO C hp.objs.size), g, dr, tk, os⟩ _ _ _ _ _ _ (Room.make hr C us []) (Env0.make I2.env0 C us []) hb' r2 hq) fun r s' hq' => ?_))
  cases r with
  | error er => exact pass0 pins σ _ _ er s' I2 hq'
  | ok fl =>
    cases fl with
    | next => exact hq'.elim
    | brk => exact hq'.elim
    | cont => exact hq'.elim
    | ret u =>
      obtain ⟨v, H2, J, rv, rfl, q2⟩ := I2.after hq'
      exact ⟨rv, .ref (hp.objs.size + 1), H2, J, rfl, q2⟩
/-- a class without its own __init__, called with nothing -/
theorem pe_new0 {X : Cx} {C : Addr} {bmB : List Value} {B newId initId : String} {x : Str} {p pos : Pos} (F : ExcBaseFacts B newId initId bmB) (q : PySem.W.excIn X.K C bmB newId = true) (gC : X.mg x = some (.ref C)) (kC : PySem.W.keepIn X.K (.ref C) = true) (hg : Gl X x)
    (hdb : (x == ("__debug__" : Str)) = false := by decide) : PE X (.Call (.Name x p) [] [] pos) (fun σ H Q => ∀ a, H a = none → Q (.ref a) (upd H a (exo a C none))) := by
  refine ⟨fun pins s σ H Q I h => ?_⟩
  refine wpAny_Call_Name_kw (ld_glob I hg gC (PySem.W.callWith_K0 I.kIn kC ?_) hdb)
  obtain ⟨bm, N, nm, qn, bs, hdct, sn, sub, ab, col, dd, k0, k1, k2, k3, k5, mN, hC, hN, hni, T⟩ := exc_obj I.kIn q
  refine wpAny_call_exc_subT F T hC hN hni (fun h' a hm => ?_) (by rw [sizeLine_eq]; decide)
  have hn := HOk.gone I.hok hm.new
  obtain ⟨t, ht, _, _⟩ := hm.there
  exact ⟨.ref a, upd H a (exo a C none), Inv.laidN I hm.keeps hm.new hn (exo_ok ht), rfl, h a hn⟩

/-! ### the __init__ of one, of two fields -/
def spI1 (K : PySem.W.Frag) (C : Addr) (f : Str) : Sp := fun vs H Q _ => ∃ a x, vs = [.ref a, x] ∧ H a = some (exo a C none) ∧ ∀ dx, H dx = none → dx ≠ a → Q .non (upd (upd H dx (exd dx [(f, x)])) a (exo a C (some dx)))
def spI2 (K : PySem.W.Frag) (C : Addr) (f g : Str) : Sp := fun vs H Q _ => ∃ a x y, vs = [.ref a, x, y] ∧ H a = some (exo a C none) ∧ ∀ dx, H dx = none → dx ≠ a → Q .non (upd (upd (upd H dx (exd dx [(f, x)])) a (exo a C (some dx))) dx (exd dx [(g, y), (f, x)]))
section
variable {P : Program} {w : World} {K : PySem.W.Frag} {mg : Str → Option Value} {base : Heap} {f C : Addr} {fd : FuncData} {qual : Str} {st : Stmt} {p1 p2 p3 p4 q1 q2 q3 q4 : Pos} {a b : Str}
theorem init1 (F : Fun K "__init__" qual st f fd) (S : FnScope ["self", a] ["self", a] (defScope st)) (T : OexC K C) (n : PySem.W.findIn K (.ref C) a = some none)
    (hv0 : (defScope st).names.lookup ("self" : Str) = some .local := by rfl) (hv1 : (defScope st).names.lookup a = some .local := by rfl) (hd : (a == ("__debug__" : Str)) = false := by decide) (hcd : (a == ("__classdict__" : Str)) = false := by decide)
    (hb : defBody st = [.Assign [.Attribute (.Name "self" p1) a p2] (.Name a p3) p4] := by rfl) : FnOk P w K mg base CX0 1 f fd ["self", a] (spI1 K C a) := by
  refine F.ok S (fun vs H Q E h => ?_) (fun cdv A outer s H vs Q E hr h => ?_)
  · obtain ⟨x, y, rfl, _⟩ := h
    rfl
  · obtain ⟨x, y, rfl, h1, k⟩ := h
    rw [hb]
    refine ⟨_, pss_one (ps_ost (pe_var (i := 0) rfl (.inl hv0)) (pe_var (i := 1) rfl (.inl hv1) hd hcd)), ?_⟩
    exact ⟨y, rfl, .ref x, rfl, x, C, rfl, T, n, .inl ⟨h1, fun dx hn hx => k dx hn hx⟩⟩
theorem init2 (F : Fun K "__init__" qual st f fd) (S : FnScope ["self", a, b] ["self", a, b] (defScope st)) (T : OexC K C) (n : PySem.W.findIn K (.ref C) a = some none) (n2 : PySem.W.findIn K (.ref C) b = some none)
    (hv0 : (defScope st).names.lookup ("self" : Str) = some .local := by rfl) (hv1 : (defScope st).names.lookup a = some .local := by rfl) (hv2 : (defScope st).names.lookup b = some .local := by rfl) (hd : (a == ("__debug__" : Str)) = false := by decide) (hcd : (a == ("__classdict__" : Str)) = false := by decide) (hd2 : (b == ("__debug__" : Str)) = false := by decide) (hcd2 : (b == ("__classdict__" : Str)) = false := by decide)
    (hb : defBody st = [.Assign [.Attribute (.Name "self" p1) a p2] (.Name a p3) p4, .Assign [.Attribute (.Name "self" q1) b q2] (.Name b q3) q4] := by rfl) : FnOk P w K mg base CX0 1 f fd ["self", a, b] (spI2 K C a b) := by
  refine F.ok S (fun vs H Q E h => ?_) (fun cdv A outer s H vs Q E hr h => ?_)
  · obtain ⟨x, y, z, rfl, _⟩ := h
    rfl
  · obtain ⟨x, y, z, rfl, h1, k⟩ := h
    rw [hb]
    refine ⟨_, pss_cons (ps_ost (pe_var (i := 0) rfl (.inl hv0)) (pe_var (i := 1) rfl (.inl hv1) hd hcd)) (pss_one (ps_ost (pe_var (i := 0) rfl (.inl hv0)) (pe_var (i := 2) rfl (.inl hv2) hd2 hcd2))), ?_⟩
    refine ⟨y, rfl, .ref x, rfl, x, C, rfl, T, n, .inl ⟨h1, fun dx hn hx => ?_⟩⟩
    refine ⟨z, rfl, .ref x, rfl, x, C, rfl, T, n2, .inr ⟨dx, [(a, y)], upd_same, by rw [upd_ne hx, upd_same], by simp, k dx hn hx⟩⟩
end

/-! ### the Z rules -/
def eNew1 (C f : Str) (a : AF) : EF := fun ρ m => (a ρ m).bind fun ds m1 => match ds with
  | [x] => .ok (.exc C [f] [x]) m1
  | _ => .bad
def eNew2 (C f g : Str) (a : AF) : EF := fun ρ m => (a ρ m).bind fun ds m1 => match ds with
  | [x, y] => .ok (.exc C [g, f] [y, x]) m1
  | _ => .bad
def eNew0 (C : Str) : EF := fun _ m => .ok (.exc C [] []) m
section
variable {X : Cx} {W : WX} {pos p : Pos} {x : Str} {C fI : Addr} {k : Nat} {fd : FuncData} {e e2 : Expr} {fe fe2 : EF} {f g : Str}
theorem notMem {K : PySem.W.Frag} {mg : G} {ι : List Addr} {H : Hp} {m : M} (hm : HR K mg ι H m) {a : Addr} (h : H a = none) : a ∉ ι := fun q => by
  obtain ⟨o, z⟩ := hm.mem q
  rw [h] at z; cases z
theorem z_new1 (T : OexC X.K C) (iC : PySem.W.findIn X.K (.ref C) "__init__" = some (some (.ref fI))) (tI : PySem.W.typeIn X.K (.ref fI) = some (.type "function"))
    (F1 : FnOk X.prog X.w X.K X.mg X.base CX0 k fI fd ["self", f] (spI1 X.K C f)) (hb : Binds X.K fd ["self", f] []) (hr : Room (k + 1) X.A) (hg : Gl X x) (hm : X.mg x = some (.ref C)) (ha : ZE X W e fe)
    (hdb : (x == ("__debug__" : Str)) = false := by decide) (he : starEach [e] X.env = (false, eval e X.env) :: starEach [] X.env := by rfl) (hpl : (backTo pos (starEach ([] : List Expr) X.env)).any (·.1) = false := by rfl) :
    ZE X W (.Call (.Name x p) [e] [] pos) (eNew1 x f (aCons fe aNil)) := by
  refine PE.imp (pe_new T iC tI F1 hr hb hg hm (za_cons ha za_nil he) hdb he hpl) fun σ H Q ⟨F, ι, ρ, m, hρ, hm', hp⟩ => ⟨F, ι, ρ, m, hρ, hm', ?_⟩
  refine Post.seq hp fun ds m1 ι1 H1 vs _ e1 h1 r1 hp1 => ?_
  split at hp1
  · rename_i y
    cases r1 with
    | @cons _ v _ _ r1 r2 =>
    cases r2
    refine ⟨by simp, fun a hn => ⟨a, v, rfl, upd_same, fun dx hd hne => ⟨rfl, ?_⟩⟩⟩
    have hd1 : H1 dx = none := by rw [upd_ne hne] at hd; exact hd
    have ex : Ext ι1 H1 ι1 (upd (upd (upd H1 a (exo a C none)) dx (exd dx [(f, v)])) a (exo a C (some dx))) := (((Ext.side hn).hide hd1).hide hn)
    have hh : HR X.K (X.mg, F) ι1 (upd (upd (upd H1 a (exo a C none)) dx (exd dx [(f, v)])) a (exo a C (some dx))) m1 := by
      have hx0 : ∀ (b : Addr) (o : HO), H1 b = some o → upd (upd (upd H1 a (exo a C none)) dx (exd dx [(f, v)])) a (exo a C (some dx)) b = some o := fun b o z => by
        rw [upd_ne (ne_of_none z hn), upd_ne (ne_of_none z hd1), upd_ne (ne_of_none z hn)]; exact z
      refine ⟨h1.len, h1.nd, fun b hb => (let ⟨o, n, q⟩ := h1.fd b hb; ex.dom b o n q), LamX.Tabs.ext h1.tb hx0, fun n b c z1 z2 => (h1.at' n b c z1 z2).mono ex fun o z => ?_⟩
      rw [upd_ne (ne_of_none z hn), upd_ne (ne_of_none z hd1), upd_ne (ne_of_none z hn)]
      exact z
    exact hp1 ι1 _ _ ex hh (.exc (dx := dx) hm (notMem h1 hn) (notMem h1 hd1) upd_same (by rw [upd_ne hne, upd_same]; rfl) (.cons (r1.mono ex) .nil))
  · exact hp1.elim
theorem z_new2 (T : OexC X.K C) (iC : PySem.W.findIn X.K (.ref C) "__init__" = some (some (.ref fI))) (tI : PySem.W.typeIn X.K (.ref fI) = some (.type "function"))
    (F1 : FnOk X.prog X.w X.K X.mg X.base CX0 k fI fd ["self", f, g] (spI2 X.K C f g)) (hb : Binds X.K fd ["self", f, g] []) (hr : Room (k + 1) X.A) (hg : Gl X x) (hm : X.mg x = some (.ref C)) (ha : ZE X W e fe) (ha2 : ZE X W e2 fe2)
    (hdb : (x == ("__debug__" : Str)) = false := by decide) (he : starEach [e, e2] X.env = (false, eval e X.env) :: starEach [e2] X.env := by rfl) (he2 : starEach [e2] X.env = (false, eval e2 X.env) :: starEach [] X.env := by rfl) (hpl : (backTo pos (starEach [e2] X.env)).any (·.1) = false := by rfl) :
    ZE X W (.Call (.Name x p) [e, e2] [] pos) (eNew2 x f g (aCons fe (aCons fe2 aNil))) := by
  refine PE.imp (pe_new T iC tI F1 hr hb hg hm (za_cons ha (za_cons ha2 za_nil he2) he) hdb he hpl) fun σ H Q ⟨F, ι, ρ, m, hρ, hm', hp⟩ => ⟨F, ι, ρ, m, hρ, hm', ?_⟩
  refine Post.seq hp fun ds m1 ι1 H1 vs _ e1 h1 r1 hp1 => ?_
  split at hp1
  · rename_i y1 y2
    cases r1 with
    | @cons _ v _ _ r1 r2 =>
    cases r2 with
    | @cons _ u _ _ r2 r3 =>
    cases r3
    refine ⟨by simp, fun a hn => ⟨a, v, u, rfl, upd_same, fun dx hd hne => ⟨rfl, ?_⟩⟩⟩
    have hd1 : H1 dx = none := by rw [upd_ne hne] at hd; exact hd
    have ex : Ext ι1 H1 ι1 (upd (upd (upd (upd H1 a (exo a C none)) dx (exd dx [(f, v)])) a (exo a C (some dx))) dx (exd dx [(g, u), (f, v)])) := ((((Ext.side hn).hide hd1).hide hn).hide hd1)
    have hh : HR X.K (X.mg, F) ι1 (upd (upd (upd (upd H1 a (exo a C none)) dx (exd dx [(f, v)])) a (exo a C (some dx))) dx (exd dx [(g, u), (f, v)])) m1 := by
      have hx0 : ∀ (b : Addr) (o : HO), H1 b = some o → upd (upd (upd (upd H1 a (exo a C none)) dx (exd dx [(f, v)])) a (exo a C (some dx))) dx (exd dx [(g, u), (f, v)]) b = some o := fun b o z => by
        rw [upd_ne (ne_of_none z hd1), upd_ne (ne_of_none z hn), upd_ne (ne_of_none z hd1), upd_ne (ne_of_none z hn)]; exact z
      refine ⟨h1.len, h1.nd, fun b hb => (let ⟨o, n, q⟩ := h1.fd b hb; ex.dom b o n q), LamX.Tabs.ext h1.tb hx0, fun n b c z1 z2 => (h1.at' n b c z1 z2).mono ex fun o z => ?_⟩
      rw [upd_ne (ne_of_none z hd1), upd_ne (ne_of_none z hn), upd_ne (ne_of_none z hd1), upd_ne (ne_of_none z hn)]
      exact z
    exact hp1 ι1 _ _ ex hh (.exc (dx := dx) hm (notMem h1 hn) (notMem h1 hd1) (by rw [upd_ne hne.symm, upd_same]) upd_same (.cons (r2.mono ex) (.cons (r1.mono ex) .nil)))
  · exact hp1.elim
theorem z_new0 {bmB : List Value} {B newId initId : String} (T : ExcBaseFacts B newId initId bmB) (q : PySem.W.excIn X.K C bmB newId = true) (hm : X.mg x = some (.ref C)) (kC : PySem.W.keepIn X.K (.ref C) = true) (hg : Gl X x)
    (hdb : (x == ("__debug__" : Str)) = false := by decide) : ZE X W (.Call (.Name x p) [] [] pos) (eNew0 x) :=
  PE.imp (pe_new0 T q hm kC hg hdb) fun σ H Q ⟨F, ι, ρ, m, hρ, hm', hp⟩ a hn => hp ι _ _ (Ext.side hn) (hm'.side hn) (.ex0 hm (notMem hm' hn) upd_same)

/-! ### isinstance -/
structure XCls (K : PySem.W.Frag) (C : Addr) : Prop where
  ex : ExcC K C
  cl : (PySem.W.clsIn K C).isSome = true
def rIsx (K : PySem.W.Frag) : List V → Hp → VK → Prop := fun xs H Q => ∃ a CA c cv b, xs = [.ref a, c] ∧ ((∃ dx fs, H a = some (exo a CA (some dx)) ∧ H dx = some (exd dx fs)) ∨ H a = some (exo a CA none)) ∧ XCls K CA ∧ ClsV c cv ∧ PySem.W.kitOne K (.ref CA) cv = some b ∧ Q (.bl b) H
theorem inst_of {P : Program} {w : World} {H : Hp} {h : Heap} {a CA : Addr} (ok : HOk P w H h) (hh : (∃ dx fs, H a = some (exo a CA (some dx)) ∧ H dx = some (exd dx fs)) ∨ H a = some (exo a CA none)) : ∃ ox od, PySem.W.InstAt h a ox CA od := by
  rcases hh with ⟨dx, fs, h1, h2⟩ | h1
  · obtain ⟨⟨t1, g1⟩, _⟩ := ok _ _ h1
    obtain ⟨⟨mA, g2, _⟩, _⟩ := ok _ _ h2
    obtain ⟨od, g3, _⟩ := lookIn_ns g2
    exact ⟨_, some od, g1, rfl, rfl, g3⟩
  · obtain ⟨⟨t1, g1⟩, _⟩ := ok _ _ h1
    exact ⟨_, none, g1, rfl, rfl, trivial⟩
theorem call_isx : CallR X (.builtin "isinstance") (rIsx X.K) := fun pins s σ H xs us Q I r ⟨a, CA, c, cv, b, e, hh, T, hc, hk, q⟩ => by
  subst e
  cases r with
  | @cons _ u1 _ _ ra r =>
  cases r with
  | @cons _ u2 _ _ rc r =>
  cases r
  cases ra
  have e2 : u2 = cv := by cases hc <;> exact rc
  subst e2
  obtain ⟨ox, od, J⟩ := inst_of I.hok hh
  exact PySem.W.kia_one (PySem.W.kitx_exc T.cl T.ex.hg T.ex.hk T.ex.hs T.ex.ha T.ex.hn T.ex.ht T.ex.hm) I.kIn J hk (fun z => nomatch z) fun tk => ⟨.bl b, H, I.kept fun _ _ z => z, rfl, q⟩
/-- what isinstance answers of own exceptions: a table -/
abbrev KTab := Str → D → Option Bool
def KOk (K : PySem.W.Frag) (mg : Str → Option Value) (tb : KTab) : Prop := ∀ C c b, tb C c = some b → ∀ CA, mg C = some (.ref CA) → XCls K CA ∧ ((∃ n, c = .ty n ∧ PySem.W.kitOne K (.ref CA) (.type n) = some b) ∨ ∃ C2, c = .glo C2 ∧ ∀ A2, mg C2 = some (.ref A2) → PySem.W.kitOne K (.ref CA) (.ref A2) = some b)
def bIsx (tb : KTab) (ds : List D) (m : M) : R D := match ds with
  | [.exc C ns es, c] => match tb C c with
    | some b => .ok (.bl b) m
    | none => .bad
  | _ => .bad
theorem opl_isx {tb : KTab} (hk : KOk X.K X.mg tb) : OpL X (rIsx X.K) (bIsx tb) := fun F E ι H m xs vs Q hm r hp => by
  unfold bIsx at hp
  split at hp
  · rename_i C ns es c
    split at hp
    · rename_i b hb
      cases r with
      | @cons _ v1 _ _ r1 r2 =>
      cases r2 with
      | @cons _ v2 _ _ r2 r3 =>
      cases r3
      have fin : ∀ CA a, X.mg C = some (.ref CA) → v1 = .ref a → ((∃ dx fs, H a = some (exo a CA (some dx)) ∧ H dx = some (exd dx fs)) ∨ H a = some (exo a CA none)) → rIsx X.K [v1, v2] H Q := by
        rintro CA a hC rfl hh
        obtain ⟨T, h⟩ := hk C c b hb CA hC
        rcases h with ⟨n, rfl, hn⟩ | ⟨C2, rfl, hn⟩
        · cases r2
          exact ⟨a, CA, _, _, b, rfl, hh, T, .ty n, hn, hp.okI hm (.bl b)⟩
        · cases r2 with
          | @glo _ A2 h2 => exact ⟨a, CA, _, _, b, rfl, hh, T, .own A2, hn A2 h2, hp.okI hm (.bl b)⟩
      cases r1 with
      | exc hC na nd ha hd _ => exact fin _ _ hC rfl (.inl ⟨_, _, ha, hd⟩)
      | ex0 hC na ha => exact fin _ _ hC rfl (.inr ha)
    · exact hp.elim
  · exact hp.elim
/-! ### fields -/
def lookD : List Str → List D → Str → Option D
  | n :: ns, d :: ds, x => if x = n then some d else lookD ns ds x
  | _, _, _ => none
theorem lookD_rep {K : PySem.W.Frag} {mg : G} {ι : List Addr} {H : Hp} {x : Str} {d : D} : ∀ {ns : List Str} {ds : List D} {vs : List V}, RepL K mg ι H ds vs → lookD ns ds x = some d → ∃ v, (ns.zip vs).lookup x = some v ∧ Rep K mg ι H d v
  | [], _, _, _, h => by simp [lookD] at h
  | n :: ns, _, _, .nil, h => by simp [lookD] at h
  | n :: ns, _, _, .cons (v := v) r rs, h => by
    unfold lookD at h
    split at h
    · rename_i e
      cases h
      refine ⟨v, ?_, r⟩
      rw [List.zip_cons_cons, List.lookup_cons, e]
      simp
    · rename_i e
      obtain ⟨w, h1, h2⟩ := lookD_rep rs h
      refine ⟨w, ?_, h2⟩
      rw [List.zip_cons_cons, List.lookup_cons]
      have : (x == n) = false := by simpa using e
      rw [this]
      exact h1
def eFldX (cs : List Str) (n : Str) (f : EF) : EF := fun ρ m => (f ρ m).bind fun d m1 => match d with
  | .exc C ns ds => if cs.contains C = true then (match lookD ns ds n with
    | some v => .ok v m1
    | none => .bad) else .bad
  | _ => .bad
theorem pe_fx {te : TE} {n : Str} (he : PE X e te) (hb : attributeBase e n X.env (eval e X.env) = eval e X.env := by rfl) : PE X (.Attribute e n pos) (fun σ H Q => te σ H fun x H1 => ∃ a CA dx fs v, x = .ref a ∧ XfC X.K CA ∧ PySem.W.findIn X.K (.ref CA) n = some none ∧ H1 a = some (exo a CA (some dx)) ∧ H1 dx = some (exd dx fs) ∧ fs.lookup n = some v ∧ Q v H1) :=
  ⟨fun pins s σ H Q I h => attr_of hb (thn (he.run pins s σ H _ I h) fun u s1 ⟨x, H1, I1, rx, a, CA, dx, fs, v, ex, T, hno, ha, hd, hl, q⟩ => by
    subst ex
    cases rx
    obtain ⟨⟨t1, g1⟩, _⟩ := I1.hok _ _ ha
    obtain ⟨⟨mA, g2, hr⟩, _⟩ := I1.hok _ _ hd
    obtain ⟨od, g3, hlk⟩ := lookIn_ns g2
    have hn := hr n
    rw [hl] at hn
    obtain ⟨u, hu, ru⟩ := RelO.some_of hn
    have J : PySem.W.InstAt s1.heap a _ CA (some od) := ⟨g1, rfl, rfl, g3⟩
    exact HandSPX.exc_get I1.kIn J T.ga T.gg T.exC (PySem.W.findObj_own T.hdC hno rfl (by rw [hlk n, hu])) (handed_of ru) ⟨v, H1, I1.tok _, ru, q⟩)⟩
theorem z_fx {cs : List Str} {n : Str} (he : ZE X W e fe) (hc : ∀ C ∈ cs, ∀ CA, X.mg C = some (.ref CA) → XfC X.K CA ∧ PySem.W.findIn X.K (.ref CA) n = some none) (hb : attributeBase e n X.env (eval e X.env) = eval e X.env := by rfl) : ZE X W (.Attribute e n pos) (eFldX cs n fe) := by
  refine PE.imp (pe_fx he hb) fun σ H Q ⟨F, ι, ρ, m, hρ, hm', hp⟩ => ⟨F, ι, ρ, m, hρ, hm', ?_⟩
  refine Post.seq hp fun d m1 ι1 H1 v _ e1 h1 r1 hp1 => ?_
  split at hp1
  · split at hp1
    · rename_i hcs
      split at hp1
      · rename_i y hy
        cases r1 with
        | @exc _ _ _ _ a CA dx hC na nd ha hd r =>
          obtain ⟨z1, z2⟩ := hc _ (by simpa using hcs) CA hC
          obtain ⟨w, hw, rw⟩ := lookD_rep r hy
          exact ⟨a, CA, dx, _, w, rfl, z1, z2, ha, hd, hw, hp1.okI h1 rw⟩
        | ex0 hC na ha => cases hy
      · exact hp1.elim
    · exact hp1.elim
  · exact hp1.elim
end
end Z

namespace Z
open PySem PySem.Spec PyProof.Rows L2

/-! ### the end: the law is called with its script -/
theorem cx_false {P : Program} {w : World} {outer : List Env} {H : Hp} {s s' : Shared} {e : Value} (h : L2.CX P w outer H s (fun _ _ _ => False) e s') : False := by
  obtain ⟨_, _, _, h⟩ := h
  simp_all
theorem ints_rep {K : PySem.W.Frag} {mg : G} {ι : List Addr} {H : Hp} : ∀ l : List Int, RepL K mg ι H (l.map D.int) (l.map V.int)
  | [] => .nil
  | y :: l => .cons (.int y) (ints_rep l)
theorem law_callZ {P : Program} {w : World} {K : PySem.W.Frag} (hT : tabOf K = []) {mg mb : Str → Option Value} {k : Nat} {fa a : Addr} {fd : FuncData} {x : Str} {g : FF} {s₁ : Shared} {vs : List Value} {ns : List Int}
    (KX : K.In s₁.heap) (hns : s₁.heap.Ns mainGlobals mg) (hb : s₁.heap.Ns builtinsNs mb) (hbb : ∀ (x : Str), x ≠ "__name__" → mb x = bootBuiltins x) (hlim : s₁.heap.NoLimit) (hg : s₁.gens = #[])
    (ha : s₁.heap.get? a = some { cls := .type "list", data := .seq vs.toArray }) (hi : IntsAre vs ns) (hl : ns.length ≤ sizeLine) (hr : Room k callerA)
    (F : ∀ base : Heap, K.In base → base.Ns mainGlobals mg → ZF true P w K mg base k fa fd [x] g) (hbind : ∀ (s : Shared) (u : Value), BindsTo s fd ⟨[u], []⟩ [(x, u)])
    (hsp : ∃ m, g [.fl (ns.map .int)] [] = .ok (.bl true) m) :
    codeAny (model P w) callerA (.call (.ref fa) ⟨[.ref a], []⟩) (fun r s' => r = .ok (.ret (.bool true)) ∧ OldK s₁.heap s'.heap ∧ s'.os = s₁.os ∧ AllBare s'.gens) s₁ := by
  have rv : Vals (ns.map V.int) vs := vals_ints hi
  have lenV := IntsAre.length hi
  have core : ∀ H : Hp, Only H → SqF K H a (ns.map V.int) → HOk P w H s₁.heap → (∀ b, H b ≠ none → b = a) → (H a ≠ none → K.lookup a = none) →
      codeAny (model P w) callerA (.call (.ref fa) ⟨[.ref a], []⟩) (fun r s' => r = .ok (.ret (.bool true)) ∧ OldK s₁.heap s'.heap ∧ s'.os = s₁.os ∧ AllBare s'.gens) s₁ := by
    intro H hO hS hok hA hK
    have base_of : ∀ {b : Addr} {o : Obj}, s₁.heap.get? b = some o → H b = none → (hidT s₁.heap H).get? b = some o := fun e n => hidT_get e n
    have noA : ∀ {b : Addr} {o : Obj} {es ep}, s₁.heap.get? b = some o → o.data = .dict es ep → H b = none := by
      intro b o es ep e d
      cases q : H b with
      | none => rfl
      | some u =>
        have e' := hA b (by rw [q]; simp)
        subst e'
        rw [ha] at e
        cases e
        cases d
    have nsK : ∀ {b m}, s₁.heap.Ns b m → (hidT s₁.heap H).Ns b m := fun ⟨o, es, ep, e, d, r⟩ => ⟨o, es, ep, base_of e (noA e d), d, r⟩
    have hKb : K.In (hidT s₁.heap H) := fun b o e => base_of (KX b o e) (by
      cases q : H b with
      | none => rfl
      | some u =>
        have e' := hA b (by rw [q]; simp)
        subst e'
        have := hK (by rw [q]; simp)
        rw [this] at e
        cases e)
    obtain ⟨mc, hc1, hc2⟩ := hlim
    have e0 : Env0 P w K mg (hidT s₁.heap H) callerA [] s₁ H :=
      { frames := rfl
        mod := { kin := hKb, glob := nsK hns, blt := ⟨mb, nsK hb, hbb⟩, nolimit := ⟨mc, nsK hc1, hc2⟩ }
        bs := fun b o e => of_hidT e
        bsz := Nat.le_of_eq (hidT_size s₁.heap H)
        funs := trivial
        frf := fun b hb => by simp [frs] at hb
        hok := hok
        bare := AllBare.of_eq hg }
    have start : spZ K mg 1 g [.ref a] H (fun v _ => v = .bl true) (fun _ _ _ => False) := by
      refine ⟨rfl, [], [], [.fl (ns.map .int)], [], .cons (.fl hS ?_) .nil, ⟨rfl, List.nodup_nil, by simp, (by rw [hT]; intro p hp; cases hp), by simp⟩, ?_⟩
      · exact ints_rep ns
      · obtain ⟨m, hm⟩ := hsp
        rw [hm]
        intro ι' H' b e h r
        cases r
        rfl
    refine codeAny_mono ((F (hidT s₁.heap H) hKb (nsK hns)).run callerA [] s₁ H ⟨[.ref a], []⟩ [.ref a] [.ref a] _ _ hr (fun _ => rfl) e0 (hbind s₁ (.ref a)) (.cons rfl .nil) start) fun r s' h => ?_
    cases r with
    | error e => exact (cx_false h).elim
    | ok fl =>
      cases fl with
      | next => exact h.elim
      | brk => exact h.elim
      | cont => exact h.elim
      | ret u =>
        obtain ⟨v, H', os, bare, un, hok', r', q⟩ := h
        have q' : v = .bl true := q
        subst q'
        cases r'
        refine ⟨rfl, OldK.of_keep fun b o e => ?_, os, bare⟩
        cases q : H b with
        | none => exact un.keep b o e q (by simp [frs]) (by simp)
        | some u =>
          rcases hO b with z | ⟨ob, xs, z⟩
          · rw [q] at z; cases z
          · have z2 := un.frzs b ob (.lst xs) z
            have e1 := (hok b _ z).1
            have e2 := (hok' b _ z2).1
            rw [e] at e1
            cases e1
            exact e2
  cases hk : K.lookup a with
  | none =>
    refine core (fun b => if b = a then some (.frz { cls := .type "list", data := .seq vs.toArray } (.lst (ns.map V.int))) else none) (fun b => ?_) (.inl ⟨_, if_pos rfl⟩) (fun b u z => ?_) (fun b z => ?_) fun _ => hk
    · by_cases hb : b = a
      · exact .inr ⟨_, _, if_pos hb⟩
      · exact .inl (if_neg hb)
    · by_cases hb : b = a
      · have z' := (if_pos hb).symm.trans z
        cases z'
        subst hb
        exact ⟨ha, by rw [List.length_map]; exact hl, vs, 0, rv, ha⟩
      · have z' := (if_neg hb).symm.trans z
        cases z'
    · by_cases hb : b = a
      · exact hb
      · exact absurd (if_neg hb) z
  | some o =>
    have e := KX a o hk
    rw [ha] at e
    cases e
    refine core (fun _ => none) (fun _ => .inl rfl) (.inr ⟨_, vs.toArray, 0, hk, rfl, rfl, rfl, by rw [List.size_toArray, lenV]; exact hl, rv⟩) (fun b u z => by cases z) (fun b z => absurd rfl z) fun z => absurd rfl z
/-- the end of a law: what the top has written, and that the law's function answers True -/
theorem walkZ {l : PySem.W.OpenLaw} {n k : Nat} {q : Program} {loose : List Str} {XP : (Str → Option Value) → Heap → Prop} {YP : World → Heap → Prop} {d : DefRec} {K : Params → PySem.W.Frag} {g : FF} {x : Str} (hn : l.most = some n) (hn2 : n ≤ sizeLine) (hdf : d.params.defaults = []) (hr : Room k callerA)
    (hY : ∀ (w : World) (h : Heap), YP w h → (K w.params).In h) (hT : ∀ w : World, tabOf (K w.params) = [])
    (F : ∀ (w : World) (mg : Str → Option Value) (fa : Addr) (h : Heap), (K w.params).In h → h.Ns mainGlobals mg → mg d.name = some (.ref fa) →
      ∃ fd : FuncData, (∀ (s : Shared) (u : Value), BindsTo s fd ⟨[u], []⟩ [(x, u)]) ∧ ∀ base : Heap, (K w.params).In base → base.Ns mainGlobals mg → ZF true l.prog w (K w.params) mg base k fa fd [x] g)
    (hsp : ∀ ns : List Int, ns.length ≤ n → ∃ m, g [.fl (ns.map .int)] [] = .ok (.bl true) m) :
    PySem.W.WalkO q loose XP YP l.row.toRowW d [] (fun f vs => PySem.call f vs) :=
  Att.attach_call hn hdf fun w s₀ s₁ mg mb fa o pm cd doc a vs ns G Y ho hd hcd hmg hobj hints hlen hg => by
    obtain ⟨fd, hb, hF⟩ := F w mg fa s₁.heap (hY w s₁.heap Y) G.T.g hmg
    exact law_callZ (hT w) (hY w s₁.heap Y) G.T.g G.T.b G.T.builtins G.T.nolimit hg hobj hints (Nat.le_trans hlen hn2) hr hF hb (hsp ns hlen)
end Z

namespace Z
open PySem PySem.Spec PyProof.Rows L2

/-! ### defs by their names -/
def DefAt (K : PySem.W.Frag) (mg : Str → Option Value) (x : Str) (st : Stmt) (ps : List Str) : Prop := ∃ f fd, Fun K x x st f fd ∧ mg x = some (.ref f) ∧ PySem.W.keepIn K (.ref f) = true ∧ Binds K fd ps [] ∧ PySem.W.nsIn K mainGlobals x = some (some (.ref f))
def ZD (r : Bool) (P : Program) (w : World) (K : PySem.W.Frag) (mg : Str → Option Value) (base : Heap) (k : Nat) (x : Str) (ps : List Str) (g : FF) : Prop := ∃ f fd, mg x = some (.ref f) ∧ PySem.W.keepIn K (.ref f) = true ∧ Binds K fd ps [] ∧ ZF r P w K mg base k f fd ps g
theorem zd_of {rq : Bool} {P : Program} {w : World} {K : PySem.W.Frag} {mg : Str → Option Value} {base : Heap} {x : Str} {st : Stmt} {N ps : List Str} {k : Nat} {b : SF} (T : DefAt K mg x st ps) (S : FnScope N ps (defScope st))
    (hbody : ∀ (f : Addr) (cdv : Value), (∀ c P, PySem.W.tabIn K x = some (c, P) → cdv = .ref c) → ∀ (A : Around) (outer : List Env) (s : Shared) (H : Hp) (E : XK), Room k (A.deeper (envOfC x (defScope st) s.heap.objs.size f cdv)) → (rq = true → A.guards = some []) →
      ZB (cxOf (L2.CX P w) P w K mg base N x (defScope st) f cdv A outer s H E) (fun c d _ H' => E c d H') (defBody st) b) : ZD rq P w K mg base (k + 1) x ps (fnF ps.length N.length b) := by
  obtain ⟨f, fd, F, h1, h2, h3, h4⟩ := T
  exact ⟨f, fd, h1, h2, h3, zf_of F S fun cdv hc => hbody f cdv (hc h4)⟩
theorem ZD.mono {r : Bool} {P : Program} {w : World} {K : PySem.W.Frag} {mg : Str → Option Value} {base : Heap} {j k : Nat} {x : Str} {ps : List Str} {g : FF} (h : ZD r P w K mg base j x ps g) (hj : j ≤ k) : ZD r P w K mg base k x ps g := by
  obtain ⟨f, fd, h1, h2, h3, h4⟩ := h
  exact ⟨f, fd, h1, h2, h3, h4.mono hj⟩
section
variable {X : Cx} {W : WX} {pos p : Pos} {k : Nat} {ps : List Str} {x : Str} {e : Expr} {es : List Expr} {t : AF} {g : FF}
theorem z_fn {rq : Bool} (Z0 : ZD rq X.prog X.w X.K X.mg X.base k x ps g) (hgl : ∀ ds m, ds.length ≠ ps.length → g ds m = .bad) (hr : Room k X.A) (hgd : rq = true → X.A.guards = some []) (hg : Gl X x) (tk : Takes X W)
    (ha : ZA X W (e :: es) t) (hdb : (x == ("__debug__" : Str)) = false := by decide) (he : starEach (e :: es) X.env = (false, eval e X.env) :: starEach es X.env := by rfl) (hpl : (backTo pos (starEach es X.env)).any (·.1) = false := by rfl) :
    ZE X W (.Call (.Name x p) (e :: es) [] pos) (eBlt g t) := by
  obtain ⟨f, fd, h1, h2, h3, h4⟩ := Z0
  exact z_call h4 hgl hr hgd hg h1 h2 h3 tk ha hdb he hpl
theorem z_fn0 {rq : Bool} (Z0 : ZD rq X.prog X.w X.K X.mg X.base k x [] g) (hr : Room k X.A) (hgd : rq = true → X.A.guards = some []) (hg : Gl X x) (tk : Takes X W) (hdb : (x == ("__debug__" : Str)) = false := by decide) : ZE X W (.Call (.Name x p) [] [] pos) (eBlt g aNil) := by
  obtain ⟨f, fd, h1, h2, h3, h4⟩ := Z0
  refine ⟨fun pins s σ H Q I ⟨F, ι, ρ, m, hρ, hm', hp⟩ => ?_⟩
  refine wpAny_Call_Name_kw (ld_glob I hg h1 (PySem.W.callWith_K0 I.kIn h2 ?_) hdb)
  have hb' := h3 s [] I.kIn rfl
  exact zrun h4 hr hgd tk I hb' .nil rfl .nil hm' hp
end
/-! an exception class of the text: with one field, with two, with none -/
structure Cls1 (K : PySem.W.Frag) (mg : Str → Option Value) (C : Str) (st : Stmt) (f : Str) : Prop where
  at' : ∃ CA fI fd, mg C = some (.ref CA) ∧ OexC K CA ∧ XCls K CA ∧ XfC K CA ∧ PySem.W.findIn K (.ref CA) f = some none ∧ PySem.W.findIn K (.ref CA) "__init__" = some (some (.ref fI)) ∧ PySem.W.typeIn K (.ref fI) = some (.type "function") ∧ Fun K "__init__" (C ++ ".__init__") st fI fd ∧ Binds K fd ["self", f] []
structure Cls2 (K : PySem.W.Frag) (mg : Str → Option Value) (C : Str) (st : Stmt) (f g : Str) : Prop where
  at' : ∃ CA fI fd, mg C = some (.ref CA) ∧ OexC K CA ∧ XCls K CA ∧ XfC K CA ∧ PySem.W.findIn K (.ref CA) f = some none ∧ PySem.W.findIn K (.ref CA) g = some none ∧ PySem.W.findIn K (.ref CA) "__init__" = some (some (.ref fI)) ∧ PySem.W.typeIn K (.ref fI) = some (.type "function") ∧ Fun K "__init__" (C ++ ".__init__") st fI fd ∧ Binds K fd ["self", f, g] []
structure Cls0 (K : PySem.W.Frag) (mg : Str → Option Value) (C : Str) : Prop where
  at' : ∃ CA bmB B newId initId, mg C = some (.ref CA) ∧ ExcBaseFacts B newId initId bmB ∧ PySem.W.excIn K CA bmB newId = true ∧ PySem.W.keepIn K (.ref CA) = true ∧ XCls K CA
section
variable {X : Cx} {W : WX} {pos p p1 p2 p3 p4 q1 q2 q3 q4 : Pos} {C f g : Str} {st : Stmt} {e e2 : Expr} {fe fe2 : EF}
theorem z_mk1 (T : Cls1 X.K X.mg C st f) (S : FnScope ["self", f] ["self", f] (defScope st)) (hr : Room 2 X.A) (hg : Gl X C) (ha : ZE X W e fe)
    (hb : defBody st = [.Assign [.Attribute (.Name "self" p1) f p2] (.Name f p3) p4] := by rfl)
    (hv0 : (defScope st).names.lookup ("self" : Str) = some .local := by rfl) (hv1 : (defScope st).names.lookup f = some .local := by rfl) (hd : (f == ("__debug__" : Str)) = false := by decide) (hcd : (f == ("__classdict__" : Str)) = false := by decide)
    (hdb : (C == ("__debug__" : Str)) = false := by decide) (he : starEach [e] X.env = (false, eval e X.env) :: starEach [] X.env := by rfl) (hpl : (backTo pos (starEach ([] : List Expr) X.env)).any (·.1) = false := by rfl) :
    ZE X W (.Call (.Name C p) [e] [] pos) (eNew1 C f (aCons fe aNil)) := by
  obtain ⟨CA, fI, fd, hm, hO, hX, hF, hn, hi, ht, hFn, hB⟩ := T.at'
  exact z_new1 hO hi ht (init1 (p1 := p1) (p2 := p2) (p3 := p3) (p4 := p4) hFn S hO hn hv0 hv1 hd hcd hb) hB hr hg hm ha hdb he hpl
theorem z_mk2 (T : Cls2 X.K X.mg C st f g) (S : FnScope ["self", f, g] ["self", f, g] (defScope st)) (hr : Room 2 X.A) (hg : Gl X C) (ha : ZE X W e fe) (ha2 : ZE X W e2 fe2)
    (hb : defBody st = [.Assign [.Attribute (.Name "self" p1) f p2] (.Name f p3) p4, .Assign [.Attribute (.Name "self" q1) g q2] (.Name g q3) q4] := by rfl)
    (hv0 : (defScope st).names.lookup ("self" : Str) = some .local := by rfl) (hv1 : (defScope st).names.lookup f = some .local := by rfl) (hv2 : (defScope st).names.lookup g = some .local := by rfl) (hd : (f == ("__debug__" : Str)) = false := by decide) (hcd : (f == ("__classdict__" : Str)) = false := by decide) (hd2 : (g == ("__debug__" : Str)) = false := by decide) (hcd2 : (g == ("__classdict__" : Str)) = false := by decide)
    (hdb : (C == ("__debug__" : Str)) = false := by decide) (he : starEach [e, e2] X.env = (false, eval e X.env) :: starEach [e2] X.env := by rfl) (he2 : starEach [e2] X.env = (false, eval e2 X.env) :: starEach [] X.env := by rfl) (hpl : (backTo pos (starEach [e2] X.env)).any (·.1) = false := by rfl) :
    ZE X W (.Call (.Name C p) [e, e2] [] pos) (eNew2 C f g (aCons fe (aCons fe2 aNil))) := by
  obtain ⟨CA, fI, fd, hm, hO, hX, hF, hn, hn2, hi, ht, hFn, hB⟩ := T.at'
  exact z_new2 hO hi ht (init2 (p1 := p1) (p2 := p2) (p3 := p3) (p4 := p4) (q1 := q1) (q2 := q2) (q3 := q3) (q4 := q4) hFn S hO hn hn2 hv0 hv1 hv2 hd hcd hd2 hcd2 hb) hB hr hg hm ha ha2 hdb he he2 hpl
theorem z_mk0 (T : Cls0 X.K X.mg C) (hg : Gl X C) (hdb : (C == ("__debug__" : Str)) = false := by decide) : ZE X W (.Call (.Name C p) [] [] pos) (eNew0 C) := by
  obtain ⟨CA, bmB, B, newId, initId, hm, h1, h2, h3, h4⟩ := T.at'
  exact z_new0 h1 h2 hm h3 hg hdb
theorem Cls1.fld {K : PySem.W.Frag} {mg : Str → Option Value} (T : Cls1 K mg C st f) : ∀ CA, mg C = some (.ref CA) → XfC K CA ∧ PySem.W.findIn K (.ref CA) f = some none := fun CA h => by
  obtain ⟨CA', fI, fd, hm, hO, hX, hF, hn, _⟩ := T.at'
  rw [hm] at h
  cases h
  exact ⟨hF, hn⟩
theorem Cls2.fld1 {K : PySem.W.Frag} {mg : Str → Option Value} (T : Cls2 K mg C st f g) : ∀ CA, mg C = some (.ref CA) → XfC K CA ∧ PySem.W.findIn K (.ref CA) f = some none := fun CA h => by
  obtain ⟨CA', fI, fd, hm, hO, hX, hF, hn, _⟩ := T.at'
  rw [hm] at h
  cases h
  exact ⟨hF, hn⟩
theorem Cls2.fld2 {K : PySem.W.Frag} {mg : Str → Option Value} (T : Cls2 K mg C st f g) : ∀ CA, mg C = some (.ref CA) → XfC K CA ∧ PySem.W.findIn K (.ref CA) g = some none := fun CA h => by
  obtain ⟨CA', fI, fd, hm, hO, hX, hF, hn, hn2, _⟩ := T.at'
  rw [hm] at h
  cases h
  exact ⟨hF, hn2⟩
end
theorem Cls1.mg {K : PySem.W.Frag} {mg : Str → Option Value} {C f : Str} {st : Stmt} (T : Cls1 K mg C st f) : ∃ CA, mg C = some (.ref CA) := by
  obtain ⟨CA, fI, fd, hm, _⟩ := T.at'
  exact ⟨CA, hm⟩
theorem Cls2.mg {K : PySem.W.Frag} {mg : Str → Option Value} {C f g : Str} {st : Stmt} (T : Cls2 K mg C st f g) : ∃ CA, mg C = some (.ref CA) := by
  obtain ⟨CA, fI, fd, hm, _⟩ := T.at'
  exact ⟨CA, hm⟩
theorem Cls0.mg {K : PySem.W.Frag} {mg : Str → Option Value} {C : Str} (T : Cls0 K mg C) : ∃ CA, mg C = some (.ref CA) := by
  obtain ⟨CA, bmB, B, newId, initId, hm, _⟩ := T.at'
  exact ⟨CA, hm⟩
theorem z_gloC {X : Cx} {W : WX} {pos : Pos} {x : Str} (hg : Gl X x) (h : ∃ CA, X.mg x = some (.ref CA)) (hd : (x == ("__debug__" : Str)) = false := by decide) : ZE X W (.Name x pos) (eCon (.glo x)) := by
  obtain ⟨CA, h⟩ := h
  exact z_glo hg h hd
theorem z_gloD {X : Cx} {W : WX} {pos : Pos} {x : Str} {st : Stmt} {ps : List Str} (hg : Gl X x) (h : DefAt X.K X.mg x st ps) (hd : (x == ("__debug__" : Str)) = false := by decide) : ZE X W (.Name x pos) (eCon (.glo x)) := by
  obtain ⟨f, fd, _, h, _⟩ := h
  exact z_glo hg h hd
/-! comprehensions as statements -/
section
variable {X : Cx} {W : WX} {elt tg iter : Expr} {ifs : List Expr} {scope : Scope} {own : List (Str × Nat)} {pos spos py : Pos} {it : IF} {g : GF} {tt : TF} {f : EF} {i : Nat} {y : Str}
theorem z_setLc (hc : X.calm = true) (hN : X.N.Nodup) (hy : X.N[i]? = some y) (hyl : X.env.scope.names.lookup y = some .local) (hsw : swapsWith (.ListComp elt [⟨tg, iter, ifs, 0⟩] scope pos) (some (.Name y py)) spos.line X.env = pure true)
    (hi : ZI X W tg iter it) (ok : BlkOk X.N X.env.scope scope own)
    (hg : ∀ (s : Shared) (H : Hp) (C : Addr) (cl : List (Str × Addr)) (fp : List Addr), ZGo (X.blk s H scope (compEnvC scope cl C X.env) fp) (own.map (·.2)) tg g)
    (ht : ∀ (s : Shared) (H : Hp) (C : Addr) (cl : List (Str × Addr)) (fp : List Addr), ZTs (X.blk s H scope (compEnvC scope cl C X.env) fp) ifs tt)
    (he : ∀ (s : Shared) (H : Hp) (C : Addr) (cl : List (Str × Addr)) (fp : List Addr), ZE (X.blk s H scope (compEnvC scope cl C X.env) fp) WN elt f)
    (hs : ∀ x, foldedSetIterable iter X.env x = pure x := by intro _; rfl) : ZS X W (.Assign [.Name y py] (.ListComp elt [⟨tg, iter, ifs, 0⟩] scope pos) spos) (sSet i (eLc it (own.map (·.2)) g tt f)) := by
  refine PS.imp (ps_setLc (g := tGo X.K X.mg (own.map (·.2)) g) (tt := tT X.K X.mg WN tt) (te := tE X.K X.mg WN f) hc hN hy hyl hsw hi ok hg ht he hs) fun D σ H ⟨F, ι, ρ, m, hρ, hm, hp⟩ => ?_
  refine lcS ⟨F, ι, ρ, m, hρ, hm, ?_⟩
  exact Post.stm hp hρ fun d m1 ι1 H1 v _ e1 h1 r1 hp1 => hp1 ι1 H1 _ .refl h1 ((hρ.mono e1).set i r1)
theorem z_setLcC (hc : X.calm = true) (hN : X.N.Nodup) (hy : X.N[i]? = some y) (hyl : X.env.scope.names.lookup y = some .local) (hsw : swapsWith (.ListComp elt [⟨tg, iter, ifs, 0⟩] scope pos) (some (.Name y py)) spos.line X.env = pure true)
    (hi : ZI X W tg iter it) (ok : BlkOk X.N X.env.scope scope own)
    (hg : ∀ (s : Shared) (H : Hp) (C : Addr) (cl : List (Str × Addr)) (fp : List Addr), ZGo (X.blk s H scope (compEnvC scope cl C X.env) fp) (own.map (·.2)) tg g)
    (ht : ∀ (s : Shared) (H : Hp) (C : Addr) (cl : List (Str × Addr)) (fp : List Addr), ZTs (X.blk s H scope (compEnvC scope cl C X.env) fp) ifs tt)
    (he : ∀ (s : Shared) (H : Hp) (C : Addr) (cl : List (Str × Addr)) (fp : List Addr), ZE (X.blk s H scope (compEnvC scope cl C X.env) fp) WN elt f)
    (hs : ∀ x, foldedSetIterable iter X.env x = pure x := by intro _; rfl) : ZS X W (.Assign [.Name y py] (.ListComp elt [⟨tg, iter, ifs, 0⟩] scope pos) spos) (sSet i (eLcC it (own.map (·.2)) g tt f)) := by
  refine PS.imp (ps_setLc (g := tGo X.K X.mg (own.map (·.2)) g) (tt := tT X.K X.mg WN tt) (te := tE X.K X.mg WN f) hc hN hy hyl hsw hi ok hg ht he hs) fun D σ H ⟨F, ι, ρ, m, hρ, hm, hp⟩ => ?_
  refine lcC ⟨F, ι, ρ, m, hρ, hm, ?_⟩
  exact Post.stm hp hρ fun d m1 ι1 H1 v _ e1 h1 r1 hp1 => hp1 ι1 H1 _ .refl h1 ((hρ.mono e1).set i r1)
theorem blkOk {N : List Str} {sc scope : Scope} {own : List (Str × Nat)} (h1 : scope.kind = .function) (h2 : ∀ y ∈ scope.names, scope.names.lookup y.1 = some y.2) (h3 : ∀ p ∈ own, N[p.2]? = some p.1)
    (h4 : ∀ y ∈ scope.names, y.2 = .free → sc.names.lookup y.1 = some .cell ∨ sc.names.lookup y.1 = some .free) (h5 : ∀ y ∈ scope.names, y.2 = .local ∨ y.2 = .cell → y.1 ∈ own.map (·.1) ∨ ¬ y.1 ∈ N) : BlkOk N sc scope own := ⟨h1, h2, h3, h4, h5⟩
end
end Z

namespace Z
open PySem PySem.Spec PyProof.Rows L2

/-! ### what the top has written -/
section
variable {K : PySem.W.Frag} {h : Heap} {mg : Str → Option Value} (X : K.In h) (G : h.Ns mainGlobals mg)
include X G
theorem def_mk {x : Str} {st : Stmt} {ps : List Str} {f : Addr} {od an : Option Addr} {sl : Array (Option Value)} {oc kV dc pm cd ct : Value}
    (a : PySem.W.nsIn K mainGlobals x = some (some (.ref f))) (l : K.lookup f = some ⟨oc, od, .func (PySem.W.fnOf x x (defArgs st) (defBody st) (defScope st) .none kV dc pm an cd ct), sl⟩) (c : PySem.W.codeIn K cd x = true) (k : PySem.W.keepIn K (.ref f) = true)
    (hb : ∀ fd, Fun K x x st f fd → Binds K fd ps []) : DefAt K mg x st ps :=
  ⟨f, _, fun_mk (st := st) l c k, PySem.W.mg_of X G a, k, hb _ (fun_mk (st := st) l c k), a⟩
theorem ns_mk {x : Str} {A : Addr} (a : PySem.W.nsIn K mainGlobals x = some (some (.ref A))) : PySem.W.nsIn K mainGlobals x = some (some (.ref A)) := a
theorem xcls_mk {C : Str} {CA : Addr} (aC : PySem.W.nsIn K mainGlobals C = some (some (.ref CA))) (ga : PySem.W.findIn K (.ref CA) "__getattribute__" = some (some (.builtin "BaseException.__getattribute__"))) (gg : PySem.W.findIn K (.ref CA) "__getattr__" = some none) (eC : PySem.W.subIn K (.ref CA) (.type "BaseException") = some true) (hC : PySem.W.hasDictIn K CA = true)
    (hc : PySem.W.findIn K (.ref CA) "__class__" = some (some (.builtin "object.__class__"))) (hn : PySem.W.specialIn K (.builtin "object.__class__") "__get__" = some (some (.builtin "getset_descriptor.__get__"))) (ht : PySem.W.takesIn K (.builtin "object.__class__") = some true) (hm : PySem.W.mroIn K CA (.type "object") = some true) (iC : PySem.W.isClsIn K CA = true) : XCls K CA :=
  ⟨⟨ga, gg, eC, hC, hc, hn, ht, hm⟩, iC⟩
theorem cls1_mk {C f : Str} {st : Stmt} {CA fI N : Addr} {nm q : Str} {bs bm : List Value} {sn : List Str} {sub : List Value} {ab : Bool} {col : Option Bool} {dd : Option Addr} {m0 m1 m2 m3 m5 : Option Value} {od an : Option Addr} {sl : Array (Option Value)} {oc kV dc pm cd ct : Value}
    (aC : PySem.W.nsIn K mainGlobals C = some (some (.ref CA))) (xL : K.lookup CA = some (excClassObj nm q CA N bs bm true sn sub ab col dd m0 m1 m2 m3 m5 "ValueError.__new__")) (rB : HandSPX.refsVE bm = true)
    (sa : PySem.W.findIn K (.ref CA) "__setattr__" = some (some (.builtin "object.__setattr__"))) (eC : PySem.W.subIn K (.ref CA) (.type "BaseException") = some true) (tC : PySem.W.typeIn K (.ref CA) = some (.type "type")) (kC : PySem.W.keepIn K (.ref CA) = true)
    (xc : XCls K CA) (nf : PySem.W.findIn K (.ref CA) f = some none)
    (a1 : PySem.W.findIn K (.ref CA) "__init__" = some (some (.ref fI))) (t1 : PySem.W.typeIn K (.ref fI) = some (.type "function"))
    (l1 : K.lookup fI = some ⟨oc, od, .func (PySem.W.fnOf "__init__" (C ++ ".__init__") (defArgs st) (defBody st) (defScope st) .none kV dc pm an cd ct), sl⟩) (c1 : PySem.W.codeIn K cd (C ++ ".__init__") = true) (k1 : PySem.W.keepIn K (.ref fI) = true)
    (hb : ∀ fd, Fun K "__init__" (C ++ ".__init__") st fI fd → Binds K fd ["self", f] []) : Cls1 K mg C st f :=
  ⟨CA, fI, _, PySem.W.mg_of X G aC, ⟨⟨nm, q, N, bs, bm, sn, sub, ab, col, dd, m0, m1, m2, m3, m5, xL, rB⟩, sa, eC, tC, kC⟩, xc, ⟨xc.ex.hg, xc.ex.hk, xc.ex.hs, xc.ex.hd⟩, nf, a1, t1, fun_mk (st := st) l1 c1 k1, hb _ (fun_mk (st := st) l1 c1 k1)⟩
theorem cls2_mk {C f g : Str} {st : Stmt} {CA fI N : Addr} {nm q : Str} {bs bm : List Value} {sn : List Str} {sub : List Value} {ab : Bool} {col : Option Bool} {dd : Option Addr} {m0 m1 m2 m3 m5 : Option Value} {od an : Option Addr} {sl : Array (Option Value)} {oc kV dc pm cd ct : Value}
    (aC : PySem.W.nsIn K mainGlobals C = some (some (.ref CA))) (xL : K.lookup CA = some (excClassObj nm q CA N bs bm true sn sub ab col dd m0 m1 m2 m3 m5 "ValueError.__new__")) (rB : HandSPX.refsVE bm = true)
    (sa : PySem.W.findIn K (.ref CA) "__setattr__" = some (some (.builtin "object.__setattr__"))) (eC : PySem.W.subIn K (.ref CA) (.type "BaseException") = some true) (tC : PySem.W.typeIn K (.ref CA) = some (.type "type")) (kC : PySem.W.keepIn K (.ref CA) = true)
    (xc : XCls K CA) (nf : PySem.W.findIn K (.ref CA) f = some none) (nf2 : PySem.W.findIn K (.ref CA) g = some none)
    (a1 : PySem.W.findIn K (.ref CA) "__init__" = some (some (.ref fI))) (t1 : PySem.W.typeIn K (.ref fI) = some (.type "function"))
    (l1 : K.lookup fI = some ⟨oc, od, .func (PySem.W.fnOf "__init__" (C ++ ".__init__") (defArgs st) (defBody st) (defScope st) .none kV dc pm an cd ct), sl⟩) (c1 : PySem.W.codeIn K cd (C ++ ".__init__") = true) (k1 : PySem.W.keepIn K (.ref fI) = true)
    (hb : ∀ fd, Fun K "__init__" (C ++ ".__init__") st fI fd → Binds K fd ["self", f, g] []) : Cls2 K mg C st f g :=
  ⟨CA, fI, _, PySem.W.mg_of X G aC, ⟨⟨nm, q, N, bs, bm, sn, sub, ab, col, dd, m0, m1, m2, m3, m5, xL, rB⟩, sa, eC, tC, kC⟩, xc, ⟨xc.ex.hg, xc.ex.hk, xc.ex.hs, xc.ex.hd⟩, nf, nf2, a1, t1, fun_mk (st := st) l1 c1 k1, hb _ (fun_mk (st := st) l1 c1 k1)⟩
theorem cls0_mk {C : Str} {CA : Addr} {bmB : List Value} {B newId initId : String} (aC : PySem.W.nsIn K mainGlobals C = some (some (.ref CA))) (F : ExcBaseFacts B newId initId bmB) (q : PySem.W.excIn K CA bmB newId = true) (kC : PySem.W.keepIn K (.ref CA) = true) (xc : XCls K CA) : Cls0 K mg C :=
  ⟨CA, bmB, B, newId, initId, PySem.W.mg_of X G aC, F, q, kC, xc⟩
theorem none_mk {x : Str} (z : PySem.W.nsIn K mainGlobals x = some none) : mg x = none := PySem.W.mg_none_of X G z
end
/-! kinds of errors that are each its own class under one root -/
def ktOf (root : Str) (kids : List Str) : KTab := fun C c => if kids.contains C = true then (match c with
  | .ty n => if n = "ValueError" then some true else none
  | .glo x => if x = root then some true else if kids.contains x = true then some (decide (C = x)) else none
  | _ => none) else none
def kitChk (K : PySem.W.Frag) (L : List (Str × Addr)) (R : Addr) : Bool := L.all fun p => PySem.W.kitOne K (.ref p.2) (.type "ValueError") == some true && PySem.W.kitOne K (.ref p.2) (.ref R) == some true && L.all fun q => PySem.W.kitOne K (.ref p.2) (.ref q.2) == some (decide (p.1 = q.1))
theorem kok_mk {K : PySem.W.Frag} {mg : Str → Option Value} {root : Str} {kids : List Str} (L : List (Str × Addr)) (R : Addr) (hk : kids = L.map (·.1)) (hm : ∀ p ∈ L, mg p.1 = some (.ref p.2)) (hx : ∀ p ∈ L, XCls K p.2) (hR : mg root = some (.ref R)) (h : kitChk K L R = true) : KOk K mg (ktOf root kids) := by
  intro C c b hb CA hC
  unfold ktOf at hb
  split at hb
  · rename_i h1
    rw [hk] at h1
    have h1 : C ∈ L.map (·.1) := by simpa using h1
    obtain ⟨p, hp, rfl⟩ := List.mem_map.mp h1
    have e := hm p hp
    rw [hC] at e
    cases e
    refine ⟨hx p hp, ?_⟩
    have hq := List.all_eq_true.mp h p hp
    rw [Bool.and_eq_true, Bool.and_eq_true] at hq
    obtain ⟨⟨q1, q2⟩, q3⟩ := hq
    split at hb
    · rename_i n
      split at hb
      · rename_i e
        cases hb
        subst e
        exact .inl ⟨_, rfl, by simpa using q1⟩
      · cases hb
    · rename_i x
      refine .inr ⟨x, rfl, fun A2 hA => ?_⟩
      split at hb
      · rename_i e
        cases hb
        subst e
        rw [hR] at hA
        cases hA
        simpa using q2
      · split at hb
        · rename_i h2
          cases hb
          rw [hk] at h2
          have h2 : x ∈ L.map (·.1) := by simpa using h2
          obtain ⟨q, hq, rfl⟩ := List.mem_map.mp h2
          have e := hm q hq
          rw [hA] at e
          cases e
          have := List.all_eq_true.mp q3 q hq
          simpa using this
        · cases hb
    · cases hb
  · cases hb
theorem bindsTo_of {K : PySem.W.Frag} {x : Str} {st : Stmt} {f : Addr} {fd : FuncData} {y : Str} (F : Fun K x x st f fd) (hb : ∀ (kV doc pm : Value) (an : Option Addr) (cdv ct u : Value), bindArgs (PySem.W.fnOf x x (defArgs st) (defBody st) (defScope st) .none kV doc pm an cdv ct) ⟨[u], []⟩ = pure [(y, u)]) (s : Shared) (u : Value) : BindsTo s fd ⟨[u], []⟩ [(y, u)] := by
  obtain ⟨oc, od, kV, doc, pm, an, cdv, ct, osl, rfl, lk, hcd⟩ := F.ex
  exact .of_eq (hb kV doc pm an cdv ct u)
def AllAt (K : PySem.W.Frag) (mg : Str → Option Value) (L : List (Str × Addr)) : Prop := ∀ p ∈ L, mg p.1 = some (.ref p.2) ∧ XCls K p.2
section
variable {K : PySem.W.Frag} {h : Heap} {mg : Str → Option Value} (X : K.In h) (G : h.Ns mainGlobals mg)
theorem allat_nil : AllAt K mg [] := fun p hp => by cases hp
include X G
theorem allat_cons {C : Str} {CA : Addr} {L : List (Str × Addr)} (aC : PySem.W.nsIn K mainGlobals C = some (some (.ref CA))) (xC : XCls K CA) (r : AllAt K mg L) : AllAt K mg ((C, CA) :: L) := fun p hp => by
  rcases List.mem_cons.mp hp with q | q
  · subst q; exact ⟨PySem.W.mg_of X G aC, xC⟩
  · exact r p q
theorem kok_of {root : Str} {kids : List Str} {L : List (Str × Addr)} {R : Addr} (r : AllAt K mg L) (hk : kids = L.map (·.1)) (aR : PySem.W.nsIn K mainGlobals root = some (some (.ref R))) (hc : kitChk K L R = true) : KOk K mg (ktOf root kids) :=
  kok_mk L R hk (fun p hp => (r p hp).1) (fun p hp => (r p hp).2) (PySem.W.mg_of X G aR) hc
end
theorem fin_mk {P : Program} {w : World} {K : PySem.W.Frag} {mg : Str → Option Value} {k : Nat} {fa : Addr} {st : Stmt} {g : FF} (D : DefAt K mg "law" st ["script"]) (hfa : mg "law" = some (.ref fa))
    (hb : ∀ (kV doc pm : Value) (an : Option Addr) (cdv ct u : Value), bindArgs (PySem.W.fnOf "law" "law" (defArgs st) (defBody st) (defScope st) .none kV doc pm an cdv ct) ⟨[u], []⟩ = pure [(("script" : Str), u)])
    (hz : ∀ f fd, Fun K "law" "law" st f fd → PySem.W.nsIn K mainGlobals "law" = some (some (.ref f)) → ∀ base, ZF true P w K mg base k f fd ["script"] g) :
    ∃ fd : FuncData, (∀ (s : Shared) (u : Value), BindsTo s fd ⟨[u], []⟩ [("script", u)]) ∧ ∀ base : Heap, K.In base → base.Ns mainGlobals mg → ZF true P w K mg base k fa fd ["script"] g := by
  obtain ⟨f, fd, F, h1, _, _, h4⟩ := D
  rw [hfa] at h1
  cases h1
  exact ⟨fd, fun s u => bindsTo_of F hb s u, fun base _ _ => hz fa fd F h4 base⟩
end Z

namespace Z
open PySem PySem.Spec PyProof.Rows L2

/-! ### except (C,): a tuple of one class -/
theorem sub_tuple : isSubtype (.type "tuple") (.type "tuple") = pure true := by rfl
theorem exm_tup {M : Model} {K : PySem.W.Frag} {c cls : Value} {e p : Addr} {b : Bool} {h : Heap} {o : Obj} (X : K.In h) (LT : PySem.W.Looks M h (typeOf (.ref e)) cls) (hx : PySem.W.exmOne K cls c = some b)
    (hp : h.get? p = some o) (hc : o.cls = .type "tuple") (n : Nat) (hd : o.data = .seq #[c] n) : PySem.W.Looks M h (excMatches (.ref e) (.ref p)) b := by
  intro A Q E s k q
  obtain ⟨e1, S1⟩ := PySem.W.exm_cls (M := M) X hx
  have e1 := PySem.W.Looks.keeps e1 k
  have S1 := PySem.W.Looks.keeps S1 k
  have LT := PySem.W.Looks.keeps LT k
  have hp := k p o hp
  obtain ⟨hh, g, d, tk, os⟩ := s
  unfold excMatches
  refine wpAny_bind ?_
  refine wpAny_bind (wpAny_typeOf_ref hp ?_)
  rw [hc]
  refine wpAny_of_eq sub_tuple ?_
  dsimp only
  rw [if_pos rfl]
  refine wpAny_bind (wpAny_bind (wpAny_load hp ?_))
  rw [hd]
  refine wpAny_pure (wpAny_bind (wpAny_pure ?_))
  rw [show ((some #[c]).getD #[]).toList = [c] from rfl]
  simp only [List.forIn_cons, List.forIn_nil]
  refine wpAny_bind (wpAny_bind (wpAny_bind (e1.at ?_)))
  rw [if_neg (by simp)]
  refine wpAny_pure (wpAny_pure (wpAny_bind (LT.at ?_)))
  refine wpAny_bind (wpAny_bind (wpAny_bind (S1.at ?_)))
  cases b with
  | true =>
    rw [if_pos rfl]
    exact wpAny_pure (wpAny_pure (wpAny_pure q))
  | false =>
    rw [if_neg (by simp)]
    exact wpAny_pure (wpAny_pure (wpAny_pure q))
theorem frames_grow {h h' base : Heap} (k : ∀ (b : Addr) (o : Obj), h.get? b = some o → h'.get? b = some o) : ∀ {l : List Env}, h.FunFrames base l → h'.FunFrames base l
  | [], _ => by rw [Heap.FunFrames.eq_1]; trivial
  | env :: l, f => by
    rw [Heap.FunFrames.eq_2] at f ⊢
    obtain ⟨f1, ⟨L, o, f2, f3, f4, f5⟩, f6⟩ := f
    exact ⟨f1, ⟨L, o, f2, f3, k _ _ f4, f5⟩, frames_grow k f6⟩
theorem flying_grow {h h' base : Heap} {l : List Env} {e : Addr} {Z0 : Obj → Prop} (k : ∀ (b : Addr) (o : Obj), h.get? b = some o → h'.get? b = some o) (f : HandSPX.FlyingZ base l e Z0 h) : HandSPX.FlyingZ base l e Z0 h' := by
  obtain ⟨f1, f2, f3, oe, vs, T, oT, ts, g1, g2, g3, g4, g5, g6, g7, g8, g9⟩ := f
  exact ⟨fun b o q => k _ _ (f1 b o q), f2, frames_grow k f3, oe, vs, T, oT, ts, k _ _ g1, g2, g3, g4, g5, g6, k _ _ g7, g8, g9⟩
theorem up_grow {s h h' : Heap} (k : ∀ (b : Addr) (o : Obj), h.get? b = some o → h'.get? b = some o) (f : s.UpToSlots h) : s.UpToSlots h' := fun b o q n => by
  obtain ⟨sl, z⟩ := f b o q n
  exact ⟨sl, k _ _ z⟩
inductive HdT (X : Cx) (n : Str) : List ExceptHandler → List (Value × (Addr → Value → Option Addr → TS)) → Prop
  | nil : HdT X n [] []
  | cons {x : Str} {c : Value} {ts : Addr → Value → Option Addr → TS} {b₀ : Stmt} {suite : List Stmt} {np tp pos' : Pos} {kk : Nat} {hds : List ExceptHandler} {l : List (Value × (Addr → Value → Option Addr → TS))} :
    Names X x c → (∀ (a : Addr) (oe : Obj) (cls : Value) (d : Option Addr) (pn : List (Addr × Obj)), Zc cls d oe → (∃ vs, oe.data = .fields vs) → PSs (X.suite a ((a, oe) :: pn)) (b₀ :: suite) (ts a cls d)) →
    starEach [.Name x np] X.env = (false, eval (.Name x np) X.env) :: starEach [] X.env → HdT X n hds l → HdT X n (.ExceptHandler (some (.Tuple [.Name x np] kk tp)) (some n) (b₀ :: suite) pos' :: hds) ((c, ts) :: l)
def wT (K : PySem.W.Frag) (i : Nat) (D : Ends) : List (Value × (Addr → Value → Option Addr → TS)) → WX
  | [] => fun _ _ _ _ => False
  | (c, ts) :: r => fun cls d σ H => ∃ b, PySem.W.exmOne K cls c = some b ∧
      (b = true → ∀ a, H a = none → ts a cls d { nx := fun σ' H' => D.nx (σ'.set i none) H', rt := D.rt, bk := fun σ' H' => D.bk (σ'.set i none) H', ct := fun σ' H' => D.ct (σ'.set i none) H' } (σ.set i (some (.ref a))) H) ∧
      (b = false → wT K i D r cls d σ H)
theorem ps_try_tups {X : Cx} {n : Str} {i : Nat} {body : List Stmt} {h₀ : ExceptHandler} {hds : List ExceptHandler} {l : List (Value × (Addr → Value → Option Addr → TS))} {pos : Pos} {tb : WX → TS} (hs : X.stack = X.env :: X.outer) (hf : X.env.frame = some X.env.locals) (hN : X.N.Nodup) (hi : X.N[i]? = some n)
    (hln : X.env.kindOf n = some .local) (hloc : Loc X.env.scope n) (hfn : X.fn n = true ∨ X.env.scope.names.lookup n = some .local)
    (hb : ∀ (W : WX) (pn : List (Addr × Obj)) (xe : Value → Shared → Prop), Takes (X.tr pn xe) W → PassesOwn (model X.prog X.w) X.A X.env xe → PSs (X.tr pn xe) body (tb W)) (hh : HdT X n (h₀ :: hds) l) :
    PS X (.Try body (h₀ :: hds) [] [] pos) (fun D σ H => tb (wT X.K i D l) D σ H) := by
  refine ⟨fun pins s σ H D I h => ?_⟩
  have ok := I.ok
  have hfr : X.A.frames = some (X.env :: X.outer) := by rw [ok.frames, hs]
  refine wpAny_Try_except (wpAny_mono ((hb (wT X.K i D l) (X.pn ++ pins) (fun e s₁ => wpAny (model X.prog X.w) X.A (noteFrame e X.env)
      (fun _ s₂ => wpAny (model X.prog X.w) X.A (setFlight e none) (fun _ s₃ => wpAny (model X.prog X.w) X.A (handleBy e X.env (h₀ :: hds)) (SP X pins D) X.xe s₃) X.xe s₂) X.xe s₁)
      (fun u s' xx => ?_) PassesOwn.looking).run [] s σ H D (Inv.toTry I _) h) (fun f s1 hsp => ?_) fun e s1 he => he)
  · obtain ⟨a, B, sI, pins', σ', H', cls, d, rfl, J', nb, up, sky, na, os, ag, w⟩ := xx
    have J : Inv X pins σ' H' sI := Inv.ofTry J' ok
    have sky' : Sky B (X.env :: X.outer) a (Zc cls d) X.env.locals s'.heap := by rw [← hs]; exact sky
    refine Sky.land Zc.steady hfr hf sky' fun h3 fl3 up3 => ?_
    have go : ∀ {hds' l'}, HdT X n hds' l' → ∀ h3 : Heap, HandSPX.FlyingZ B (X.env :: X.outer) a (Zc cls d) h3 → s'.heap.UpToSlots h3 → wT X.K i D l' cls d σ' H' →
        wpAny (model X.prog X.w) X.A (handleBy (.ref a) X.env hds') (SP X pins D) X.xe ⟨h3, s'.gens, s'.drawn, s'.toks, s'.os⟩ := by
      intro hds' l' hk
      induction hk with
      | nil => intro h3 fl3 up3 w; exact w.elim
      | @cons x c ts b₀ suite np tp pos' kk hds2 l2 hc hsu hst r ih =>
        intro h3 fl3 up3 w
        obtain ⟨b, hb1, hyes, hno⟩ := w
        have J3 : Inv X pins σ' H' ⟨h3, s'.gens, s'.drawn, s'.toks, s'.os⟩ := Inv.landed J nb fl3.1 (Heap.UpToSlots.trans up up3) os ag
        obtain ⟨oe3, vs3, he3, hz3, hd3⟩ := HandSPX.FlyingZ.there fl3
        have nfr : a ∉ List.filterMap (fun x => x.frame) (X.env :: X.outer) := fun hm => by
          obtain ⟨_, o', e', hnf⟩ := Heap.FunFrames.mem fl3.2.2.1 hm
          rw [he3] at e'
          cases e'
          exact hnf vs3 hd3
        have nL : a ≠ X.env.locals := fun z => nfr (List.mem_filterMap.mpr ⟨X.env, List.mem_cons_self, by rw [hf, z]⟩)
        have nF : a ∉ X.fs := fun hm => by
          obtain ⟨e, he, q⟩ := List.mem_filterMap.mp hm
          exact nfr (List.mem_filterMap.mpr ⟨e, List.mem_cons_of_mem _ he, q⟩)
        have S3 := Inv.suite J3 he3 hd3 na nL nF
        refine wpAny_handleBy_cons (codeAny_handlers_test ?_) (fun q => by cases q)
        refine wpAny_Tuple ?_
        rw [hst]
        refine Calls.spliced_cons ?_
        have test : ∀ {Q : Value → Shared → Prop} {E : Value → Shared → Prop}, Q c ⟨h3, s'.gens, s'.drawn, s'.toks, s'.os⟩ → wpAny (model X.prog X.w) (X.A.mark (some (.ref a))) (eval (.Name x np) X.env) Q E ⟨h3, s'.gens, s'.drawn, s'.toks, s'.os⟩ := by
          intro Q E q
          obtain ⟨hg, hdbg, hm | ⟨hm, hv, hnn⟩⟩ := hc
          · exact ld_glob S3 hg hm q hdbg
          · exact ld_blt S3 hg hm hv q hnn hdbg
        refine test (Calls.spliced_nil ⟨by rw [sizeLine_eq]; simp, ?_⟩)
        have kk3 : ∀ (b : Addr) (o : Obj), h3.get? b = some o → (h3.push { cls := .type "tuple", data := .seq [c].toArray }).get? b = some o := fun b o e => Heap.get?_push_of_some _ e
        have fl4 := flying_grow kk3 fl3
        have up4 := up_grow kk3 up3
        have J4 : Inv X pins σ' H' ⟨h3.push { cls := .type "tuple", data := .seq [c].toArray }, s'.gens, s'.drawn, s'.toks, s'.os⟩ := Inv.landed J nb fl4.1 (Heap.UpToSlots.trans up up4) os ag
        have LT : PySem.W.Looks (model X.prog X.w) (h3.push { cls := .type "tuple", data := .seq [c].toArray }) (typeOf (.ref a)) cls := fun A Q E s k q => wpAny_typeOf_ref (k a oe3 (kk3 _ _ he3)) (by rw [hz3.1]; exact q)
        have LM := exm_tup (p := h3.objs.size) J4.kIn LT hb1 (Heap.get?_push_at rfl rfl) rfl _ rfl
        refine LM.here ?_
        cases b with
        | false => exact ih _ fl4 up4 (hno rfl)
        | true =>
          refine codeAny_handlers_suite_as (HandSPX.lands_againZ fl4 fun h5 fl5 up5 => ?_)
          have J5 : Inv X pins σ' H' ⟨h5, s'.gens, s'.drawn, s'.toks, s'.os⟩ := Inv.landed J nb fl5.1 (Heap.UpToSlots.trans (Heap.UpToSlots.trans up up4) up5) os ag
          obtain ⟨oe5, vs5, he5, hz5, hd5⟩ := HandSPX.FlyingZ.there fl5
          have S5 := Inv.suite J5 he5 hd5 na nL nF
          refine store_ok (X := X.suite a ((a, oe5) :: (X.pn ++ pins))) (v := .ref a) S5 hN hi hloc rfl (fun s6 S6 => wpAny_mono ((hsu a oe5 cls d (X.pn ++ pins) hz5 ⟨vs5, hd5⟩).run [] s6 (σ'.set i (some (.ref a))) H' _ S6 (hyes rfl a na)) (fun f s7 hsp => ?_) fun _ _ z => z.elim) hfn
          cases f with
          | next =>
            obtain ⟨σ7, H7, S7, q7⟩ := hsp
            exact gone_ok (Inv.unsuite S7 ok) hN hi hln fun s8 J8 => ⟨σ7.set i none, H7, J8, q7⟩
          | brk =>
            obtain ⟨σ7, H7, S7, q7⟩ := hsp
            exact gone_ok (Inv.unsuite S7 ok) hN hi hln fun s8 J8 => ⟨σ7.set i none, H7, J8, q7⟩
          | cont =>
            obtain ⟨σ7, H7, S7, q7⟩ := hsp
            exact gone_ok (Inv.unsuite S7 ok) hN hi hln fun s8 J8 => ⟨σ7.set i none, H7, J8, q7⟩
          | ret u =>
            obtain ⟨v, σ7, H7, S7, r7, q7⟩ := hsp
            exact gone_ok (Inv.unsuite S7 ok) hN hi hln fun s8 J8 => ⟨v, σ7.set i none, H7, J8, r7, q7⟩
    exact go hh h3 fl3 up3 w
  · cases f with
    | next =>
      obtain ⟨σ', H', J', q⟩ := hsp
      exact wpAny_execs_nil ⟨σ', H', Inv.ofTry J' ok, q⟩
    | brk =>
      obtain ⟨σ', H', J', q⟩ := hsp
      exact ⟨σ', H', Inv.ofTry J' ok, q⟩
    | cont =>
      obtain ⟨σ', H', J', q⟩ := hsp
      exact ⟨σ', H', Inv.ofTry J' ok, q⟩
    | ret u =>
      obtain ⟨v, σ', H', J', r, q⟩ := hsp
      exact ⟨v, σ', H', Inv.ofTry J' ok, r, q⟩
end Z

namespace Z
open PySem PySem.Spec PyProof.Rows L2

/-! ### raise -/
def sRaise1 (C f : Str) (a : AF) : SF := fun ρ m => (a ρ m).stm ρ fun ds m1 => match ds with
  | [x] => some (.er ⟨C, [(f, x)]⟩ ρ, m1)
  | _ => none
def sRaise2 (C f g : Str) (a : AF) : SF := fun ρ m => (a ρ m).stm ρ fun ds m1 => match ds with
  | [x, y] => some (.er ⟨C, [(g, y), (f, x)]⟩ ρ, m1)
  | _ => none
section
variable {X : Cx} {W : WX} {pos pos2 p p1 p2 p3 p4 q1 q2 q3 q4 : Pos} {C f g : Str} {st : Stmt} {e e2 : Expr} {fe fe2 : EF}
theorem xd_eq1 {H : Hp} {a dx : Addr} {o1 o2 o3 u : HO} (ha : H a = none) (hne : dx ≠ a) : upd (del (upd (upd (upd H a o1) dx o2) a o3) a) dx u = upd H dx u := by
  funext b
  by_cases h1 : b = dx
  · subst h1; rw [upd_same, upd_same]
  · rw [upd_ne h1, upd_ne h1]
    unfold del
    by_cases h2 : b = a
    · subst h2; rw [if_pos rfl, ha]
    · rw [if_neg h2, upd_ne h2, upd_ne h1, upd_ne h2]
theorem xd_eq2 {H : Hp} {a dx : Addr} {o1 o2 o3 o4 u : HO} (ha : H a = none) (hne : dx ≠ a) : upd (del (upd (upd (upd (upd H a o1) dx o2) a o3) dx o4) a) dx u = upd H dx u := by
  funext b
  by_cases h1 : b = dx
  · subst h1; rw [upd_same, upd_same]
  · rw [upd_ne h1, upd_ne h1]
    unfold del
    by_cases h2 : b = a
    · subst h2; rw [if_pos rfl, ha]
    · rw [if_neg h2, upd_ne h1, upd_ne h2, upd_ne h1, upd_ne h2]
theorem z_raise1 (T : Cls1 X.K X.mg C st f) (S : FnScope ["self", f] ["self", f] (defScope st)) (hc : X.calm = true) (tk : Takes X W) (hr : Room 2 X.A) (hg : Gl X C) (ha : ZE X W e fe)
    (hb : defBody st = [.Assign [.Attribute (.Name "self" p1) f p2] (.Name f p3) p4] := by rfl)
    (hv0 : (defScope st).names.lookup ("self" : Str) = some .local := by rfl) (hv1 : (defScope st).names.lookup f = some .local := by rfl) (hd : (f == ("__debug__" : Str)) = false := by decide) (hcd : (f == ("__classdict__" : Str)) = false := by decide)
    (hdb : (C == ("__debug__" : Str)) = false := by decide) (he : starEach [e] X.env = (false, eval e X.env) :: starEach [] X.env := by rfl) (hpl : (backTo pos (starEach ([] : List Expr) X.env)).any (·.1) = false := by rfl) :
    ZS X W (.Raise (some (.Call (.Name C p) [e] [] pos)) none pos2) (sRaise1 C f (aCons fe aNil)) := by
  obtain ⟨CA, fI, fd, hm, hO, hX, hF, hn, hi, ht, hFn, hB⟩ := T.at'
  refine PS.imp (ps_raise hc tk (pmk_oex hO hi ht (init1 (p1 := p1) (p2 := p2) (p3 := p3) (p4 := p4) hFn S hO hn hv0 hv1 hd hcd hb) hr hB .nil pass0 hg hm (za_cons ha za_nil he) hdb he hpl)) fun D σ H ⟨F, ι, ρ, m, hρ, hm', hp⟩ => ⟨F, ι, ρ, m, hρ, hm', ?_⟩
  refine Post.stm hp hρ fun ds m1 ι1 H1 vs _ e1 h1 r1 hp1 => ?_
  split at hp1
  · rename_i y
    cases r1 with
    | @cons _ v _ _ r1 r2 =>
    cases r2
    refine ⟨by simp, fun a hn' => ⟨a, v, rfl, upd_same, fun dx hd' hne => ⟨rfl, dx, [(f, v)], upd_same, by rw [upd_ne hne, upd_same], ?_, ?_⟩⟩⟩
    · rw [upd_ne hne] at hd'; exact hd'
    · have hd1 : H1 dx = none := by rw [upd_ne hne] at hd'; exact hd'
      rw [xd_eq1 hn' hne]
      have ex : Ext ι1 H1 ι1 (upd H1 dx (.xd [(f, v)])) := Ext.side hd1
      exact hp1 ι1 _ σ _ _ ex (h1.side hd1) ((hρ.mono e1).mono ex) ⟨CA, hm, rfl, .inr ⟨dx, _, rfl, notMem h1 hd1, upd_same, .cons ⟨rfl, r1.mono ex⟩ .nil⟩⟩
  · exact hp1.elim
theorem z_raise2 (T : Cls2 X.K X.mg C st f g) (S : FnScope ["self", f, g] ["self", f, g] (defScope st)) (hc : X.calm = true) (tk : Takes X W) (hr : Room 2 X.A) (hg : Gl X C) (ha : ZE X W e fe) (ha2 : ZE X W e2 fe2)
    (hb : defBody st = [.Assign [.Attribute (.Name "self" p1) f p2] (.Name f p3) p4, .Assign [.Attribute (.Name "self" q1) g q2] (.Name g q3) q4] := by rfl)
    (hv0 : (defScope st).names.lookup ("self" : Str) = some .local := by rfl) (hv1 : (defScope st).names.lookup f = some .local := by rfl) (hv2 : (defScope st).names.lookup g = some .local := by rfl) (hd : (f == ("__debug__" : Str)) = false := by decide) (hcd : (f == ("__classdict__" : Str)) = false := by decide) (hd2 : (g == ("__debug__" : Str)) = false := by decide) (hcd2 : (g == ("__classdict__" : Str)) = false := by decide)
    (hdb : (C == ("__debug__" : Str)) = false := by decide) (he : starEach [e, e2] X.env = (false, eval e X.env) :: starEach [e2] X.env := by rfl) (he2 : starEach [e2] X.env = (false, eval e2 X.env) :: starEach [] X.env := by rfl) (hpl : (backTo pos (starEach [e2] X.env)).any (·.1) = false := by rfl) :
    ZS X W (.Raise (some (.Call (.Name C p) [e, e2] [] pos)) none pos2) (sRaise2 C f g (aCons fe (aCons fe2 aNil))) := by
  obtain ⟨CA, fI, fd, hm, hO, hX, hF, hn, hn2, hi, ht, hFn, hB⟩ := T.at'
  refine PS.imp (ps_raise hc tk (pmk_oex hO hi ht (init2 (p1 := p1) (p2 := p2) (p3 := p3) (p4 := p4) (q1 := q1) (q2 := q2) (q3 := q3) (q4 := q4) hFn S hO hn hn2 hv0 hv1 hv2 hd hcd hd2 hcd2 hb) hr hB .nil pass0 hg hm (za_cons ha (za_cons ha2 za_nil he2) he) hdb he hpl)) fun D σ H ⟨F, ι, ρ, m, hρ, hm', hp⟩ => ⟨F, ι, ρ, m, hρ, hm', ?_⟩
  refine Post.stm hp hρ fun ds m1 ι1 H1 vs _ e1 h1 r1 hp1 => ?_
  split at hp1
  · rename_i y1 y2
    cases r1 with
    | @cons _ v _ _ r1 r2 =>
    cases r2 with
    | @cons _ u _ _ r2 r3 =>
    cases r3
    refine ⟨by simp, fun a hn' => ⟨a, v, u, rfl, upd_same, fun dx hd' hne => ⟨rfl, dx, [(g, u), (f, v)], by rw [upd_ne hne.symm, upd_same], upd_same, ?_, ?_⟩⟩⟩
    · rw [upd_ne hne] at hd'; exact hd'
    · have hd1 : H1 dx = none := by rw [upd_ne hne] at hd'; exact hd'
      rw [xd_eq2 hn' hne]
      have ex : Ext ι1 H1 ι1 (upd H1 dx (.xd [(g, u), (f, v)])) := Ext.side hd1
      exact hp1 ι1 _ σ _ _ ex (h1.side hd1) ((hρ.mono e1).mono ex) ⟨CA, hm, rfl, .inr ⟨dx, _, rfl, notMem h1 hd1, upd_same, .cons ⟨rfl, r2.mono ex⟩ (.cons ⟨rfl, r1.mono ex⟩ .nil)⟩⟩
  · exact hp1.elim
/-- a field of a caught exception -/
def eFldC (n : Str) (f : EF) : EF := fun ρ m => (f ρ m).bind fun d m1 => match d with
  | .cau _ _ _ ns ds => (match lookD ns ds n with
    | some v => .ok v m1
    | none => .bad)
  | _ => .bad
end
end Z

namespace Z
open PySem PySem.Spec PyProof.Rows L2

/-! ### except suites: a caught exception's fields, its suite as a function of the two addresses -/
def eFldA (a dd : Addr) (n : Str) (f : EF) : EF := fun ρ m => (f ρ m).bind fun d m1 => match d with
  | .cau a' dd' _ ns ds => if a' = a ∧ dd' = dd then (match lookD ns ds n with
    | some v => .ok v m1
    | none => .bad) else .bad
  | _ => .bad
theorem z_fxa {X : Cx} {W : WX} {a dd CA : Addr} {oe : Obj} {pn : List (Addr × Obj)} {e : Expr} {f : EF} {pos : Pos} {n : Str} (T : XfC X.K CA) (hno : PySem.W.findIn X.K (.ref CA) n = some none) (hz : Zc (.ref CA) (some dd) oe) (hf : ∃ vs, oe.data = .fields vs)
    (he : ZE (X.suite a ((a, oe) :: pn)) W e f) (hb : attributeBase e n X.env (eval e X.env) = eval e X.env := by rfl) : ZE (X.suite a ((a, oe) :: pn)) W (.Attribute e n pos) (eFldA a dd n f) := by
  refine PE.imp (pe_xf T hno hz hf he hb) fun σ H Q ⟨F, ι, ρ, m, hρ, hm, hp⟩ => ⟨F, ι, ρ, m, hρ, hm, ?_⟩
  refine Post.seq hp fun d m1 ι1 H1 v _ e1 h1 r1 hp1 => ?_
  split at hp1
  · split at hp1
    · rename_i hq
      obtain ⟨rfl, rfl⟩ := hq
      split at hp1
      · rename_i y hy
        cases r1 with
        | cau n1 h2 r2 =>
          obtain ⟨w, hw, rw⟩ := lookD_rep r2 hy
          exact ⟨rfl, rfl, _, _, w, rfl, h2, hw, hp1.okI h1 rw⟩
      · exact hp1.elim
    · exact hp1.elim
  · exact hp1.elim
def tSuite (K : PySem.W.Frag) (mg : Str → Option Value) (CA : Addr) (n : Nat) (g : Addr → Addr → SF) : Addr → Value → Option Addr → TS := fun a cls d D σ H => cls = .ref CA ∧ ∃ dd, d = some dd ∧ (σ.length = n → tS K mg WN (g a dd) D σ H)
theorem hd_cons {X : Cx} {n C : Str} {CA : Addr} {g : Addr → Addr → SF} {b₀ : Stmt} {suite : List Stmt} {np tp pos' : Pos} {kk : Nat} {hds : List ExceptHandler} {l : List (Value × (Addr → Value → Option Addr → TS))} (hm : X.mg C = some (.ref CA)) (hg : Gl X C)
    (hsu : ∀ (a : Addr) (oe : Obj) (dd : Addr) (pn : List (Addr × Obj)), Zc (.ref CA) (some dd) oe → (∃ vs, oe.data = .fields vs) → ZB (X.suite a ((a, oe) :: pn)) WN (b₀ :: suite) (g a dd)) (r : HdT X n hds l) (hd : (C == ("__debug__" : Str)) = false := by decide)
    (hst : starEach [.Name C np] X.env = (false, eval (.Name C np) X.env) :: starEach [] X.env := by rfl) :
    HdT X n (.ExceptHandler (some (.Tuple [.Name C np] kk tp)) (some n) (b₀ :: suite) pos' :: hds) ((.ref CA, tSuite X.K X.mg CA X.N.length g) :: l) :=
  .cons ⟨hg, hd, .inl hm⟩ (fun a oe cls d pn hz hf => ⟨fun pins s σ H D I ⟨e1, dd, e2, h⟩ => by
    subst e1; subst e2
    exact (hsu a oe dd pn hz hf).run pins s σ H D I (h I.len)⟩) hst r
/-! what such a chain answers -/
def rhoC (n i : Nat) (d : D) : Rho := (List.replicate n none).set i (some d)
def hRun (n i : Nat) : List (Str × (Addr → Addr → SF)) → Xn → M → R D
  | [], _, _ => .bad
  | (C, g) :: r, x, m => if x.cls = C then (match x.fs with
    | [] => .bad
    | _ => match g 0 0 (rhoC n i (.cau 0 0 C (x.fs.map (·.1)) (x.fs.map (·.2)))) m with
      | some (.rt d, m') => .ok d m'
      | _ => .bad) else hRun n i r x m
/-- a suite's answer does not hang on the addresses -/
def Indep (n i : Nat) (g : Addr → Addr → SF) : Prop := ∀ a dd C ns ds m d m', g 0 0 (rhoC n i (.cau 0 0 C ns ds)) m = some (.rt d, m') → g a dd (rhoC n i (.cau a dd C ns ds)) m = some (.rt d, m')
/-- the table of what a clause takes -/
def ExTab (K : PySem.W.Frag) (mg : Str → Option Value) (cs : List Str) : Prop := ∀ C ∈ cs, ∀ C' ∈ cs, ∀ CA CA', mg C = some (.ref CA) → mg C' = some (.ref CA') → PySem.W.exmOne K (.ref CA) (.ref CA') = some (decide (C = C'))
inductive HsAt (K : PySem.W.Frag) (mg : Str → Option Value) (n : Nat) : List (Str × (Addr → Addr → SF)) → List (Value × (Addr → Value → Option Addr → TS)) → Prop
  | nil : HsAt K mg n [] []
  | cons {C : Str} {CA : Addr} {g : Addr → Addr → SF} {hs : List (Str × (Addr → Addr → SF))} {l : List (Value × (Addr → Value → Option Addr → TS))} : mg C = some (.ref CA) → HsAt K mg n hs l → HsAt K mg n ((C, g) :: hs) ((.ref CA, tSuite K mg CA n g) :: l)
theorem repF_zip {K : PySem.W.Frag} {mg : G} {ι : List Addr} {H : Hp} : ∀ {fs : List (Str × D)} {ws : List (Str × V)}, RepF K mg ι H fs ws → ∃ vs, ws = (fs.map (·.1)).zip vs ∧ RepL K mg ι H (fs.map (·.2)) vs
  | [], [], .nil => ⟨[], rfl, .nil⟩
  | (x, d) :: fs, (y, v) :: ws, .cons ⟨e, r⟩ t => by
    obtain ⟨vs, e1, r1⟩ := repF_zip t
    refine ⟨v :: vs, ?_, .cons r r1⟩
    rw [e1]
    have e : x = y := e
    rw [e]
    rfl
theorem wT_of {K : PySem.W.Frag} {mg : Str → Option Value} {cs : List Str} {n i : Nat} (ht : ExTab K mg cs) (hi : i < n) {F : List Addr} {ι : List Addr} {H : Hp} {m : M} {x : Xn} {cls : Value} {dd : Option Addr} {Q : VK} {E : XK} (hx : XRep K (mg, F) ι H x cls dd) (hm : HR K (mg, F) ι H m) (hc : x.cls ∈ cs) :
    ∀ {hs : List (Str × (Addr → Addr → SF))} {l}, HsAt K mg n hs l → (∀ p ∈ hs, p.1 ∈ cs ∧ Indep n i p.2) → Post K (mg, F) (relE K (mg, F)) E ι H Q (hRun n i hs x m) → ∀ (D : Ends) (σ : L2.St), D.rt = Q → wT K i D l cls dd σ H := by
  intro hs l hh
  induction hh with
  | nil => intro _ hp D σ _; exact hp.elim
  | @cons C CA g hs l hC r ih =>
    intro hin hp D σ hD
    obtain ⟨CX, hmx, hcl, hfs⟩ := hx
    have hmx : mg x.cls = some (.ref CX) := hmx
    have hCs : C ∈ cs ∧ Indep n i g := hin (C, g) List.mem_cons_self
    subst hcl
    refine ⟨decide (x.cls = C), ht x.cls hc C hCs.1 CX CA hmx hC, fun hb a ha => ?_, fun hb => ?_⟩
    · have e : x.cls = C := of_decide_eq_true hb
      unfold hRun at hp
      rw [if_pos e] at hp
      rw [e] at hmx
      rw [hC] at hmx
      cases hmx
      refine ⟨rfl, ?_⟩
      rcases hfs with ⟨h0, _⟩ | ⟨d, ws, rfl, hdi, hd, rf⟩
      · rw [h0] at hp; exact hp.elim
      · refine ⟨d, rfl, fun hl => ?_⟩
        split at hp
        · exact hp.elim
        · split at hp
          · rename_i y m' hg
            have hg' := hCs.2 a d C _ _ m y m' hg
            obtain ⟨vs, e1, r1⟩ := repF_zip rf
            have rc : Rep K (mg, F) ι H (.cau a d C (x.fs.map (·.1)) (x.fs.map (·.2))) (.ref a) := .cau hdi (by rw [← e1]; exact hd) r1
            refine ⟨F, ι, rhoC n i (.cau a d C (x.fs.map (·.1)) (x.fs.map (·.2))), m, ⟨?_, fun j d' hj => ?_⟩, hm, ?_⟩
            · rw [hl]
              unfold rhoC
              simp
            · unfold rhoC at hj
              by_cases q : i = j
              · subst q
                rw [List.getElem?_set_self (by simpa using hi)] at hj
                cases hj
                have hl' : σ.length = n := by simpa using hl
                exact ⟨_, List.getElem?_set_self (by rw [hl']; exact hi), rc⟩
              · rw [List.getElem?_set_ne q, List.getElem?_replicate] at hj
                split at hj <;> cases hj
            · show PostS K (mg, F) WN _ ι H (g a d _ m)
              rw [hg']
              intro ι' H' v e2 h2 r2
              show D.rt v H'
              rw [hD]
              exact hp ι' H' v e2 h2 r2
          · exact hp.elim
    · have e : ¬ x.cls = C := of_decide_eq_false hb
      unfold hRun at hp
      rw [if_neg e] at hp
      exact ih (fun p hp => hin p (List.mem_cons_of_mem _ hp)) hp D σ hD
/-! ### f(lambda: body), f trying its argument -/
def eRef (n i : Nat) (hs : List (Str × (Addr → Addr → SF))) (f : EF) : EF := fun ρ m => match f ρ m with
  | .ok _ m1 => .ok .non m1
  | .err x m1 => if hs.any (fun p => decide (p.1 = x.cls)) = true then hRun n i hs x m1 else .bad
  | .bad => .bad
/-- what the trying def gives, whatever its lambda does -/
def TTr (K : PySem.W.Frag) (i : Nat) (l : List (Value × (Addr → Value → Option Addr → TS))) : (XK → Hp → VK → Prop) → Hp → VK → Prop := fun tl H Q => tl (fun cls d H' => ∀ (D : Ends) (σ : L2.St), D.rt = Q → wT K i D l cls d σ H') H (fun _ H' => Q .non H')
theorem gives_try {X : Cx} {Ng : List Str} {x n a : Str} {i : Nat} {sg : Scope} {g : Addr} {cdg : Value} {bg : List Stmt} {q : Str} {l : List (Value × (Addr → Value → Option Addr → TS))} {h₀ : ExceptHandler} {hds : List ExceptHandler} {p1 p2 p3 p4 p5 p5' : Pos}
    (hbg : bg = [.Try [.Expr (.Call (.Name a p1) [] [] p2) p3] (h₀ :: hds) [] [] p4, .Return (some (.Constant .none 0 p5)) p5'])
    (hN : Ng.Nodup) (hi : Ng[i]? = some n) (hln : sg.names.lookup n = some .local)
    (hk : ∀ (A : Around) (outer : List Env) (s : Shared) (H : Hp), (cxOf C8.CX0 X.prog X.w X.K X.mg X.base Ng x sg g cdg A outer s H C8.E0).env.kindOf n = some .local)
    (hh : ∀ (A : Around) (outer : List Env) (s : Shared) (H : Hp), HdT (cxOf C8.CX0 X.prog X.w X.K X.mg X.base Ng x sg g cdg A outer s H C8.E0).nox n (h₀ :: hds) l)
    (hsw : ∀ (A : Around) (outer : List Env) (s : Shared) (H : Hp), swapsWith (.Call (.Name a p1) [] [] p2) none p3.line (cxOf C8.CX0 X.prog X.w X.K X.mg X.base Ng x sg g cdg A outer s H C8.E0).env = pure false) :
    LamX.GivesTo X Ng x sg g cdg bg a q (TTr X.K i l) := by
  subst hbg
  intro f c' s H Q tl hcall hc' hT
  let tb : WX → TS := fun W D σ H => ∃ E : XK, (∀ cls d σ' H', E cls d H' → W cls d σ' H') ∧ σ[0]? = some (some (.ref f)) ∧ H c' = some (LamX.CodeO c' q) ∧ tl E H (fun _ H' => D.nx σ H')
  refine ⟨_, pss_cons (ps_try_tups (tb := tb) rfl rfl hN hi (hk X.A X.stack s H) (.inl hln) (.inr hln) (fun W pn xe tk pw => pss_one ⟨fun pins s σ H D I ⟨E, hE, h0, h1, h2⟩ => ?_⟩) (hh X.A X.stack s H)) (pss_one (ps_ret pe_non)), ?_⟩
  · exact (ps_expr (hcall W pn xe E p1 p2 tk hE) (hsw X.A X.stack s H)).run pins s σ H D I ⟨h0, h1, h2⟩
  · refine ⟨_, fun cls d σ' H' h => h _ σ' rfl, rfl, hc', hT⟩
end Z

namespace Z
open PySem PySem.Spec PyProof.Rows L2

theorem extN_ext {ι : List Addr} {H H1 : Hp} (e : LamX.ExtN H H1) : Ext ι H ι H1 :=
  ⟨⟨[], by simp, by simp⟩, fun a vs h => e a _ h (fun _ z => by cases z), fun a o u h => e a _ h (fun _ z => by cases z), fun a o hn _ h => e a o h hn, fun a o hn h => ⟨o, hn, e a o h hn⟩⟩
theorem CellRep.nt {K : PySem.W.Frag} {mg : G} {ι : List Addr} {H : Hp} {a : Addr} {c : Cell} (h : CellRep K mg ι H a c) : ∃ o, H a = some o ∧ NT o := by
  cases h with
  | lst h r => exact ⟨_, h, nt_lst⟩
  | dK h r => exact ⟨_, h, nt_dK⟩
  | dT h r => exact ⟨_, h, nt_dT⟩
  | ins hc h r => exact ⟨_, h, nt_ins⟩
theorem extN_hr {K : PySem.W.Frag} {mg : G} {ι : List Addr} {H H1 : Hp} {m : M} (h : HR K mg ι H m) (e : LamX.ExtN H H1) (t : LamX.Tabs (tabOf K) H1) : HR K mg ι H1 m :=
  ⟨h.len, h.nd, fun a ha => (let ⟨o, n, q⟩ := h.fd a ha; ⟨o, n, e a o q n⟩), t, fun n a c h1 h2 => by
    have hc := h.at' n a c h1 h2
    obtain ⟨o, ho, hn⟩ := hc.nt
    exact hc.mono (extN_ext e) fun o' q => by
      rw [ho] at q
      cases q
      exact e a o ho hn⟩
theorem takesL {X : Cx} {A : Around} {outer : List Env} {s : Shared} {H : Hp} {E : XK} {scope : Scope} {f c' : Addr} : Takes (LamX.lamCx X A outer s H E scope f c') (fun c d _ H' => E c d H') := takes_of rfl rfl rfl rfl
theorem z_ref {X : Cx} {W : WX} {x a : Str} {g c P : Addr} {k i : Nat} {pg : Arguments} {bg : List Stmt} {sg : Scope} {dV kV doc pm cdv ct oc : Value} {an od : Option Addr} {osl : Array (Option Value)} {Ng : List Str} {params : Arguments} {body : Expr} {scope : Scope} {p lpos pos : Pos}
    {l : List (Value × (Addr → Value → Option Addr → TS))} {hs : List (Str × (Addr → Addr → SF))} {cs : List Str} {f : EF} (hg : Gl X x) (hm : X.mg x = some (.ref g)) (hk : PySem.W.keepIn X.K (.ref g) = true)
    (lk : X.K.lookup g = some ⟨oc, od, .func (PySem.W.fnOf x x pg bg sg dV kV doc pm an cdv ct), osl⟩) (hcg : PySem.W.codeIn X.K cdv x = true) (hb : Binds X.K (PySem.W.fnOf x x pg bg sg dV kV doc pm an cdv ct) [a] []) (Sg : FnScope Ng [a] sg) (hNg : Ng[0]? = some a) (hva : Vis sg a)
    (hG : LamX.GivesTo X Ng x sg g cdv bg a (X.env.qual ++ "<lambda>") (TTr X.K i l)) (TB : LamX.TabB X.base X.mg c P) (hcode : X.env.code = .ref c) (hT : (P, X.env.qual ++ "<lambda>") ∈ tabOf X.K) (hTu : ∀ p ∈ tabOf X.K, p.1 = P → p.2 = X.env.qual ++ "<lambda>") (hr : Room (k + 2) X.A) (L : LamX.LamS X.env.scope scope) (hdef : defaultsOf params X.env = ([], []))
    (hbind : ∀ (q : Str) (cl : List (Str × Addr)) (pm cv ctv : Value), bindArgs (PySem.W.kla_fn "<lambda>" q params body scope cl pm cv ctv) ⟨[], []⟩ = pure [])
    (hbody : ∀ (A : Around) (outer : List Env) (s : Shared) (H : Hp) (E : XK) (f' c' : Addr), Room k (A.deeper (LamX.lamEnv X scope s.heap.objs.size f' c')) → ZE (LamX.lamCx X A outer s H E scope f' c') (fun c d _ H' => E c d H') body f)
    (ht : ExTab X.K X.mg cs) (hi : i < Ng.length) (hh : HsAt X.K X.mg Ng.length hs l) (hin : ∀ p ∈ hs, p.1 ∈ cs ∧ Indep Ng.length i p.2)
    (hdb : (x == ("__debug__" : Str)) = false := by decide) (had : (a == ("__debug__" : Str)) = false := by decide) (hac : (a == ("__classdict__" : Str)) = false := by decide) :
    ZE X W (.Call (.Name x p) [.Lambda params body scope lpos] [] pos) (eRef Ng.length i hs f) := by
  refine PE.imp (LamX.pe_lamcall (T := tabOf X.K) (t := fun E => tE X.K X.mg (fun c d _ H' => E c d H') f) hg hm hk lk hcg hb Sg hNg hva hG TB hcode hT hTu hr L hdef hbind hbody hdb had hac) fun σ H Q ⟨F, ι, ρ, m, hρ, hm', hp⟩ => ?_
  refine ⟨hm'.tb, fun H1 ex tb1 => ?_⟩
  have e1 : Ext ι H ι H1 := extN_ext ex
  refine ⟨F, ι, ρ, m, hρ.mono e1, extN_hr hm' ex tb1, ?_⟩
  unfold eRef at hp
  cases q : f ρ m with
  | bad => rw [q] at hp; exact hp
  | ok d m1 =>
    rw [q] at hp
    intro ι' H' b e2 h2 r2
    exact hp ι' H' .non (e1.trans e2) h2 .non
  | err y m1 =>
    rw [q] at hp
    intro ι' H' cls dd e2 h2 hx D0 σ' hD
    dsimp only at hp
    split at hp
    · rename_i hc
      obtain ⟨p0, hp0, hq0⟩ := List.any_eq_true.mp hc
      have hcs : y.cls ∈ cs := by
        have := (hin p0 hp0).1
        rw [of_decide_eq_true hq0] at this
        exact this
      exact wT_of ht hi hx h2 hcs hh hin (Post.shift (e1.trans e2) hp) D0 σ' hD
    · exact hp.elim
end Z

namespace Z
open PySem PySem.Spec PyProof.Rows L2

/-! ### comprehensions of dicts -/
def dcN (nxt : Nat → M → Option (Option D)) (g : GF) (tt : TF) (fk fv : EF) : Nat → Nat → Rho → List (D × D) → M → R (List (D × D))
  | 0, _, _, _, _ => .bad
  | fuel + 1, i, ρ, acc, m => match nxt i m with
    | none => .bad
    | some none => .ok acc m
    | some (some d) => match g d ρ m with
      | none => .bad
      | some (ρ1, m1) => match tt ρ1 m1 with
        | .ok true m2 => match fk ρ1 m2 with
          | .ok k m3 => match fv ρ1 m3 with
            | .ok y m4 => if (keyOf k).isSome = true ∧ acc.length < line then dcN nxt g tt fk fv fuel (i + 1) ρ (putD acc k y) m4 else .bad
            | _ => .bad
          | _ => .bad
        | .ok false m2 => dcN nxt g tt fk fv fuel (i + 1) ρ acc m2
        | _ => .bad
def eDc (it : IF) (own : List Nat) (g : GF) (tt : TF) (fk fv : EF) : EF := fun ρ m => (it ρ m).bind fun z m1 => match dcN z.nxt g tt fk fv z.fuel 0 (wipeR ρ own) [] m1 with
  | .ok kvs m2 => .ok (.ref m2.length) (m2 ++ [.dic kvs])
  | _ => .bad
theorem repK_len {K : PySem.W.Frag} {mg : G} {ι : List Addr} {H : Hp} {kvs : List (D × D)} {ws : List (Key × V)} (r : RepK K mg ι H kvs ws) : kvs.length = ws.length := by
  induction r with
  | nil => rfl
  | cons _ _ ih => simp [ih]
theorem dc_run {K : PySem.W.Frag} {mg : Str → Option Value} {W : WX} {it : IF} {own : List Nat} {g : GF} {tt : TF} {fk fv : EF} {σ : L2.St} {H : Hp} {Q : VK} (q : tE K mg W (eDc it own g tt fk fv) σ H Q) :
    tDc (tI K mg W it) (tGo K mg own g) (tT K mg WN tt) (tE K mg WN fk) (tE K mg WN fv) own σ H Q := by
  obtain ⟨F, ι, ρ, m, hρ, hm, hp⟩ := q
  refine ⟨F, ι, ρ, m, hρ, hm, ?_⟩
  refine Post.seq hp fun z m1 ι1 H1 J _ e1 h1 r1 hp1 => ?_
  intro D0 hD
  have hDi : D0 ∉ ι1 := notMem h1 hD
  have hDF : D0 ∉ F := fun h => by
    obtain ⟨o, _, q⟩ := h1.fd D0 h
    rw [hD] at q; cases q
  have hp1 : OkI (fun kvs m2 => Post K (mg, F) (relE K (mg, F)) (fun c d H' => W c d σ H') ι1 H1 Q (.ok (.ref m2.length) (m2 ++ [.dic kvs]))) (dcN z.nxt g tt fk fv z.fuel 0 (wipeR ρ own) [] m1) := by
    cases q : dcN z.nxt g tt fk fv z.fuel 0 (wipeR ρ own) [] m1 with
    | ok kvs m2 => rw [q] at hp1; exact hp1
    | err x m2 => rw [q] at hp1; exact hp1
    | bad => rw [q] at hp1; exact hp1
  refine ⟨fun i n H2 => ∃ ι2 m2 acc ws, Ext ι1 H1 ι2 H2 ∧ D0 ∉ ι2 ∧ H2 D0 = some (.dK ws) ∧ HR K (mg, D0 :: F) ι2 H2 m2 ∧ RepK K (mg, D0 :: F) ι2 H2 acc ws ∧ EnvR K (mg, D0 :: F) ι2 H2 (wipeR ρ own) (wipe σ own) ∧
    OkI (fun kvs m2 => Post K (mg, F) (relE K (mg, F)) (fun c d H' => W c d σ H') ι1 H1 Q (.ok (.ref m2.length) (m2 ++ [.dic kvs]))) (dcN z.nxt g tt fk fv n i (wipeR ρ own) acc m2), ⟨z.fuel, ι1, m1, [], [], (Ext.refl).hide hD, hDi, upd_same, HR.hide (mg := (mg, F)) h1 hD, .nil, ?_, hp1⟩, ?_⟩
  · exact (((hρ.mono e1).grow (growD (mg := (mg, F)) hD)).mono (Ext.side hD)).wipe own
  rintro i n H2 ⟨ι2, m2, acc, ws, e2, d2, hd2, h2, ra, hρ2, hp2⟩
  obtain ⟨rs, rg⟩ := r1 i (D0 :: F) ι2 H2 m2 (growD (mg := (mg, F)) hD) e2 h2
  cases n with
  | zero => exact hp2.elim
  | succ n =>
    unfold dcN at hp2
    match hn : z.nxt i m2 with
    | none => rw [hn] at hp2; exact hp2.elim
    | some none =>
      rw [hn] at hp2
      refine .inl ⟨rs hn, ?_⟩
      have hp2 : Post K (mg, F) (relE K (mg, F)) (fun c d H' => W c d σ H') ι1 H1 Q (.ok (.ref m2.length) (m2 ++ [.dic acc])) := hp2
      have nx : (∀ p, HO.dK ws ≠ .ext p) ∧ ∀ p, HO.dK ws ≠ .xd p := ⟨fun p q => (by cases q), fun p q => (by cases q)⟩
      refine hp2 (ι2 ++ [D0]) H2 _ (e2.newCell hD) (h2.track d2 hd2 nx (.dK hd2 (paired_mono (fun _ _ ⟨a, b⟩ => ⟨a, b.track hd2 nx⟩) ra))) (.ref ?_)
      rw [← h2.len]; simp
    | some (some d) =>
      rw [hn] at hp2
      dsimp only at hp2
      obtain ⟨hgo, hy⟩ := rg d hn
      refine .inr ⟨hgo, fun H' => ∃ ι2 m2 acc ws, Ext ι1 H1 ι2 H' ∧ D0 ∉ ι2 ∧ H' D0 = some (.dK ws) ∧ HR K (mg, D0 :: F) ι2 H' m2 ∧ RepK K (mg, D0 :: F) ι2 H' acc ws ∧ EnvR K (mg, D0 :: F) ι2 H' (wipeR ρ own) (wipe σ own) ∧
        OkI (fun kvs m2 => Post K (mg, F) (relE K (mg, F)) (fun c d H' => W c d σ H') ι1 H1 Q (.ok (.ref m2.length) (m2 ++ [.dic kvs]))) (dcN z.nxt g tt fk fv n (i + 1) (wipeR ρ own) acc m2), fun H' hN => ⟨n, Nat.lt_succ_self n, hN⟩, fun x H3 hx => ?_⟩
      obtain ⟨e3, h3, r3⟩ := hy x H3 hx
      refine ⟨D0 :: F, ι2, wipeR ρ own, m2, d, hρ2.mono e3, h3, r3, ?_⟩
      cases qg : g d (wipeR ρ own) m2 with
      | none => rw [qg] at hp2; exact hp2.elim
      | some p =>
        obtain ⟨ρ4, m4⟩ := p
        rw [qg] at hp2
        dsimp only at hp2
        intro ι4 H4 σ4 e4 h4 hρ4 hw
        refine ⟨hw.trans (wipe_idem σ own own fun _ h => h), D0 :: F, ι4, ρ4, m4, hρ4, h4, ?_⟩
        cases qt : tt ρ4 m4 with
        | bad => rw [qt] at hp2; exact hp2.elim
        | err x5 m5 => rw [qt] at hp2; exact hp2.elim
        | ok b m5 =>
          rw [qt] at hp2
          intro ι5 H5 b' e5 h5 hb
          cases hb
          have e25 : Ext ι2 H2 ι5 H5 := e3.trans (e4.trans e5)
          have d5 : D0 ∉ ι5 := e25.out nt_dK d2 hd2
          have hd5 : H5 D0 = some (.dK ws) := e25.fr _ _ nt_dK d2 hd2
          have mono5 : ∀ {ι6 H6}, Ext ι2 H2 ι6 H6 → RepK K (mg, D0 :: F) ι6 H6 acc ws := fun e => paired_mono (fun _ _ ⟨a, b⟩ => ⟨a, b.mono e⟩) ra
          cases b with
          | false => exact iteF ⟨ι5, m5, acc, ws, e2.trans e25, d5, hd5, h5, mono5 e25, hρ2.mono e25, hp2⟩
          | true =>
            dsimp only at hp2
            refine iteT ⟨D0 :: F, ι5, ρ4, m5, hρ4.mono e5, h5, ?_⟩
            cases qf : fk ρ4 m5 with
            | bad => rw [qf] at hp2; exact hp2.elim
            | err x6 m6 => rw [qf] at hp2; exact hp2.elim
            | ok k m6 =>
              rw [qf] at hp2
              intro ι6 H6 vk e6 h6 r6
              dsimp only at hp2
              refine ⟨D0 :: F, ι6, ρ4, m6, (hρ4.mono e5).mono e6, h6, ?_⟩
              cases qv : fv ρ4 m6 with
              | bad => rw [qv] at hp2; exact hp2.elim
              | err x7 m7 => rw [qv] at hp2; exact hp2.elim
              | ok y m7 =>
                rw [qv] at hp2
                intro ι7 H7 vy e7 h7 r7
                have e27 : Ext ι2 H2 ι7 H7 := e25.trans (e6.trans e7)
                have d7 : D0 ∉ ι7 := e27.out nt_dK d2 hd2
                have hd7 : H7 D0 = some (.dK ws) := e27.fr _ _ nt_dK d2 hd2
                dsimp only at hp2
                by_cases hl : (keyOf k).isSome = true ∧ acc.length < line
                · rw [if_pos hl] at hp2
                  obtain ⟨kk, hkk⟩ := Option.isSome_iff_exists.mp hl.1
                  have hM : D0 ∈ ((mg, D0 :: F) : G).2 := List.mem_cons_self
                  have hL : (∃ xs, HO.dK ws = .lst xs) ∨ (∃ xs, HO.dK ws = .dK xs) ∨ ∃ xs, HO.dK ws = .dT xs := .inr (.inl ⟨ws, rfl⟩)
                  have ra7 := mono5 e27
                  refine ⟨ws, kk, kV_of r6 hkk, hd7, by rw [line_eq, ← repK_len ra7]; exact hl.2, ι7, m7, putD acc k y, putK ws kk vy, (e2.trans e27).hide hD, d7, upd_same, h7.aside hM d7 hd7 hL, ?_, (hρ2.mono e27).aside hM d7 hd7 hL, hp2⟩
                  exact paired_mono (fun _ _ ⟨a, b⟩ => ⟨a, b.aside hM d7 hd7 hL⟩) (putD_K ra7 hkk r7)
                · rw [if_neg hl] at hp2
                  exact hp2.elim
theorem z_dc {X : Cx} {W : WX} {kx vx tg iter : Expr} {ifs : List Expr} {scope : Scope} {own : List (Str × Nat)} {pos : Pos} {it : IF} {g : GF} {tt : TF} {fk fv : EF} (hc : X.calm = true) (hN : X.N.Nodup) (hi : ZI X W tg iter it) (ok : BlkOk X.N X.env.scope scope own)
    (hg : ∀ (s : Shared) (H : Hp) (C : Addr) (cl : List (Str × Addr)) (fp : List Addr), ZGo (X.blk s H scope (compEnvC scope cl C X.env) fp) (own.map (·.2)) tg g)
    (ht : ∀ (s : Shared) (H : Hp) (C : Addr) (cl : List (Str × Addr)) (fp : List Addr), ZTs (X.blk s H scope (compEnvC scope cl C X.env) fp) ifs tt)
    (hk : ∀ (s : Shared) (H : Hp) (C : Addr) (cl : List (Str × Addr)) (fp : List Addr), ZE (X.blk s H scope (compEnvC scope cl C X.env) fp) WN kx fk)
    (hv : ∀ (s : Shared) (H : Hp) (C : Addr) (cl : List (Str × Addr)) (fp : List Addr), ZE (X.blk s H scope (compEnvC scope cl C X.env) fp) WN vx fv)
    (hs : ∀ x, foldedSetIterable iter X.env x = pure x := by intro _; rfl) : ZE X W (.DictComp kx vx [⟨tg, iter, ifs, 0⟩] scope pos) (eDc it (own.map (·.2)) g tt fk fv) :=
  PE.imp (pe_dc hc hN hi ok hg ht hk hv hs) fun σ H Q q => dc_run q
end Z

namespace Z
open PySem PySem.Spec PyProof.Rows L2

/-! ### the end of a law whose defs make lambdas -/
theorem law_callZT {P0 : Program} {w : World} {K : PySem.W.Frag} {cs : List (Addr × Addr)} (hTab : ∀ p ∈ tabOf K, p.1 ∈ cs.map (·.2)) {mg mb : Str → Option Value} {k : Nat} {fa a : Addr} {x : Str} {g : FF} {s₁ : Shared} {vs : List Value} {ns : List Int}
    (KX : K.In s₁.heap) (hns : s₁.heap.Ns mainGlobals mg) (hb : s₁.heap.Ns builtinsNs mb) (hbb : ∀ (x : Str), x ≠ "__name__" → mb x = bootBuiltins x) (hlim : s₁.heap.NoLimit) (hg : s₁.gens = #[])
    (hT : ∀ q ∈ cs, s₁.heap.get? q.2 = some { cls := .none, data := .fields #[] }) (nT : ∀ q ∈ cs, K.lookup q.2 = none) (C : ∀ q ∈ cs, PySem.W.CodeHd s₁.heap q.1 q.2)
    (hbm : ∃ bm ob, mg "__builtins__" = some (.ref bm) ∧ bm ≠ builtinsNs ∧ s₁.heap.get? bm = some ob ∧ ob.cls = .type "module" ∧ ob.dict = some builtinsNs ∧ ob.data = .plain)
    (ha : s₁.heap.get? a = some { cls := .type "list", data := .seq vs.toArray }) (hi : IntsAre vs ns) (hl : ns.length ≤ sizeLine) (hr : Room k callerA)
    (F : ∀ base : Heap, K.In base → base.Ns mainGlobals mg → (∀ q ∈ cs, LamX.TabB base mg q.1 q.2) → ∃ fd, Binds K fd [x] [] ∧ ZF true P0 w K mg base k fa fd [x] g)
    (hsp : ∃ m, g [.fl (ns.map .int)] [] = .ok (.bl true) m) :
    codeAny (model P0 w) callerA (.call (.ref fa) ⟨[.ref a], []⟩) (fun r s' => r = .ok (.ret (.bool true)) ∧ OldK s₁.heap s'.heap ∧ s'.os = s₁.os ∧ AllBare s'.gens) s₁ := by
  have rv : Vals (ns.map V.int) vs := vals_ints hi
  have lenV := IntsAre.length hi
  let S : List Addr := cs.map (·.2)
  have tS : ∀ {b}, b ∈ S → s₁.heap.get? b = some { cls := .none, data := .fields #[] } := fun {b} hb => by
    obtain ⟨q, hq, rfl⟩ := List.mem_map.mp hb
    exact hT q hq
  have nS : ∀ {b}, b ∈ S → K.lookup b = none := fun {b} hb => by
    obtain ⟨q, hq, rfl⟩ := List.mem_map.mp hb
    exact nT q hq
  have inS : ∀ {q}, q ∈ cs → q.2 ∈ S := fun hq => List.mem_map.mpr ⟨_, hq, rfl⟩
  have aS : a ∉ S := fun hm => by
    have z := tS hm
    rw [ha] at z
    cases z
  have core : ∀ H : Hp, (∀ b ∈ S, H b = some (.tbl #[])) → (∀ b, H b = none ∨ b ∈ S ∨ ∃ o xs, H b = some (.frz o (.lst xs))) → SqF K H a (ns.map V.int) → HOk P0 w H s₁.heap → (∀ b, H b ≠ none → b = a ∨ b ∈ S) → (H a ≠ none → K.lookup a = none) →
      codeAny (model P0 w) callerA (.call (.ref fa) ⟨[.ref a], []⟩) (fun r s' => r = .ok (.ret (.bool true)) ∧ OldK s₁.heap s'.heap ∧ s'.os = s₁.os ∧ AllBare s'.gens) s₁ := by
    intro H hP hO hS hok hA hK
    have noD : ∀ {b : Addr} {o : Obj}, s₁.heap.get? b = some o → (∀ vs n, o.data ≠ .seq vs n) → o.data ≠ .fields #[] → H b = none := by
      intro b o e h1 h2
      cases q : H b with
      | none => rfl
      | some u =>
        rcases hA b (by rw [q]; simp) with e' | e'
        · subst e'
          rw [ha] at e
          cases e
          exact absurd rfl (h1 _ _)
        · rw [tS e'] at e
          cases e
          exact absurd rfl h2
    have nsK : ∀ {b m}, s₁.heap.Ns b m → (hidT s₁.heap H).Ns b m := fun ⟨o, es, ep, e, d, r⟩ => ⟨o, es, ep, hidT_get e (noD e (fun vs n z => by rw [d] at z; cases z) (fun z => by rw [d] at z; cases z)), d, r⟩
    have hKb : K.In (hidT s₁.heap H) := fun b o e => hidT_get (KX b o e) (by
      cases q : H b with
      | none => rfl
      | some u =>
        rcases hA b (by rw [q]; simp) with e' | e'
        · subst e'
          have := hK (by rw [q]; simp)
          rw [this] at e
          cases e
        · rw [nS e'] at e
          cases e)
    obtain ⟨mc, hc1, hc2⟩ := hlim
    have TB : ∀ q ∈ cs, LamX.TabB (hidT s₁.heap H) mg q.1 q.2 := fun p hp => by
      have tp := hT p hp
      obtain ⟨o, us, file, tf, flags, tg, inF, text, tt, e1, r1, r2, r3, r4, r5, r6, r7, r8, hne⟩ := C p hp
      obtain ⟨bm, ob, b1, b2, b3, b4, b5, b6⟩ := hbm
      refine ⟨⟨o, us, file, tf, flags, tg, inF, text, tt, hidT_get e1 (noD e1 (fun vs n z => by rw [r2] at z; cases z) (fun z => ?_)), r1, r2, r3, r4, r5, r6, r7, r8, hne⟩, ⟨bm, ob, b1, b2, fun q => ?_, fun q => ?_, hidT_get b3 (noD b3 (fun vs n z => by rw [b6] at z; cases z) (fun z => by rw [b6] at z; cases z)), b4, b5, b6⟩, fun z => ?_⟩
      · rw [r2] at z
        cases z
        simp at r3
      · obtain ⟨o', es, ep, e, d, _⟩ := hns
        rw [q, e] at b3
        cases b3
        rw [d] at b6
        cases b6
      · rw [q, tp] at b3
        cases b3
        cases b6
      · obtain ⟨o', es, ep, e, d, _⟩ := hns
        rw [z, tp] at e
        cases e
        cases d
    have e0 : Env0 P0 w K mg (hidT s₁.heap H) callerA [] s₁ H :=
      { frames := rfl
        mod := { kin := hKb, glob := nsK hns, blt := ⟨mb, nsK hb, hbb⟩, nolimit := ⟨mc, nsK hc1, hc2⟩ }
        bs := fun b o e => of_hidT e
        bsz := Nat.le_of_eq (hidT_size s₁.heap H)
        funs := trivial
        frf := fun b hb => by simp [frs] at hb
        hok := hok
        bare := AllBare.of_eq hg }
    have start : spZ K mg 1 g [.ref a] H (fun v _ => v = .bl true) (fun _ _ _ => False) := by
      refine ⟨rfl, [], [], [.fl (ns.map .int)], [], .cons (.fl hS ?_) .nil, ⟨rfl, List.nodup_nil, by simp, fun p hp => LamX.TabS.nil (hP _ (hTab p hp)), by simp⟩, ?_⟩
      · exact ints_rep ns
      · obtain ⟨m, hm⟩ := hsp
        rw [hm]
        intro ι' H' b e h r
        cases r
        rfl
    obtain ⟨fd, hB, hF⟩ := F (hidT s₁.heap H) hKb (nsK hns) TB
    have hbind := hB s₁ [.ref a] KX rfl
    refine codeAny_mono (hF.run callerA [] s₁ H ⟨[.ref a], []⟩ [.ref a] [.ref a] _ _ hr (fun _ => rfl) e0 hbind (.cons rfl .nil) start) fun r s' h => ?_
    cases r with
    | error e => exact (cx_false h).elim
    | ok fl =>
      cases fl with
      | next => exact h.elim
      | brk => exact h.elim
      | cont => exact h.elim
      | ret u =>
        obtain ⟨v, H', os, bare, un, hok', r', q⟩ := h
        have q' : v = .bl true := q
        subst q'
        cases r'
        have key : ∀ (b : Addr) (o : Obj), b ∉ S → s₁.heap.get? b = some o → s'.heap.get? b = some o := by
          intro b o nb e
          cases q : H b with
          | none => exact un.keep b o e q (by simp [frs]) (by simp)
          | some u =>
            rcases hO b with z | z | ⟨ob, xs, z⟩
            · rw [q] at z; cases z
            · exact absurd z nb
            · have z2 := un.frzs b ob (.lst xs) z
              have e1 := (hok b _ z).1
              have e2 := (hok' b _ z2).1
              rw [e] at e1
              cases e1
              exact e2
        have grown : ∀ b ∈ S, ∃ more : Array Value, s'.heap.get? b = some { cls := .none, data := .fields (#[] ++ more) } := fun b hb => by
          obtain ⟨more, hmore⟩ := un.tbls b #[] (hP b hb)
          exact ⟨more, hok' b _ hmore⟩
        refine ⟨rfl, ⟨fun b o e => ?_, fun b o e => ?_⟩, os, bare⟩
        · by_cases nb : b ∈ S
          · obtain ⟨q, hq, eq⟩ := List.mem_map.mp nb
            obtain ⟨more, hm⟩ := grown b nb
            subst eq
            rw [hT q hq] at e
            cases e
            exact .inr (.inl ⟨Heap.TableAt.isCodeTable (PySem.W.CodeHd.tab (C q hq) (hT q hq)), rfl, #[], more, rfl, hm⟩)
          · exact .inl (key b o nb e)
        · by_cases nb : b ∈ S
          · obtain ⟨more, hm⟩ := grown b nb
            exact ⟨_, hm⟩
          · exact ⟨o, key b o nb e⟩
  cases hk : K.lookup a with
  | none =>
    refine core (fun b => if b = a then some (.frz { cls := .type "list", data := .seq vs.toArray } (.lst (ns.map V.int))) else if b ∈ S then some (.tbl #[]) else none) (fun b hb => ?_) (fun b => ?_) (.inl ⟨_, if_pos rfl⟩) (fun b u z => ?_) (fun b z => ?_) fun _ => hk
    · exact (if_neg (fun e : b = a => aS (by rw [← e]; exact hb))).trans (if_pos hb)
    · by_cases hb : b = a
      · exact .inr (.inr ⟨_, _, if_pos hb⟩)
      · by_cases hb2 : b ∈ S
        · exact .inr (.inl hb2)
        · exact .inl ((if_neg hb).trans (if_neg hb2))
    · by_cases hb : b = a
      · have z' := (if_pos hb).symm.trans z
        cases z'
        subst hb
        exact ⟨ha, by rw [List.length_map]; exact hl, vs, 0, rv, ha⟩
      · by_cases hb2 : b ∈ S
        · have z' := ((if_neg hb).trans (if_pos hb2)).symm.trans z
          cases z'
          exact tS hb2
        · have z' := ((if_neg hb).trans (if_neg hb2)).symm.trans z
          cases z'
    · by_cases hb : b = a
      · exact .inl hb
      · by_cases hb2 : b ∈ S
        · exact .inr hb2
        · exact absurd ((if_neg hb).trans (if_neg hb2)) z
  | some o =>
    have e := KX a o hk
    rw [ha] at e
    cases e
    refine core (fun b => if b ∈ S then some (.tbl #[]) else none) (fun b hb => if_pos hb) (fun b => ?_) (.inr ⟨_, vs.toArray, 0, hk, rfl, rfl, rfl, by rw [List.size_toArray, lenV]; exact hl, rv⟩) (fun b u z => ?_) (fun b z => ?_) fun z => absurd (if_neg aS) z
    · by_cases hb2 : b ∈ S
      · exact .inr (.inl hb2)
      · exact .inl (if_neg hb2)
    · by_cases hb2 : b ∈ S
      · have z' := (if_pos hb2).symm.trans z
        cases z'
        exact tS hb2
      · have z' := (if_neg hb2).symm.trans z
        cases z'
    · by_cases hb2 : b ∈ S
      · exact .inr hb2
      · exact absurd (if_neg hb2) z
theorem nodup_inj {α β : Type} {f : α → β} : ∀ {l : List α}, (l.map f).Nodup → ∀ {a b}, a ∈ l → b ∈ l → f a = f b → a = b
  | [], _, _, _, h, _, _ => by cases h
  | x :: l, hn, a, b, ha, hb, e => by
    rw [List.map_cons, List.nodup_cons] at hn
    rcases List.mem_cons.mp ha with h1 | h1
    · rcases List.mem_cons.mp hb with h2 | h2
      · rw [h1, h2]
      · exact absurd (List.mem_map.mpr ⟨b, h2, by rw [← e, h1]⟩) hn.1
    · rcases List.mem_cons.mp hb with h2 | h2
      · exact absurd (List.mem_map.mpr ⟨a, h1, by rw [e, h2]⟩) hn.1
      · exact nodup_inj hn.2 h1 h2 e
/-- the tables at a heap: each def that makes lambdas has one -/
def TabsB (K : PySem.W.Frag) (mg : Str → Option Value) (base : Heap) : Prop := ∀ x ∈ lamNames, ∃ c P, PySem.W.tabIn K x = some (c, P) ∧ LamX.TabB base mg c P ∧ (P, x ++ ".<locals>.<lambda>") ∈ tabOf K ∧ ∀ p ∈ tabOf K, p.1 = P → p.2 = x ++ ".<locals>.<lambda>"
/-- the tables of the named defs, each at its place -/
inductive TabsIn (K : Params → PySem.W.Frag) : List Str → List (Str × Addr × Addr) → Prop
  | nil : TabsIn K [] []
  | cons {x : Str} {c P : Addr} {l : List Str} {cs : List (Str × Addr × Addr)} : (∀ w : World, PySem.W.tabIn (K w.params) x = some (c, P)) → TabsIn K l cs → TabsIn K (x :: l) ((x, c, P) :: cs)
theorem TabsIn.get {K : Params → PySem.W.Frag} : ∀ {l : List Str} {cs : List (Str × Addr × Addr)}, TabsIn K l cs → (∀ y ∈ l, ∃ c P, (∀ w : World, PySem.W.tabIn (K w.params) y = some (c, P)) ∧ (y, c, P) ∈ cs) ∧ ∀ p ∈ cs, p.1 ∈ l ∧ ∀ w : World, PySem.W.tabIn (K w.params) p.1 = some p.2
  | _, _, .nil => ⟨fun y h => (by cases h), fun p h => (by cases h)⟩
  | _, _, .cons h t => by
    obtain ⟨t1, t2⟩ := t.get
    refine ⟨fun y hy => ?_, fun p hp => ?_⟩
    · rcases List.mem_cons.mp hy with q | q
      · subst q; exact ⟨_, _, h, List.mem_cons_self⟩
      · obtain ⟨c, P, a, b⟩ := t1 y q
        exact ⟨c, P, a, List.mem_cons_of_mem _ b⟩
    · rcases List.mem_cons.mp hp with q | q
      · subst q; exact ⟨List.mem_cons_self, h⟩
      · obtain ⟨a, b⟩ := t2 p q
        exact ⟨List.mem_cons_of_mem _ a, b⟩
theorem walkZT {l : PySem.W.OpenLaw} {n k : Nat} {q : Program} {loose : List Str} {XP : (Str → Option Value) → Heap → Prop} {YP : World → Heap → Prop} {d : DefRec} {K : Params → PySem.W.Frag} {g : FF} {x : Str} {cs : List (Str × Addr × Addr)} (hn : l.most = some n) (hn2 : n ≤ sizeLine) (hdf : d.params.defaults = []) (hr : Room k callerA)
    (hY : ∀ (w : World) (h : Heap), YP w h → (K w.params).In h) (hcs : TabsIn K lamNames cs)
    (hrec : ∀ x ∈ lamNames, ∃ d', (recsOf q).find? (fun e => e.name == x) = some d') (hnt : ∀ w : World, PySem.W.noTabs (K w.params) = true) (hnd : (cs.map (·.2.2)).Nodup)
    (F : ∀ (w : World) (mg : Str → Option Value) (fa : Addr) (h : Heap), (K w.params).In h → h.Ns mainGlobals mg → mg d.name = some (.ref fa) →
      ∀ base : Heap, (K w.params).In base → base.Ns mainGlobals mg → TabsB (K w.params) mg base → ∃ fd, Binds (K w.params) fd [x] [] ∧ ZF true l.prog w (K w.params) mg base k fa fd [x] g)
    (hsp : ∀ ns : List Int, ns.length ≤ n → ∃ m, g [.fl (ns.map .int)] [] = .ok (.bl true) m) :
    PySem.W.WalkO q loose XP YP l.row.toRowW d [] (fun f vs => PySem.call f vs) :=
  Att.attach_call hn hdf fun w s₀ s₁ mg mb fa o pm cd doc a vs ns G Y ho hd hcd hmg hobj hints hlen hg => by
    have KX := hY w s₁.heap Y
    obtain ⟨memC, memN⟩ := hcs.get
    have tabs : ∀ p ∈ cs, PySem.W.CodeHd s₁.heap p.2.1 p.2.2 ∧ s₁.heap.get? p.2.2 = some (PySem.W.tabObj #[]) := fun p hp => by
      obtain ⟨h1, h2⟩ := memN p hp
      obtain ⟨d', hd'⟩ := hrec p.1 h1
      exact PySem.W.tab_of G.T KX hd' (h2 w)
    have lkN : ∀ p ∈ cs, (K w.params).lookup p.2.2 = none := fun p hp => by
      cases q : (K w.params).lookup p.2.2 with
      | none => rfl
      | some o =>
        have e := KX _ _ q
        rw [(tabs p hp).2] at e
        cases e
        have z := List.all_eq_true.mp (hnt w) _ (PySem.W.mem_of_lookupK q)
        exact absurd (show false = true from z) Bool.false_ne_true
    have tO : ∀ p ∈ tabOf (K w.params), ∃ c, ∃ y ∈ lamNames, (y, c, p.1) ∈ cs ∧ p.2 = y ++ ".<locals>.<lambda>" := fun p hp => by
      obtain ⟨y, hy, e⟩ := List.mem_filterMap.mp hp
      obtain ⟨c, P, e1, e2⟩ := memC y hy
      rw [e1 w] at e
      cases e
      exact ⟨c, y, hy, e2, rfl⟩
    refine law_callZT (cs := cs.map (·.2)) (fun p hp => ?_) KX G.T.g G.T.b G.T.builtins G.T.nolimit hg (fun p hp => ?_) (fun p hp => ?_) (fun p hp => ?_) G.T.bmain hobj hints (Nat.le_trans hlen hn2) hr (fun base b1 b2 b3 => F w mg fa s₁.heap KX G.T.g hmg base b1 b2 fun y hy => ?_) (hsp ns hlen)
    · obtain ⟨c, y, hy, h1, _⟩ := tO p hp
      exact List.mem_map.mpr ⟨(c, p.1), List.mem_map.mpr ⟨_, h1, rfl⟩, rfl⟩
    · obtain ⟨p', hp', rfl⟩ := List.mem_map.mp hp
      exact (tabs p' hp').2
    · obtain ⟨p', hp', rfl⟩ := List.mem_map.mp hp
      exact lkN p' hp'
    · obtain ⟨p', hp', rfl⟩ := List.mem_map.mp hp
      exact (tabs p' hp').1
    · obtain ⟨c, P, e1, e2⟩ := memC y hy
      refine ⟨c, P, e1 w, b3 (c, P) (List.mem_map.mpr ⟨_, e2, rfl⟩), List.mem_filterMap.mpr ⟨y, hy, by rw [e1 w]; rfl⟩, fun p hp e => ?_⟩
      obtain ⟨c', y', hy', h1, h2⟩ := tO p hp
      rw [h2]
      subst e
      have e3 := nodup_inj hnd h1 e2 rfl
      cases e3
      rfl
end Z

namespace Z
open PySem PySem.Spec PyProof.Rows L2

/-! ### an empty dict; pop at a place, extend -/
def eDic0 : EF := fun _ m => .ok (.ref m.length) (m ++ [.dic []])
theorem z_dic0 {X : Cx} {W : WX} {pos : Pos} : ZE X W (.Dict [] [] pos) eDic0 := PE.imp pe_dnewK fun σ H Q ⟨F, ι, ρ, m, hρ, hm, hp⟩ p hn => by
  refine hp (ι ++ [p]) _ _ (Ext.cell hn) (hm.cell hn (.dK upd_same .nil)) (.ref ?_)
  rw [← hm.len]; simp
def mPopAt (x : D) (ds : List D) (m : M) : R D := match x, ds with
  | .ref n, [.int i] => match m[n]? with
    | some (.lst xs) => if 0 ≤ i ∧ i < xs.length ∧ xs.length ≤ line then (match xs[i.toNat]? with
      | some y => .ok y (m.set n (.lst (xs.eraseIdx i.toNat)))
      | none => .bad) else .bad
    | _ => .bad
  | _, _ => .bad
theorem opm_popAt {X : Cx} : OpM X rPopAt mPopAt := fun F E ι H m x v xs vs Q hm rx rs hp => by
  unfold mPopAt at hp
  split at hp
  · rename_i n i
    cases rx with
    | @ref _ a e =>
    cases rs with
    | @cons _ v1 _ _ r1 r2 =>
    cases r2
    cases r1
    split at hp
    · rename_i ys hc
      split at hp
      · rename_i hl
        split at hp
        · rename_i y hy
          obtain ⟨us, h1, r3⟩ := lst_at hm e hc
          obtain ⟨c, hc', cr⟩ := hm.lt e
          obtain ⟨u, hu, ru⟩ := r3.get hy
          have ex : Ext ι H ι (upd H a (.lst (us.eraseIdx i.toNat))) := Ext.write hm e cr.notup.1 cr.notup.2
          have hlen : (i : Int) < us.length := by rw [← r3.length]; exact hl.2.1
          have hline : ys.length ≤ 16777216 := hl.2.2
          refine ⟨a, us, i, i.toNat, u, rfl, rfl, h1, by have := hl.1; omega, by have := r3.length; omega, ?_, hu, hp ι _ _ ex (hm.write e ex (.lst upd_same ((r3.eraseIdx _).mono ex))) (ru.mono ex)⟩
          have hs : seqIndex? i us.length = if (decide (0 ≤ i) && decide (i < (us.length : Int))) = true then some i.toNat else none := by
            unfold seqIndex?
            rw [if_neg (show ¬ i < 0 by have := hl.1; omega)]
          rw [hs, decide_eq_true hl.1, decide_eq_true hlen]
          rfl
        · exact hp.elim
      · exact hp.elim
    · exact hp.elim
  · exact hp.elim
def mExtend (x : D) (ds : List D) (m : M) : R D := match x, ds with
  | .ref n, [d] => match m[n]?, lstOf m d with
    | some (.lst xs), some ys => if xs.length + ys.length ≤ line then .ok .non (m.set n (.lst (xs ++ ys))) else .bad
    | _, _ => .bad
  | _, _ => .bad
theorem opm_extend {X : Cx} : OpM X rExtend mExtend := fun F E ι H m x v xs vs Q hm rx rs hp => by
  unfold mExtend at hp
  split at hp
  · rename_i n d
    cases rx with
    | @ref _ a e =>
    cases rs with
    | @cons _ v1 _ _ r1 r2 =>
    cases r2
    split at hp
    · rename_i xs ys hc hy
      split at hp
      · rename_i hl
        obtain ⟨us, h1, r3⟩ := lst_at hm e hc
        obtain ⟨c, hc', cr⟩ := hm.lt e
        obtain ⟨p, ws, rfl, hw, r4⟩ := lstOf_rep hm r1 hy
        have ex : Ext ι H ι (upd H a (.lst (us ++ ws))) := Ext.write hm e cr.notup.1 cr.notup.2
        exact ⟨a, p, us, ws, rfl, rfl, h1, hw, by rw [line_eq, ← r3.length, ← r4.length]; exact hl, hp ι _ _ ex (hm.write e ex (.lst upd_same ((r3.append r4).mono ex))) .non⟩
      · exact hp.elim
    · exact hp.elim
  · exact hp.elim
section
variable {X : Cx} {W : WX} {o e : Expr} {fo f : EF} {apos cpos : Pos}
theorem z_popAt (ho : ZE X W o fo) (ha : ZE X W e f) (h1 : attributeBase o "pop" X.env (eval o X.env) = eval o X.env := by rfl)
    (h2 : (((((backTo cpos (starEach [e] X.env)).all fun x => !x.fst) && (backToKw cpos (keywordEach [] X.env)).all fun x => x.fst.isSome) && decide (([e].length + ([] : List Keyword).length + if ([] : List Keyword).isEmpty = true then 0 else 1) < 30)) = true) := by rfl)
    (h3 : (apos.endLine == cpos.line) = true := by rfl) (h4 : starEach [e] X.env = (false, eval e X.env) :: starEach [] X.env := by rfl) (h5 : ((backTo cpos (starEach ([] : List Expr) X.env)).any fun x => x.fst) = false := by rfl) :
    ZE X W (.Call (.Attribute o "pop" apos) [e] [] cpos) (eMethL mPopAt fo (aCons f aNil)) :=
  z_bmL PySem.F.plainAttrs_list PySem.F.slot_list_pop PySem.F.type_list_pop mt_popAt opm_popAt ho (za_cons ha za_nil h4) h1 h2 h3 h4 h5
theorem z_extend (ho : ZE X W o fo) (ha : ZE X W e f) (h1 : attributeBase o "extend" X.env (eval o X.env) = eval o X.env := by rfl)
    (h2 : (((((backTo cpos (starEach [e] X.env)).all fun x => !x.fst) && (backToKw cpos (keywordEach [] X.env)).all fun x => x.fst.isSome) && decide (([e].length + ([] : List Keyword).length + if ([] : List Keyword).isEmpty = true then 0 else 1) < 30)) = true) := by rfl)
    (h3 : (apos.endLine == cpos.line) = true := by rfl) (h4 : starEach [e] X.env = (false, eval e X.env) :: starEach [] X.env := by rfl) (h5 : ((backTo cpos (starEach ([] : List Expr) X.env)).any fun x => x.fst) = false := by rfl) :
    ZE X W (.Call (.Attribute o "extend" apos) [e] [] cpos) (eMethL mExtend fo (aCons f aNil)) :=
  z_bmL PySem.F.plainAttrs_list PySem.F.slot_list_extend PySem.F.type_list_extend mt_extend opm_extend ho (za_cons ha za_nil h4) h1 h2 h3 h4 h5
end
/-- an empty dict's kind is turned behind an expression -/
def TurnAny (H H' : Hp) : Prop := H' = H ∨ ∃ a, (H a = some (.dK []) ∧ H' = upd H a (.dT [])) ∨ (H a = some (.dT []) ∧ H' = upd H a (.dK []))
theorem pe_turn {X : Cx} {e : Expr} {te : TE} (h : PE X e te) : PE X e (fun σ H Q => te σ H fun v H1 => ∃ H2, TurnAny H1 H2 ∧ Q v H2) :=
  ⟨fun pins s σ H Q I q => thn (h.run pins s σ H _ I q) fun u s1 ⟨v, H1, I1, r, H2, t, q2⟩ => by
    rcases t with rfl | ⟨a, ⟨z1, rfl⟩ | ⟨z1, rfl⟩⟩
    · exact ⟨v, _, I1, r, q2⟩
    · exact ⟨v, _, toT I1 z1, r, q2⟩
    · exact ⟨v, _, toK I1 z1, r, q2⟩⟩
def dicIs (m : M) : D → Bool
  | .ref n => match m[n]? with
    | some (.dic _) => true
    | _ => false
  | _ => false
def oSetd (x k y : D) (m : M) : R D := match x with
  | .ref n => match m[n]? with
    | some (.dic kvs) => if ((keyOf k).isSome && keyFits kvs k && decide (kvs.length < line)) = true then (match valD kvs k with
      | some v => .ok v m
      | none => .ok y (m.set n (.dic (putD kvs k y)))) else .bad
    | _ => .bad
  | _ => .bad
def eSetd (fo fk fv : EF) : EF := fun ρ m => (fo ρ m).bind fun d m1 => if dicIs m1 d = true then (fk ρ m1).bind fun k m2 => (fv ρ m2).bind fun y m3 => oSetd d k y m3 else .bad
theorem z_setd {X : Cx} {W : WX} {o e f : Expr} {fo fk fv : EF} {apos cpos : Pos} (ho : ZE X W o fo) (hk : ZE X W e fk) (hv : ZE X W f fv) (hm2 : M2 X o "setdefault" apos e f cpos := by exact ⟨rfl, rfl, rfl, rfl⟩) :
    ZE X W (.Call (.Attribute o "setdefault" apos) [e, f] [] cpos) (eSetd fo fk fv) := by
  refine PE.imp (pe_dsetd ho hk (pe_turn hv) hm2) fun σ H Q ⟨F, ι, ρ, m, hρ, hm, hp⟩ => ⟨F, ι, ρ, m, hρ, hm, ?_⟩
  refine Post.seq hp fun d m1 ι1 H1 vd _ e1 h1 r1 hp1 => ?_
  split at hp1
  · rename_i hd
    unfold dicIs at hd
    split at hd
    · rename_i n
      cases r1 with
      | @ref _ a ea =>
      split at hd
      · rename_i kvs0 hc0
        refine ⟨a, rfl, ?_, F, ι1, ρ, m1, hρ.mono e1, h1, ?_⟩
        · rcases dic_at h1 ea hc0 with ⟨ws, z, _⟩ | ⟨ws, z, _⟩
          · exact .inl ⟨ws, .inl z⟩
          · exact .inr ⟨ws, .inl z⟩
        refine Post.seq hp1 fun k m2 ι2 H2 vk _ e2 h2 r2 hp2 => ⟨F, ι2, ρ, m2, (hρ.mono e1).mono e2, h2, ?_⟩
        refine Post.seq hp2 fun y m3 ι3 H3 vy _ e3 h3 r3 hp3 => ?_
        have ea3 := (e2.trans e3).get ea
        have rk := r2.mono e3
        unfold oSetd at hp3
        dsimp only at hp3
        split at hp3
        · rename_i kvs hc
          split at hp3
          · rename_i hg
            rw [Bool.and_eq_true, Bool.and_eq_true] at hg
            obtain ⟨⟨g1, g2⟩, g3⟩ := hg
            obtain ⟨q, hq⟩ := Option.isSome_iff_exists.mp g1
            obtain ⟨c, hc', cr⟩ := h3.lt ea3
            have go : ∀ (H4 : Hp) (ws : List (Key × V)), TurnAny H3 H4 → Ext ι3 H3 ι3 H4 → HR X.K (X.mg, F) ι3 H4 m3 → H4 a = some (.dK ws) → RepK X.K (X.mg, F) ι3 H4 kvs ws → ∃ H4, TurnAny H3 H4 ∧ ∃ (kvs : List (Key × V)) (k : Key), H4 a = some (.dK kvs) ∧ vk = kV k ∧ kvs.length < sizeLine ∧ (∀ v, valV kvs k = some v → Q v H4) ∧ (valV kvs k = none → Q vy (upd H4 a (.dK (putK kvs k vy)))) := by
              intro H4 ws t ex h4 z1 rw
              refine ⟨H4, t, ws, q, z1, kV_of rk hq, by rw [line_eq, ← repK_len rw]; exact of_decide_eq_true g3, fun v hv => ?_, fun hv => ?_⟩
              · have z := valD_K rw hq
                split at hp3
                · rename_i y' hy'
                  rw [hy'] at z
                  obtain ⟨u, hu, ru⟩ := z
                  rw [hv] at hu
                  cases hu
                  exact hp3 ι3 H4 _ ex h4 ru
                · rename_i hy'
                  rw [hy'] at z
                  rw [hv] at z
                  cases z
              · have z := valD_K rw hq
                split at hp3
                · rename_i y' hy'
                  rw [hy'] at z
                  obtain ⟨u, hu, ru⟩ := z
                  rw [hv] at hu
                  cases hu
                · obtain ⟨c4, _, cr4⟩ := h4.lt ea3
                  have ex2 : Ext ι3 H4 ι3 (upd H4 a (.dK (putK ws q vy))) := Ext.write h4 ea3 cr4.notup.1 cr4.notup.2
                  exact hp3 ι3 _ _ (ex.trans ex2) (h4.write ea3 ex2 (.dK upd_same (paired_mono (fun _ _ ⟨x1, x2⟩ => ⟨x1, x2.mono ex2⟩) (putD_K rw hq (r3.mono ex))))) (r3.mono (ex.trans ex2))
            rcases dic_at h3 ea3 hc with ⟨ws, z1, rw⟩ | ⟨ws, z1, rw⟩
            · exact go H3 ws (.inl rfl) .refl h3 z1 rw
            · cases rw with
              | nil =>
                obtain ⟨x1, x2⟩ := turnE h3 ea3 hc (o := .dK []) (.dK upd_same .nil)
                exact go _ [] (.inr ⟨a, .inr ⟨z1, rfl⟩⟩) x1 x2 upd_same .nil
              | cons hpq t =>
                exfalso
                unfold keyFits at g2
                simp only [isT, hpq.1, keyOf_T hq] at g2
                simp at g2
          · exact hp3.elim
        · exact hp3.elim
      · cases hd
    · cases hd
  · exact hp1.elim
end Z

namespace Z
open PySem PySem.Spec PyProof.Rows L2

/-! ### a walk over a text or a sequence -/
def iAny (f : EF) : IF := fun ρ m => (f ρ m).bind fun d m1 => match d with
  | .str x => .ok (itS x) m1
  | d => match itOf m1 d with
    | some z => .ok z m1
    | none => .bad
theorem zi_any {X : Cx} {W : WX} {tg e : Expr} {f : EF} (he : ZE X W e f) : ZI X W tg e (iAny f) := by
  refine ⟨fun pins s σ H R' I ⟨F, ι, ρ, m, hρ, hm, hp⟩ => ?_⟩
  by_cases q : ∃ x m1, f ρ m = .ok (.str x) m1
  · obtain ⟨x, m1, q⟩ := q
    have e : iAny f ρ m = iStrZ f ρ m := by unfold iAny iStrZ; rw [q]; rfl
    rw [e] at hp
    exact (zi_str he).run pins s σ H R' I ⟨F, ι, ρ, m, hρ, hm, hp⟩
  · have e : iAny f ρ m = iSeq f ρ m := by
      unfold iAny iSeq
      cases z : f ρ m with
      | bad => rfl
      | err x m1 => rfl
      | ok d m1 =>
        cases d with
        | str x => exact absurd ⟨x, m1, z⟩ q
        | _ => rfl
    rw [e] at hp
    exact (zi_seq he).run pins s σ H R' I ⟨F, ι, ρ, m, hρ, hm, hp⟩
end Z

namespace Z
open PySem PySem.Spec PyProof.Rows L2
/-! ### enumerate of a tuple -/
theorem meets_enumB {v : Value} {o : Obj} {H : Heap → Prop} (B : Begins v o H) :
    Meets (Builtin.«enumerate.__new__» ⟨[.type "enumerate", v], []⟩) (fun _ R s => H s.heap ∧
      R (.ok (.ret (.ref (s.heap.push o).objs.size))) { s with heap := (s.heap.push o).push { cls := .type "enumerate", data := .fields #[.none, .bool false, .ref s.heap.objs.size, rawInt 0, .none, .none] } }) :=
  .of_wp fun prog w A R s hh => by
    obtain ⟨hp, g, d, tk, os⟩ := s
    obtain ⟨h1, h2⟩ := hh
    have hsub := sub_enumerate
    have it1 : ∀ {A' : Around} {E : Value → Shared → Prop} {Q : Value → Shared → Prop}, Q (.ref hp.objs.size) ⟨hp.push o, g, d, tk, os⟩ → wpAny (model prog w) A' (pyIter v) Q E ⟨hp, g, d, tk, os⟩ :=
      fun q => B.iter prog w _ _ ⟨hp, g, d, tk, os⟩ _ h1 q
    wp_walk
    refine wpAny_stack_any fun st => wpAny_pure ?_
    split
    · rename_i c _ _ _ _ _
      cases (c == Value.type "enumerate")
      · wp_walk using it1
        exact ⟨_, rfl, h2⟩
      · wp_walk using it1
        exact ⟨_, rfl, h2⟩
    · wp_walk using it1
      exact ⟨_, rfl, h2⟩
theorem enum_one {prog : Program} {w : World} {A : Around} {E : Value → Shared → Prop} {s : Shared} {v : Value} {o : Obj} {H : Heap → Prop} {Q : Value → Shared → Prop} (B : Begins v o H) (h1 : H s.heap)
    (h : ∀ h', IsEnum h' (s.heap.objs.size + 1) s.heap.objs.size 0 .none → h'.get? s.heap.objs.size = some o → (∀ b o, s.heap.get? b = some o → h'.get? b = some o) → Q (.ref (s.heap.objs.size + 1)) { s with heap := h' }) :
    wpAny (model prog w) A (call (.type "enumerate") [v]) Q E s := by
  refine callType_new F.called_enumerate (by decide) (F.typeCall_enumerate_1 _) (F.newCall_enumerate_1 _) (fun obj => F.args_object_init_2 obj _) F.entry_enumerate_new (meets_enumB B) ⟨h1, ?_⟩
  have z1 : (s.heap.push o).objs.size = s.heap.objs.size + 1 := Heap.size_push ..
  have z2 := Heap.get?_push_size (s.heap.push o) (o := { cls := .type "enumerate", data := .fields #[.none, .bool false, .ref s.heap.objs.size, rawInt 0, .none, .none] }) rfl
  rw [z1] at z2
  show _ ∧ _
  rw [z1]
  exact ⟨⟨_, z2, rfl⟩, h _ z2 (Heap.get?_push_of_some _ (Heap.get?_push_size _ B.free)) fun b o x => Heap.get?_push_of_some _ (Heap.get?_push_of_some _ x)⟩
def IteT (K : PySem.W.Frag) (a : Addr) : It where
  go := fun i H => ∃ xs x, SqT K H a xs ∧ xs[i]? = some x
  yld := fun i H v H' => ∃ T x, v = V.ref T ∧ H T = none ∧ H' = upd H T (.tup [.int (i : Nat), x]) ∧ ∀ xs, SqT K H a xs → xs[i]? = some x
  stop := fun i H => ∃ xs, SqT K H a xs ∧ xs.length ≤ i
theorem turn_enumT {P : Program} {w : World} {K : PySem.W.Frag} {elts : List Expr} {kk : Nat} {tpos : Pos} (a e it : Addr) :
    L2.Turn P w K (.Tuple elts kk tpos) (IteT K a) [e, it] e (fun i h => (∃ old, IsEnum h e it ((i : Nat) : Int) old) ∧ h.IsTupleIter it a i ∧ e ≠ it) where
  mem := List.mem_cons_self
  obj := fun i h ⟨⟨old, he⟩, ⟨o, ho, hc, hd⟩, _⟩ b hb => by
    rcases List.mem_cons.mp hb with rfl | hb
    · exact ⟨_, he, fun v q => nomatch q⟩
    · rw [List.mem_singleton.mp hb]
      exact ⟨o, ho, fun v q => by rw [hd] at q; cases q⟩
  keep := fun i h h' ⟨⟨old, he⟩, ⟨o, ho, r⟩, hne⟩ k => ⟨⟨old, k e (by simp) _ he⟩, ⟨o, k it (by simp) _ ho, r⟩, hne⟩
  item := by
    intro X hP hw hK hc i pins s σ H E I hf ⟨⟨old, he⟩, hit, hne⟩ ⟨xs, x, hq, hx⟩
    subst hP hw hK
    obtain ⟨its, rv, p, hz⟩ := I.tuple hq
    obtain ⟨u, hu, ru⟩ := rv.get hx
    have ha : a ≠ it := fun z => by
      obtain ⟨o, e1, c1, _⟩ := p
      obtain ⟨o2, e2, c2, _⟩ := hit
      rw [z, e2] at e1; cases e1
      rw [c1] at c2
      exact absurd (Value.type.inj c2) (by decide)
    have hea : e ≠ a := fun z => by
      obtain ⟨o, e1, c1, _⟩ := p
      rw [← z] at e1
      have he' := he
      unfold IsEnum at he'
      rw [he'] at e1; cases e1
      exact absurd (Value.type.inj c1) (by decide)
    have lte : e < s.heap.objs.size := Heap.lt_size he
    have lti : it < s.heap.objs.size := by obtain ⟨_, q, _⟩ := hit; exact Heap.lt_size q
    refine wpAny_pyNext_enum_itemD (Draws.tuple (A := X.A.in1) (I.ok.hd hc) it a ha its.toArray) he ⟨hit, p⟩ (by
      rw [List.size_toArray, ← rv.length]
      exact (List.getElem?_eq_some_iff.mp hx).1) hne (by simp; exact ⟨hne, hea⟩) fun y h' tk hy ho st' hT hsz hk => ?_
    have ey : y = u := by
      rw [List.getElem?_toArray, hu] at hy
      exact (Option.some.inj hy).symm
    subst ey
    refine ⟨_, rfl, wpAny_letOwnedTupleGo_enum (s := { s with heap := h', toks := tk + 1 }) ho fun h2 he2 sb => ?_⟩
    have hT2 : h2.get? s.heap.objs.size = some { cls := .type "tuple", data := .seq #[.int i tk, y] } := (sb.2 _ (Nat.ne_of_gt lte)).trans hT
    have new : ObjOk X.prog X.w (upd H s.heap.objs.size (.tup [.int (i : Nat), x])) h2 s.heap.objs.size (.tup [.int (i : Nat), x]) :=
      ⟨by show 2 ≤ sizeLine; decide, [.int i tk, y], .cons ⟨_, rfl⟩ (.cons ru .nil), ⟨_, hT2, rfl, _, rfl⟩⟩
    have I1 := I.turnedNew (ch := [e, it]) (t' := tk + 1) (h' := h2) (fun b ob hb q => (sb.2 b (fun z => hb (by simp [z]))).trans (hk b ob (fun z => hb (by simp [z])) (fun z => hb (by simp [z])) q)) hf (Nat.le_refl _) new
    refine ⟨.ref s.heap.objs.size, _, I1, rfl, ⟨_, x, rfl, I.hok.fresh (Nat.le_refl _), rfl, fun ys hy => by rw [I.tuple_inj hy hq]; exact hx⟩, ⟨⟨y, ?_⟩, ?_, hne⟩, fun b hb => ?_⟩
    · rw [show ((i + 1 : Nat) : Int) = (i : Int) + 1 by omega]
      exact he2
    · obtain ⟨⟨o, q, r⟩, _⟩ := st'
      exact ⟨o, (sb.2 it (Ne.symm hne)).trans q, r⟩
    · have lt : b < s.heap.objs.size := by
        rcases List.mem_cons.mp hb with rfl | hb
        · exact lte
        · rw [List.mem_singleton.mp hb]; exact lti
      rw [upd_ne (Nat.ne_of_lt lt)]
      exact (hf b hb).1
  done := by
    intro X hP hw hK hc i pins s σ H E I hf ⟨⟨old, he⟩, hit, hne⟩ ⟨xs, hq, hx⟩
    subst hP hw hK
    obtain ⟨its, rv, p, hz⟩ := I.tuple hq
    obtain ⟨f0, f1, f2, f3, f4, f5⟩ := hf it (by simp)
    have ha : a ≠ it := fun z => by
      obtain ⟨o, e1, c1, _⟩ := p
      obtain ⟨o2, e2, c2, _⟩ := hit
      rw [z, e2] at e1; cases e1
      rw [c1] at c2
      exact absurd (Value.type.inj c2) (by decide)
    have Dr : Draws X.prog X.w X.A.in1 it [it, a] i (fun _ _ => False) (fun j h => j = i ∧ h.IsTupleIter it a i ∧ h.IsTuple a its.toArray) :=
      { live := fun j h ⟨_, ⟨o, q, _⟩, _⟩ => ⟨o, q⟩
        frame := fun j h h' ⟨ej, ⟨o, q, r⟩, ⟨o2, q2, r2⟩⟩ k => ⟨ej, ⟨o, k it (by simp) o q, r⟩, ⟨o2, k a (by simp) o2 q2, r2⟩⟩
        item := fun j s Q E hj ⟨ej, _⟩ => absurd ej (by omega)
        done := fun s Q E ⟨_, h1, h2⟩ k => wpAny_nextOf_tuple_end (I.ok.hd hc) h1 h2 (by
          rw [List.getElem?_toArray]
          exact List.getElem?_eq_none (by rw [← rv.length]; exact hx)) k }
    exact wpAny_pyNext_enum_endD Dr he ⟨rfl, hit, p⟩ fun h' k => ⟨rfl, I.turned (t' := s.toks) (h' := h') k f0 f1 f3 f4 f5⟩
  self := fun A i s Q E ⟨⟨_, he⟩, _⟩ h => wpAny_pyIter_enum he h
end Z

namespace Z
open PySem PySem.Spec PyProof.Rows L2
theorem pi_enumT {X : Cx} {e : Expr} {ta : TA} {p pos tpos : Pos} {elts : List Expr} {kk : Nat} (hg : Gl X "enumerate") (hm : X.mg "enumerate" = none) (ha : PA X [e] ta) (hs : starEach [e] X.env = [(false, eval e X.env)] := by rfl) :
    PI X (.Tuple elts kk tpos) (.Call (.Name "enumerate" p) [e] [] pos) (fun σ H R => ta σ H fun vs H1 => ∃ a xs, vs = [.ref a] ∧ SqT X.K H1 a xs ∧ R (IteT X.K a) H1) := by
  refine ⟨fun pins s σ H R I h => Call_ (ld_blt I hg hm boot_enumerate (callWith_type1 (thn (ha.run pos pins s σ H _ I h) fun us s1 ⟨vs, H1, I1, r1, a, xs, ex, hq, q⟩ => ?_) hs rfl) (by decide) (by decide)) rfl⟩
  subst ex
  cases r1 with
  | @cons _ u _ _ r rr =>
  cases rr
  cases r
  obtain ⟨its, rv, p', hz⟩ := I1.tuple hq
  refine enum_one (begins_tuple a its.toArray) p' fun h' he ho hk => ?_
  refine wpAny_pyIter_enum he ⟨s1.heap.objs.size + 1, [s1.heap.objs.size + 1, s1.heap.objs.size], _, IteT X.K a, H1, rfl, I1.kept hk, turn_enumT a _ _, ⟨⟨.none, he⟩, ⟨_, ho, rfl, rfl⟩, Nat.succ_ne_self _⟩, fun b hb => ?_, q⟩
  have hle : s1.heap.objs.size ≤ b := by
    simp only [List.mem_cons, List.not_mem_nil, or_false] at hb
    rcases hb with rfl | rfl
    · exact Nat.le_succ _
    · exact Nat.le_refl _
  exact I1.fpOk hle (HOk.fresh I1.hok hle)
theorem relI_enumT {K : PySem.W.Frag} {mg : G} {ι : List Addr} {H : Hp} {a : Addr} {xs : List D} {vs : List V} (hs : ∀ {ι' H'}, Ext ι H ι' H' → SqT K H' a vs) (r : RepL K mg ι H xs vs) : relI K mg ι H (itE xs) (IteT K a) := fun i F' ι' H' m' hF e hm => by
  have q := hs e
  have r' := (r.grow hF).mono e
  refine ⟨fun hn => ⟨vs, q, ?_⟩, fun d hd => ?_⟩
  · have hn : (xs[i]?.map fun x => D.tup [.int (i : Nat), x]) = none := Option.some.inj hn
    rw [Option.map_eq_none_iff] at hn
    rw [← r.length]
    exact List.getElem?_eq_none_iff.mp hn
  · have hd : (xs[i]?.map fun x => D.tup [.int (i : Nat), x]) = some d := Option.some.inj hd
    obtain ⟨x, hx, rfl⟩ := Option.map_eq_some_iff.mp hd
    obtain ⟨v, h1, h2⟩ := r'.get hx
    refine ⟨⟨vs, v, q, h1⟩, fun z H'' hy => ?_⟩
    obtain ⟨T, u, rfl, hT, rfl, f1⟩ := hy
    have e1 := f1 vs q
    rw [h1] at e1
    cases e1
    exact pair_new hm hT (.int _) h2
theorem relI_enumL {K : PySem.W.Frag} {mg : G} {ι : List Addr} {H : Hp} {a : Addr} {xs : List D} {vs : List V} (hs : ∀ {ι' H'}, Ext ι H ι' H' → SqL K H' a vs) (r : RepL K mg ι H xs vs) : relI K mg ι H (itE xs) (L2.Ite K a) := fun i F' ι' H' m' hF e hm => by
  have q := hs e
  have r' := (r.grow hF).mono e
  refine ⟨fun hn => ⟨vs, q, ?_⟩, fun d hd => ?_⟩
  · have hn : (xs[i]?.map fun x => D.tup [.int (i : Nat), x]) = none := Option.some.inj hn
    rw [Option.map_eq_none_iff] at hn
    rw [← r.length]
    exact List.getElem?_eq_none_iff.mp hn
  · have hd : (xs[i]?.map fun x => D.tup [.int (i : Nat), x]) = some d := Option.some.inj hd
    obtain ⟨x, hx, rfl⟩ := Option.map_eq_some_iff.mp hd
    obtain ⟨v, h1, h2⟩ := r'.get hx
    refine ⟨⟨vs, v, q, h1⟩, fun z H'' hy => ?_⟩
    obtain ⟨T, u, rfl, hT, rfl, f1⟩ := hy
    have e1 := f1 vs q
    rw [h1] at e1
    cases e1
    exact pair_new hm hT (.int _) h2
theorem zi_enum {X : Cx} {W : WX} {e : Expr} {f : EF} {p pos tpos : Pos} {elts : List Expr} {kk : Nat} (hg : Gl X "enumerate") (hm : X.mg "enumerate" = none) (he : ZE X W e f) (hs : starEach [e] X.env = [(false, eval e X.env)] := by rfl) (hs2 : starEach [e] X.env = (false, eval e X.env) :: starEach [] X.env := by rfl) :
    ZI X W (.Tuple elts kk tpos) (.Call (.Name "enumerate" p) [e] [] pos) (iEnumZ f) := by
  refine ⟨fun pins s σ H R' I ⟨F, ι, ρ, m, hρ, hm', hp⟩ => ?_⟩
  unfold iEnumZ at hp
  by_cases q : ∃ d m1, f ρ m = .ok d m1 ∧ isTupD d = true
  · obtain ⟨d0, m0, q, ht⟩ := q
    refine (pi_enumT hg hm (za_cons he za_nil hs2) hs).run pins s σ H R' I ⟨F, ι, ρ, m, hρ, hm', ?_⟩
    unfold aCons aNil
    rw [q] at hp ⊢
    intro ι1 H1 vs e1 h1 r1
    have hp := Post.shift e1 hp
    cases r1 with
    | @cons _ v _ _ r1 r2 =>
    cases r2
    cases r1 with
    | tup h2 r2 => exact ⟨_, _, rfl, .of h2, hp.okI h1 (relI_enumT (fun e => .of (e.tup _ _ h2)) r2)⟩
    | kt h2 r2 => exact ⟨_, _, rfl, h2.sq, hp.okI h1 (relI_enumT (fun e => h2.sq) r2)⟩
    | _ => cases ht
  · refine (L2.pi_enum hg hm (za_cons he za_nil hs2) hs).run pins s σ H R' I ⟨F, ι, ρ, m, hρ, hm', ?_⟩
    unfold aCons aNil
    cases z : f ρ m with
    | bad => rw [z] at hp; exact hp
    | err x m1 => rw [z] at hp; exact hp
    | ok d m1 =>
      rw [z] at hp
      intro ι1 H1 vs e1 h1 r1
      have hp := Post.shift e1 hp
      cases r1 with
      | @cons _ v _ _ r1 r2 =>
      cases r2
      cases r1 with
      | tup h2 r2 => exact (q ⟨_, _, z, rfl⟩).elim
      | kt h2 r2 => exact (q ⟨_, _, z, rfl⟩).elim
      | fl h2 r2 => exact ⟨_, _, rfl, h2.sq, hp.okI h1 (relI_enumL (fun e => (e.sqF h2).sq) r2)⟩
      | sl n h2 r2 => exact ⟨_, _, rfl, .of h2, hp.okI h1 (relI_enumL (fun e => .of (e.fr _ _ nt_lst (fun q => n (List.mem_append_left _ q)) h2)) r2)⟩
      | _ => exact hp.elim
end Z

namespace Z
open PySem PySem.Spec PyProof.Rows L2

/-! ### a call of a name that holds a def -/
def eCallV (tab : List (Str × FF)) (i : Nat) (a : AF) : EF := fun ρ m => match ρ[i]? with
  | some (some (.glo x)) => (match tab.lookup x with
    | some g => (a ρ m).bind fun ds m1 => g ds m1
    | none => .bad)
  | _ => .bad
/-- each def of the table runs here -/
def TabOk (X : Cx) (k : Nat) (tab : List (Str × FF)) : Prop := ∀ p ∈ tab, ∃ rq ps, ZD rq X.prog X.w X.K X.mg X.base k p.1 ps p.2 ∧ (∀ ds m, ds.length ≠ ps.length → p.2 ds m = .bad) ∧ (rq = true → X.A.guards = some [])
theorem tabok_nil {X : Cx} {k : Nat} : TabOk X k [] := fun p h => by cases h
theorem tabok_cons {X : Cx} {k j : Nat} {rq : Bool} {x : Str} {ps : List Str} {g : FF} {tab : List (Str × FF)} (Z0 : ZD rq X.prog X.w X.K X.mg X.base j x ps g) (hj : j ≤ k) (hl : ∀ ds m, ds.length ≠ ps.length → g ds m = .bad) (hg : rq = true → X.A.guards = some []) (r : TabOk X k tab) : TabOk X k ((x, g) :: tab) := fun p h => by
  rcases List.mem_cons.mp h with h | h
  · subst h
    exact ⟨rq, ps, Z0.mono hj, hl, hg⟩
  · exact r p h
theorem lookup_mem {α β : Type} [BEq α] [LawfulBEq α] {x : α} {y : β} : ∀ {l : List (α × β)}, l.lookup x = some y → (x, y) ∈ l
  | [], h => by cases h
  | (a, b) :: l, h => by
    rw [List.lookup_cons] at h
    split at h
    · rename_i e
      cases h
      rw [show x = a from eq_of_beq e]
      exact List.mem_cons_self
    · exact List.mem_cons_of_mem _ (lookup_mem h)
section
variable {X : Cx} {W : WX} {pos p : Pos} {k i : Nat} {y : Str} {e : Expr} {es : List Expr} {t : AF} {tab : List (Str × FF)}
theorem z_callv (T : TabOk X k tab) (hr : Room k X.A) (hN : X.N[i]? = some y) (hv : Vis X.env.scope y) (tk : Takes X W) (ha : ZA X W (e :: es) t)
    (hdb : (y == ("__debug__" : Str)) = false := by decide) (hcd : (y == ("__classdict__" : Str)) = false := by decide)
    (he : starEach (e :: es) X.env = (false, eval e X.env) :: starEach es X.env := by rfl) (hpl : (backTo pos (starEach es X.env)).any (·.1) = false := by rfl) :
    ZE X W (.Call (.Name y p) (e :: es) [] pos) (eCallV tab i t) := by
  refine ⟨fun pins s σ H Q I ⟨F, ι, ρ, m, hρ, hm', hp⟩ => ?_⟩
  unfold eCallV at hp
  split at hp
  · rename_i x hx
    split at hp
    · rename_i g hg
      obtain ⟨rq, ps, ⟨f, fd, h1, h2, h3, h4⟩, hgl, hgd⟩ := T _ (lookup_mem hg)
      obtain ⟨v, hσ, rv⟩ := hρ.2 i _ hx
      cases rv with
      | glo hmx =>
      have hmx : X.mg x = some (.ref _) := hmx
      have h1 : X.mg x = some (.ref f) := h1
      rw [h1] at hmx
      cases hmx
      refine wpAny_Call_Name_kw (thn ((pe_var (pos := p) hN hv hdb hcd).run pins s σ H (fun v H1 => v = .ref f ∧ H1 = H) I ⟨.ref f, hσ, rfl, rfl⟩) fun u s1 ⟨v, H1, I1, r1, q1⟩ => ?_)
      obtain ⟨rfl, rfl⟩ := q1
      cases r1
      have hA : tA X.K X.mg W t σ H1 fun vs H2 => ∃ ι1 ds m1, HR X.K (X.mg, F) ι1 H2 m1 ∧ RepL X.K (X.mg, F) ι1 H2 ds vs ∧ Post X.K (X.mg, F) (relE X.K (X.mg, F)) (fun c d H' => W c d σ H') ι1 H2 Q (g ds m1) :=
        ⟨F, ι, ρ, m, hρ, hm', Post.seq hp fun ds m1 ι1 H1 vs _ e1 h1 r1 hp1 => ⟨ι1, ds, m1, h1, r1, hp1⟩⟩
      refine PySem.W.callWith_K (h₀ := X.base) I1.ok.mod.kin h2 (thn (ha.run pos pins s1 σ H1 _ I1 hA) fun us s2 ⟨vs, H2, I2, r, ι1, ds, m1, h1, r1, hp1⟩ => ⟨I2.kIn, ?_⟩) he hpl
      by_cases hl : ds.length = ps.length
      · have hv : vs.length = ps.length := r1.length.symm.trans hl
        have hb' := h3 s2 us I2.kIn (by rw [List.append_nil, ← r.length]; exact hv)
        rw [List.append_nil] at hb'
        exact zrun h4 hr hgd tk I2 hb' r hv r1 h1 hp1
      · have hgl' : g ds m1 = .bad := hgl ds m1 hl
        rw [hgl'] at hp1
        exact hp1.elim
    · exact hp.elim
  · exact hp.elim
end

/-! ### f(lambda: body), f a trying def of the text -/
/-- the handlers of a trying def and what they are here -/
def HsOk (K : PySem.W.Frag) (mg : Str → Option Value) (nn : Nat) (X0 : List Env → Shared → Hp → Cx) (n : Str) (hs : List (Str × (Addr → Addr → SF))) (hds : List ExceptHandler) : Prop :=
  ∃ l, HsAt K mg nn hs l ∧ ∀ outer s H, HdT (X0 outer s H) n hds l
theorem hsok_nil {K : PySem.W.Frag} {mg : Str → Option Value} {nn : Nat} {X0 : List Env → Shared → Hp → Cx} {n : Str} : HsOk K mg nn X0 n [] [] := ⟨[], .nil, fun _ _ _ => .nil⟩
theorem hsok_cons {K : PySem.W.Frag} {mg : Str → Option Value} {nn : Nat} {X0 : List Env → Shared → Hp → Cx} {n C : Str} {g : Addr → Addr → SF} {b₀ : Stmt} {suite : List Stmt} {np tp pos' : Pos} {kk : Nat} {hs : List (Str × (Addr → Addr → SF))} {hds : List ExceptHandler}
    (hK : ∀ outer s H, (X0 outer s H).K = K ∧ (X0 outer s H).mg = mg ∧ (X0 outer s H).N.length = nn) (hC : ∃ CA, mg C = some (.ref CA)) (hg : ∀ outer s H, Gl (X0 outer s H) C)
    (hsu : ∀ outer s H (CA : Addr), mg C = some (.ref CA) → ∀ (a : Addr) (oe : Obj) (dd : Addr) (pn : List (Addr × Obj)), Zc (.ref CA) (some dd) oe → (∃ vs, oe.data = .fields vs) → ZB ((X0 outer s H).suite a ((a, oe) :: pn)) WN (b₀ :: suite) (g a dd))
    (r : HsOk K mg nn X0 n hs hds) (hd : (C == ("__debug__" : Str)) = false := by decide)
    (hst : ∀ outer s H, starEach [.Name C np] (X0 outer s H).env = (false, eval (.Name C np) (X0 outer s H).env) :: starEach [] (X0 outer s H).env := by intros; rfl) :
    HsOk K mg nn X0 n ((C, g) :: hs) (.ExceptHandler (some (.Tuple [.Name C np] kk tp)) (some n) (b₀ :: suite) pos' :: hds) := by
  obtain ⟨l, h1, h2⟩ := r
  obtain ⟨CA, hm⟩ := hC
  refine ⟨(.ref CA, tSuite K mg CA nn g) :: l, .cons hm h1, fun outer s H => ?_⟩
  obtain ⟨e1, e2, e3⟩ := hK outer s H
  rw [← e1, ← e2, ← e3]
  exact hd_cons (by rw [e2]; exact hm) (hg outer s H) (hsu outer s H CA hm) (h2 outer s H) hd (hst outer s H)
theorem gives_tryA {X : Cx} {Ng : List Str} {x n a : Str} {i : Nat} {sg : Scope} {g : Addr} {cdg : Value} {bg : List Stmt} {q : Str} {l : List (Value × (Addr → Value → Option Addr → TS))} {h₀ : ExceptHandler} {hds : List ExceptHandler} {p1 p2 p3 p4 p5 p5' : Pos}
    (hbg : bg = [.Try [.Expr (.Call (.Name a p1) [] [] p2) p3] (h₀ :: hds) [] [] p4, .Return (some (.Constant .none 0 p5)) p5'])
    (hN : Ng.Nodup) (hi : Ng[i]? = some n) (hln : sg.names.lookup n = some .local)
    (hk : ∀ (s : Shared) (H : Hp), (cxOf C8.CX0 X.prog X.w X.K X.mg X.base Ng x sg g cdg X.A X.stack s H C8.E0).env.kindOf n = some .local)
    (hh : ∀ (s : Shared) (H : Hp), HdT (cxOf C8.CX0 X.prog X.w X.K X.mg X.base Ng x sg g cdg X.A X.stack s H C8.E0).nox n (h₀ :: hds) l)
    (hsw : ∀ (s : Shared) (H : Hp), swapsWith (.Call (.Name a p1) [] [] p2) none p3.line (cxOf C8.CX0 X.prog X.w X.K X.mg X.base Ng x sg g cdg X.A X.stack s H C8.E0).env = pure false) :
    LamX.GivesTo X Ng x sg g cdg bg a q (TTr X.K i l) := by
  subst hbg
  intro f c' s0 H0 Q tl hcall hc' hT
  let tb : WX → TS := fun W D σ H => ∃ E : XK, (∀ cls d σ' H', E cls d H' → W cls d σ' H') ∧ σ[0]? = some (some (.ref f)) ∧ H c' = some (LamX.CodeO c' q) ∧ tl E H (fun _ H' => D.nx σ H')
  refine ⟨_, pss_cons (ps_try_tups (tb := tb) rfl rfl hN hi (hk s0 H0) (.inl hln) (.inr hln) (fun W pn xe tk pw => pss_one ⟨fun pins s σ H D I ⟨E, hE, h0, h1, h2⟩ => ?_⟩) (hh s0 H0)) (pss_one (ps_ret pe_non)), ?_⟩
  · exact (ps_expr (hcall W pn xe E p1 p2 tk hE) (hsw s0 H0)).run pins s σ H D I ⟨h0, h1, h2⟩
  · refine ⟨_, fun cls d σ' H' h => h _ σ' rfl, rfl, hc', hT⟩
theorem z_refD {X : Cx} {W : WX} {x a n : Str} {st : Stmt} {P c : Addr} {k i : Nat} {Ng : List Str} {params : Arguments} {body : Expr} {scope : Scope} {p lpos pos p1 p2 p3 p4 p5 p5' : Pos}
    {hs : List (Str × (Addr → Addr → SF))} {cs : List Str} {f : EF} {h₀ : ExceptHandler} {hds : List ExceptHandler} (hg : Gl X x) (D : DefAt X.K X.mg x st [a]) (Sg : FnScope Ng [a] (defScope st)) (hNg : Ng[0]? = some a) (hva : Vis (defScope st) a)
    (hbg : defBody st = [.Try [.Expr (.Call (.Name a p1) [] [] p2) p3] (h₀ :: hds) [] [] p4, .Return (some (.Constant .none 0 p5)) p5'])
    (hi : Ng[i]? = some n) (hln : (defScope st).names.lookup n = some .local)
    (hk : ∀ (g : Addr) (cdg : Value) (s : Shared) (H : Hp), (cxOf C8.CX0 X.prog X.w X.K X.mg X.base Ng x (defScope st) g cdg X.A X.stack s H C8.E0).env.kindOf n = some .local)
    (hh : ∀ (g : Addr) (cdg : Value), HsOk X.K X.mg Ng.length (fun outer s H => (cxOf C8.CX0 X.prog X.w X.K X.mg X.base Ng x (defScope st) g cdg X.A outer s H C8.E0).nox) n hs (h₀ :: hds))
    (hsw : ∀ (g : Addr) (cdg : Value) (s : Shared) (H : Hp), swapsWith (.Call (.Name a p1) [] [] p2) none p3.line (cxOf C8.CX0 X.prog X.w X.K X.mg X.base Ng x (defScope st) g cdg X.A X.stack s H C8.E0).env = pure false)
    (TB : LamX.TabB X.base X.mg c P) (hcode : X.env.code = .ref c) (hT : (P, X.env.qual ++ "<lambda>") ∈ tabOf X.K) (hTu : ∀ p ∈ tabOf X.K, p.1 = P → p.2 = X.env.qual ++ "<lambda>") (hr : Room (k + 2) X.A) (L : LamX.LamS X.env.scope scope) (hdef : defaultsOf params X.env = ([], []))
    (hbind : ∀ (q : Str) (cl : List (Str × Addr)) (pm cv ctv : Value), bindArgs (PySem.W.kla_fn "<lambda>" q params body scope cl pm cv ctv) ⟨[], []⟩ = pure [])
    (hbody : ∀ (A : Around) (outer : List Env) (s : Shared) (H : Hp) (E : XK) (f' c' : Addr), Room k (A.deeper (LamX.lamEnv X scope s.heap.objs.size f' c')) → ZE (LamX.lamCx X A outer s H E scope f' c') (fun c d _ H' => E c d H') body f)
    (ht : ExTab X.K X.mg cs) (hin : ∀ p ∈ hs, p.1 ∈ cs ∧ Indep Ng.length i p.2)
    (hdb : (x == ("__debug__" : Str)) = false := by decide) (had : (a == ("__debug__" : Str)) = false := by decide) (hac : (a == ("__classdict__" : Str)) = false := by decide) :
    ZE X W (.Call (.Name x p) [.Lambda params body scope lpos] [] pos) (eRef Ng.length i hs f) := by
  obtain ⟨g, fd, ⟨⟨oc, od, kV, doc, pm, an, cdv, ct, osl, rfl, lk, hcd⟩⟩, hm, hkp, hb, _⟩ := D
  obtain ⟨l, h1, h2⟩ := hh g cdv
  exact z_ref hg hm hkp lk hcd hb Sg hNg hva (gives_tryA hbg Sg.nd hi hln (hk g cdv) (h2 X.stack) (hsw g cdv)) TB hcode hT hTu hr L hdef hbind hbody ht (List.getElem?_eq_some_iff.mp hi).1 h1 hin hdb had hac
theorem fin_mkT {P : Program} {w : World} {K : PySem.W.Frag} {mg : Str → Option Value} {k : Nat} {fa : Addr} {st : Stmt} {g : FF} (D : DefAt K mg "law" st ["script"]) (hfa : mg "law" = some (.ref fa))
    (hb : ∀ (kV doc pm : Value) (an : Option Addr) (cdv ct u : Value), bindArgs (PySem.W.fnOf "law" "law" (defArgs st) (defBody st) (defScope st) .none kV doc pm an cdv ct) ⟨[u], []⟩ = pure [(("script" : Str), u)])
    (hz : ∀ f fd, Fun K "law" "law" st f fd → PySem.W.nsIn K mainGlobals "law" = some (some (.ref f)) → ∀ base, TabsB K mg base → ZF true P w K mg base k f fd ["script"] g) :
    ∃ fd : FuncData, (∀ (s : Shared) (u : Value), BindsTo s fd ⟨[u], []⟩ [("script", u)]) ∧ ∀ base : Heap, K.In base → base.Ns mainGlobals mg → TabsB K mg base → ZF true P w K mg base k fa fd ["script"] g := by
  obtain ⟨f, fd, F, h1, _, _, h4⟩ := D
  rw [hfa] at h1
  cases h1
  exact ⟨fd, fun s u => bindsTo_of F hb s u, fun base _ _ t => hz fa fd F h4 base t⟩
end Z

namespace Z
open PySem PySem.Spec PyProof.Rows L2
open Sem (wp)

/-! ### tuple(d) of a dict: whatever list(d) is made of -/
section
variable {prog : Program} {w : World} {A : Around} {E : Value → Shared → Prop} {s : Shared} {T : String} {r d : Addr} {n : Nat} {P : Nat → Value → Prop} {OK : Heap → Prop}
theorem collect_src {Q : List Value → Shared → Prop} (K : PySem.W.KdlSrc prog w T r d n P OK) (hh : A.handled = none) (hok : OK s.heap) (hn : n ≤ sizeLine)
    (hQ : ∀ (h' : Heap) (tk : Nat) (acc : Array Value), (∀ b o, s.heap.get? b = some o → h'.get? b = some o) → ItemsOf P acc n → Q acc.toList { s with heap := h', toks := tk }) :
    wpAny (model prog w) A (collect (.ref r)) Q E s := by
  have hlt := K.there _ hok
  unfold collect
  refine wpAny_bind (wpAny_runValue (codeAny_builtin PySem.F.entry_proto_collect ?_))
  rw [Around.under_plainId PySem.F.plain_proto_collect _]
  show wpAny _ A.in1 (newList [] >>= fun l => again (.builtin "list.__iadd__" ⟨[l, .ref r], []⟩)) _ _ s
  refine wpAny_bind (wpAny_newObj_type ?_)
  refine wpAny_pure ⟨plainId_quiet PySem.F.plain_list_iadd _, codeAny_builtin PySem.F.entry_list_iadd ?_⟩
  rw [Around.under_plainId PySem.F.plain_list_iadd _]
  show wpAny _ A.in1 (Builtin.List.listExtendWith (.ref s.heap.objs.size) (.ref r) (.ref s.heap.objs.size)) _ _ _
  have hS : (s.heap.push { cls := .type "list", data := .seq ([] : List Value).toArray }).get? s.heap.objs.size = some { cls := .type "list", data := .seq #[] 0 } := Heap.get?_push_size _ rfl
  refine wpAny_mono (PySem.W.kdl_extend (A := A) (R := fun rr s' => rr = .ok (.ret (.ref s.heap.objs.size)) ∧ ∃ (h' : Heap) (tk : Nat) (acc : Array Value) (c' : Nat), s' = { s with heap := h', toks := tk } ∧
      (∀ b o, s.heap.get? b = some o → h'.get? b = some o) ∧ h'.get? s.heap.objs.size = some { cls := .type "list", dict := none, data := .seq acc c', slots := #[] } ∧ ItemsOf P acc n)
    (s := { s with heap := s.heap.push { cls := .type "list", data := .seq ([] : List Value).toArray } }) K hh (K.keep _ _ hok fun b _ o e => Heap.get?_push_of_some _ e) _ (Nat.ne_of_gt hlt.1) (Nat.ne_of_gt hlt.2) _ 0 hS
    (fun h' tk acc c' hk e hi => ⟨rfl, h', tk, acc, c', rfl, fun b o q => hk b o (Nat.ne_of_lt (Heap.lt_size q)) (Heap.get?_push_of_some _ q), e, hi⟩) hn) (fun fin s' h => ?_) (fun e s' h => ?_)
  · cases fin with
    | done f =>
      obtain ⟨e, h', tk, acc, c', rfl, hk, hS', hi⟩ := h
      cases e
      show wpAny _ A (load s.heap.objs.size >>= _) _ _ _
      exact wpAny_bind (wpAny_load hS' (wpAny_pure (hQ h' tk acc hk hi)))
    | again c' =>
      refine ⟨h.1, codeAny_mono h.2 fun rr s'' hr' => ?_⟩
      obtain ⟨rfl, h', tk, acc, c', rfl, hk, hS', hi⟩ := hr'
      show wpAny _ A (load s.heap.objs.size >>= _) _ _ _
      exact wpAny_bind (wpAny_load hS' (wpAny_pure (hQ h' tk acc hk hi)))
  · exact absurd h.1 (by simp)
theorem new_tuple_src {Q₁ : Value → Shared → Prop} (K : PySem.W.KdlSrc prog w "dict" r d n P OK) (hh : A.handled = none) (hok : OK s.heap) (hn : n ≤ sizeLine)
    (h : ∀ (h' : Heap) (tk : Nat) (acc : Array Value), (∀ b o, s.heap.get? b = some o → h'.get? b = some o) → ItemsOf P acc n →
      Q₁ (.ref h'.objs.size) { s with heap := h'.push { cls := .type "tuple", data := .seq acc }, toks := tk }) :
    codeAny (model prog w) A (.call (.builtin "tuple.__new__") ⟨[.type "tuple", .ref r], []⟩) (wants Q₁ E) s := by
  refine codeAny_of_tree ?_
  show wpAny _ A.in1 (do checkBuiltinCall "tuple.__new__" ⟨[.type "tuple", .ref r], []⟩; again (.builtin "tuple.__new__" ⟨[.type "tuple", .ref r], []⟩)) _ _ s
  refine wpAny_bind (wpAny_of_eq (PySem.F.newCall_tuple_1 _) (wpAny_pure ⟨plainId_quiet PySem.F.plain_tuple_new _, codeAny_builtin PySem.F.entry_tuple_new ?_⟩))
  rw [Around.under_plainId PySem.F.plain_tuple_new _]
  have hsub := sub_tuple_self
  have hinit := init_tuple_lookup
  have hmh := madeHere_tuple
  have hTI : s.TypeIs (.ref r) "dict" := K.type s hok
  have hh1 : A.in1.handled = none := hh
  wp_walk using wpAny_typeOf hTI, collect_src (A := A.in1) K hh1 hok hn
  intro h' tk acc hk hacc
  show wpAny _ _ (Builtin.Tuple.tupleExact acc.toList.toArray >>= fun v => ret v) _ _ _
  unfold Builtin.Tuple.tupleExact
  refine wpAny_bind (wpAny_newObj_type ?_ (by show acc.toList.toArray.size ≤ sizeLine; simp only [Array.toArray_toList]; rw [hacc.1]; exact hn))
  refine wpAny_pure ?_
  have e : acc.toList.toArray = acc := by simp
  rw [e]
  exact h h' tk acc hk hacc
theorem call_tuple_src {Q : Value → Shared → Prop} (K : PySem.W.KdlSrc prog w "dict" r d n P OK) (hh : A.handled = none) (hok : OK s.heap) (hn : n ≤ sizeLine)
    (hQ : ∀ (h' : Heap) (tk : Nat) (acc : Array Value), (∀ b o, s.heap.get? b = some o → h'.get? b = some o) → ItemsOf P acc n →
      Q (.ref h'.objs.size) { s with heap := h'.push { cls := .type "tuple", data := .seq acc }, toks := tk }) :
    wpAny (model prog w) A (call (.type "tuple") [.ref r]) Q E s := by
  refine callType_codes (Q₁ := fun obj s₁ => s₁.TypeIs obj "tuple" ∧ Q obj s₁) PySem.F.called_tuple (PySem.F.typeCall_tuple_1 _) PySem.F.entry_object_init
    (new_tuple_src (A := A.in1) K hh hok hn fun h' tk acc hk hacc => ⟨⟨_, Heap.get?_push_size _ rfl, rfl⟩, hQ h' tk acc hk hacc⟩) fun obj s₁ h₁ => ?_
  exact ⟨h₁.1, PySem.F.args_object_init_2 obj _, object_init_meets PySem.F.called_tuple.init.lookup PySem.F.called_tuple.made (by decide) prog w A.in1 _ s₁ ⟨h₁.1, rfl, h₁.2⟩⟩
end
def rTupleD : List V → Hp → VK → Prop := fun xs H Q => ∃ p kvs, xs = [.ref p] ∧ H p = some (.dK kvs) ∧ ∀ q, H q = none → Q (.ref q) (upd H q (.tup (kvs.map fun kv => kV kv.1)))
theorem call_tuple_dK {X : Cx} (hc : X.calm = true) : CallR X (.type "tuple") rTupleD := by
  intro pins s σ H xs us Q I r ⟨p, kvs, e, hk, q⟩
  subst e
  obtain ⟨u, eu, rx⟩ := vals1 r
  subst eu
  obtain rfl : u = Value.ref p := rx
  obtain ⟨z, lo, vs, rk, hd⟩ := (show ObjOk X.prog X.w H s.heap p (.dK kvs) from I.hok p _ hk)
  obtain ⟨ep, hat⟩ := hd.dictAt
  have hl : kvs.length = vs.length := Paired.length rk
  refine call_tuple_src (PySem.W.kdl_dict (knd := mixKind X.prog X.w) (kvs := vs) (ep := ep) lo) (I.ok.hd hc) hat (by rw [← hl]; exact z) fun h' tk acc' hkeep hacc => ?_
  have I1 : Inv X pins σ H { s with heap := h', toks := tk } := I.kept hkeep
  refine ⟨.ref h'.objs.size, upd H h'.objs.size (.tup (kvs.map fun kv => kV kv.1)), I1.laid (t' := tk) (fun b o e => Heap.get?_push_of_some _ e) (Nat.le_refl _) (show ObjOk X.prog X.w _ _ _ (.tup (kvs.map fun kv => kV kv.1)) from ⟨by rw [List.length_map]; exact z, acc'.toList, ?_, ?_⟩), rfl, q _ (I1.hok.fresh (Nat.le_refl _))⟩
  · have el : acc'.toList.length = acc'.size := by simp
    refine vals_of_at (by rw [List.length_map, el, hacc.1, hl]) fun j x w h1 h2 => ?_
    obtain ⟨k, y, hky, hi⟩ := hacc.2 j w (by rw [← Array.getElem?_toList]; exact h2)
    have e1 : (kvs.map (·.1))[j]? = some k := by
      rw [KV.keys rk, List.getElem?_map, hky] <;> rfl
    have e2 : (kvs.map fun kv => kV kv.1)[j]? = some (kV k) := by
      have e3 : (kvs.map fun kv => kV kv.1) = (kvs.map (·.1)).map kV := by rw [List.map_map] <;> rfl
      rw [e3, List.getElem?_map, e1] <;> rfl
    rw [e2] at h1
    cases h1
    exact keyIs_rel hi
  · rw [Array.toArray_toList]; exact IsTup.new _ _
theorem callR_or {X : Cx} {v : Value} {r1 r2 : List V → Hp → VK → Prop} (h1 : CallR X v r1) (h2 : CallR X v r2) : CallR X v (fun xs H Q => r1 xs H Q ∨ r2 xs H Q) := fun pins s σ H xs us Q I r h => h.elim (h1 pins s σ H xs us Q I r) (h2 pins s σ H xs us Q I r)
theorem rep_keyOf {K : PySem.W.Frag} {mg : G} {ι : List Addr} {H : Hp} {d : D} {k : Key} (h : keyOf d = some k) : Rep K mg ι H d (kV k) := by
  cases d <;> cases h
  · exact .int _
  · exact .str _
theorem rep_keysK {K : PySem.W.Frag} {mg : G} {ι : List Addr} {H : Hp} {kvs : List (D × D)} {ws : List (Key × V)} (r : RepK K mg ι H kvs ws) : RepL K mg ι H (kvs.map (·.1)) (ws.map fun kv => kV kv.1) := by
  induction r with
  | nil => exact .nil
  | cons h _ ih => exact .cons (rep_keyOf h.1) ih
/-- tuple(x), x a dict, too -/
def bTupleA (ds : List D) (m : M) : R D := match ds with
  | [.ref n] => match m[n]? with
    | some (.dic kvs) => if kvs.all (fun p => (keyOf p.1).isSome) = true then .ok (.tup (kvs.map (·.1))) m else .bad
    | _ => bTuple ds m
  | _ => bTuple ds m
theorem emptyT {X : Cx} {pins : List (Addr × Obj)} {σ : L2.St} {H : Hp} {s : Shared} {p : Addr} (I : Inv X pins σ H s) (h : H p = some (.dT [])) : Inv X pins σ (upd H p (.dK [])) s := toK I h
abbrev rTuple1 (X : Cx) : List V → Hp → VK → Prop := fun xs H Q => ∃ p ys, xs = [.ref p] ∧ ((SqL X.K H p ys ∧ ∀ l, H l = none → Q (.ref l) (upd H l (.tup ys))) ∨ (SqT X.K H p ys ∧ Q (.ref p) H))
/-- an empty dict's kind may be turned ahead -/
def rTurn (r : List V → Hp → VK → Prop) : List V → Hp → VK → Prop := fun xs H Q => ∃ H', TurnAny H H' ∧ r xs H' Q
theorem callR_turn {X : Cx} {v : Value} {r : List V → Hp → VK → Prop} (h : CallR X v r) : CallR X v (rTurn r) := fun pins s σ H xs us Q I rv ⟨H', t, q⟩ => by
  rcases t with rfl | ⟨a, ⟨z1, rfl⟩ | ⟨z1, rfl⟩⟩
  · exact h pins s σ _ xs us Q I rv q
  · exact h pins s σ _ xs us Q (toT I z1) rv q
  · exact h pins s σ _ xs us Q (toK I z1) rv q
theorem call_tupleA {X : Cx} (hc : X.calm = true) : CallR X (.type "tuple") (fun xs H Q => rTuple1 X xs H Q ∨ rTurn rTupleD xs H Q) := callR_or call_tuple_of (callR_turn (call_tuple_dK hc))
theorem opl_tupleA {X : Cx} : OpL X (fun xs H Q => rTuple1 X xs H Q ∨ rTurn rTupleD xs H Q) bTupleA := fun F E ι H m xs vs Q hm r hp => by
  unfold bTupleA at hp
  split at hp
  · rename_i n
    split at hp
    · rename_i kvs hc
      split at hp
      · rename_i hk
        refine .inr ?_
        cases r with
        | cons r1 r2 =>
        cases r2
        cases r1 with
        | @ref _ a e =>
        rcases dic_at hm e hc with ⟨ws, h1, h2⟩ | ⟨ws, h1, h2⟩
        · exact ⟨H, .inl rfl, a, ws, rfl, h1, fun q hq => hp.newT hm (rep_keysK h2) hq⟩
        · cases h2 with
          | nil =>
            obtain ⟨x1, x2⟩ := turnE hm e hc (o := .dK []) (.dK upd_same .nil)
            exact ⟨_, .inr ⟨a, .inr ⟨h1, rfl⟩⟩, a, [], rfl, upd_same, fun q hq => (Post.shift x1 hp).newT x2 .nil hq⟩
          | @cons p q l1 l2 hpq t =>
            rw [List.all_cons, Bool.and_eq_true] at hk
            obtain ⟨k, hk⟩ := Option.isSome_iff_exists.mp hk.1
            exfalso
            have z := keyOf_T hk
            rw [hpq.1] at z
            cases z
      · exact hp.elim
    · exact .inl (opl_tuple F E ι H m _ vs Q hm r hp)
  · exact .inl (opl_tuple F E ι H m _ vs Q hm r hp)
/-! ### constants of the module -/
theorem gcon_str {K : PySem.W.Frag} {h : Heap} {mg : Str → Option Value} (X : K.In h) (G : h.Ns mainGlobals mg) {x y : Str} {t : Tok} (a : PySem.W.nsIn K mainGlobals x = some (some (.str y t))) : GCon K mg x (.str y) := ⟨.str y, _, PySem.W.mg_of X G a, ⟨t, rfl⟩, fun _ _ _ => .str y⟩
theorem gcon_int {K : PySem.W.Frag} {h : Heap} {mg : Str → Option Value} (X : K.In h) (G : h.Ns mainGlobals mg) {x : Str} {i : Int} {t : Tok} (a : PySem.W.nsIn K mainGlobals x = some (some (.int i t))) : GCon K mg x (.int i) := ⟨.int i, _, PySem.W.mg_of X G a, ⟨t, rfl⟩, fun _ _ _ => .int i⟩
/-- written values that are told by themselves -/
def litV : D → Value → Option V
  | .int i, .int j _ => if i = j then some (.int i) else none
  | .str x, .str y _ => if x = y then some (.str x) else none
  | .bl a, .bool b => if a = b then some (.bl a) else none
  | .non, .none => some .non
  | _, _ => none
def litVs : List D → List Value → Option (List V)
  | [], [] => some []
  | d :: ds, v :: vs => match litV d v, litVs ds vs with
    | some x, some xs => some (x :: xs)
    | _, _ => none
  | _, _ => none
theorem litV_ok {K : PySem.W.Frag} {mg : G} {ι : List Addr} {H : Hp} {d : D} {v : Value} {x : V} (h : litV d v = some x) : Rep K mg ι H d x ∧ RelV x v := by
  unfold litV at h
  split at h
  · split at h
    · rename_i e; subst e; cases h; exact ⟨.int _, _, rfl⟩
    · cases h
  · split at h
    · rename_i e; subst e; cases h; exact ⟨.str _, _, rfl⟩
    · cases h
  · split at h
    · rename_i e; subst e; cases h; exact ⟨.bl _, rfl⟩
    · cases h
  · cases h; exact ⟨.non, rfl⟩
  · cases h
theorem litVs_ok {K : PySem.W.Frag} {mg : G} {ι : List Addr} {H : Hp} : ∀ {ds : List D} {vs : List Value} {xs : List V}, litVs ds vs = some xs → RepL K mg ι H ds xs ∧ Vals xs vs
  | [], [], _, h => by cases h; exact ⟨.nil, .nil⟩
  | [], _ :: _, _, h => by cases h
  | _ :: _, [], _, h => by cases h
  | d :: ds, v :: vs, xs, h => by
    unfold litVs at h
    split at h
    · rename_i x ys h1 h2
      cases h
      obtain ⟨a1, a2⟩ := litV_ok (K := K) (mg := mg) (ι := ι) (H := H) h1
      obtain ⟨b1, b2⟩ := litVs_ok (K := K) (mg := mg) (ι := ι) (H := H) h2
      exact ⟨.cons a1 b1, .cons a2 b2⟩
    · cases h
theorem gcon_tup {K : PySem.W.Frag} {h : Heap} {mg : Str → Option Value} (X : K.In h) (G : h.Ns mainGlobals mg) {x : Str} {A : Addr} {ds : List D} {its : Array Value} {n : Nat} {od : Option Addr} {sl : Array (Option Value)} {xs : List V}
    (a : PySem.W.nsIn K mainGlobals x = some (some (.ref A))) (l : K.lookup A = some ⟨.type "tuple", od, .seq its n, sl⟩) (hs : decide (its.size ≤ 1000) = true) (hv : litVs ds its.toList = some xs) : GCon K mg x (.kt ds) :=
  ⟨.ref A, _, PySem.W.mg_of X G a, rfl, fun _ _ _ => .kt (vs := xs) ⟨_, its, n, l, rfl, rfl, by rw [sizeLine_eq]; have := of_decide_eq_true hs; omega, (litVs_ok (K := K) (mg := (mg, [])) (ι := []) (H := fun _ => none) hv).2⟩ (litVs_ok hv).1⟩
/-! ### what clauses take; suites that do not hang on addresses -/
def exChk (K : PySem.W.Frag) (L : List (Str × Addr)) : Bool := L.all fun p => L.all fun q => PySem.W.exmOne K (.ref p.2) (.ref q.2) == some (decide (p.1 = q.1))
theorem extab_of {K : PySem.W.Frag} {mg : Str → Option Value} {cs : List Str} {L : List (Str × Addr)} (r : AllAt K mg L) (hk : cs = L.map (·.1)) (hc : exChk K L = true) : ExTab K mg cs := by
  subst hk
  intro C hC C' hC' CA CA' h1 h2
  obtain ⟨p, hp, rfl⟩ := List.mem_map.mp hC
  obtain ⟨q, hq, rfl⟩ := List.mem_map.mp hC'
  have e1 := (r p hp).1
  have e2 := (r q hq).1
  rw [h1] at e1
  rw [h2] at e2
  cases e1
  cases e2
  have := List.all_eq_true.mp (List.all_eq_true.mp hc p hp) q hq
  simpa using this
theorem fldA_cau {n i : Nat} (hi : i < n) (a dd : Nat) (C : Str) (ns : List Str) (ds : List D) (f : Str) (m : M) : eFldA a dd f (eVar i) (rhoC n i (.cau a dd C ns ds)) m = (match lookD ns ds f with
    | some v => .ok v m
    | none => .bad) := by
  have e : (rhoC n i (.cau a dd C ns ds))[i]? = some (some (.cau a dd C ns ds)) := by
    unfold rhoC
    exact List.getElem?_set_self (by simpa using hi)
  unfold eFldA eVar
  rw [e]
  simp only [R.bind, and_self, if_true]
  all_goals (cases lookD ns ds f <;> rfl)
end Z
namespace Z
open PySem
def tryHds (b : List Stmt) : List ExceptHandler := match b with
  | .Try _ hs _ _ _ :: _ => hs
  | _ => []
end Z
namespace Z
theorem indep_ret {n i : Nat} {f : PySem.Addr → PySem.Addr → EF} (hf : ∀ a dd C ns ds m, f a dd (rhoC n i (.cau a dd C ns ds)) m = f 0 0 (rhoC n i (.cau 0 0 C ns ds)) m) : Indep n i (fun a dd => sRet (f a dd)) := fun a dd C ns ds m d m' h => by
  have h : (f 0 0 (rhoC n i (.cau 0 0 C ns ds)) m).stm (rhoC n i (.cau 0 0 C ns ds)) (fun d m1 => some (.rt d, m1)) = some (.rt d, m') := h
  show (f a dd (rhoC n i (.cau a dd C ns ds)) m).stm _ (fun d m1 => some (.rt d, m1)) = some (.rt d, m')
  rw [hf]
  cases q : f 0 0 (rhoC n i (.cau 0 0 C ns ds)) m with
  | ok a m1 => rw [q] at h; exact h
  | err x m1 => rw [q] at h; cases h
  | bad => rw [q] at h; cases h
end Z

namespace Z
open PySem PySem.Spec PyProof.Rows L2

/-! ### a call that sees no cell: run apart, in a store of its own -/
mutual
def noRef : D → Bool
  | .ref _ => false
  | .cau _ _ _ _ _ => false
  | .tup xs => noRefs xs
  | .fl xs => noRefs xs
  | .sl xs => noRefs xs
  | .kt xs => noRefs xs
  | .exc _ _ ds => noRefs ds
  | .non => true
  | .bl _ => true
  | .int _ => true
  | .str _ => true
  | .glo _ => true
  | .ty _ => true
def noRefs : List D → Bool
  | [] => true
  | d :: ds => match noRef d with
    | true => noRefs ds
    | false => false
end
def noRefF : List (Str × D) → Bool
  | [] => true
  | p :: r => match noRef p.2 with
    | true => noRefF r
    | false => false
theorem noRefs_cons {d : D} {ds : List D} (h : noRefs (d :: ds) = true) : noRef d = true ∧ noRefs ds = true := by
  unfold noRefs at h
  split at h
  · exact ⟨by assumption, h⟩
  · cases h
section
variable {K : PySem.W.Frag} {mg : Str → Option Value} {F ι ι1 : List Addr} {H H1 : Hp}
mutual
theorem Rep.apart : ∀ {d : D} {v : V}, Rep K (mg, F) ι H d v → noRef d = true → Rep K (mg, ι ++ F) [] H d v
  | _, _, .non, _ => .non
  | _, _, .bl b, _ => .bl b
  | _, _, .int i, _ => .int i
  | _, _, .str x, _ => .str x
  | _, _, .tup h r, hn => .tup h (RepL.apart r (by unfold noRef at hn; exact hn))
  | _, _, .ref h, hn => by unfold noRef at hn; cases hn
  | _, _, .glo h, _ => .glo h
  | _, _, .ty n, _ => .ty n
  | _, _, .fl h r, hn => .fl h (RepL.apart r (by unfold noRef at hn; exact hn))
  | _, _, .sl n h r, hn => .sl n h (RepL.apart r (by unfold noRef at hn; exact hn))
  | _, _, .exc c na nd ha hd r, hn => .exc c List.not_mem_nil List.not_mem_nil ha hd (RepL.apart r (by unfold noRef at hn; exact hn))
  | _, _, .ex0 c na ha, _ => .ex0 c List.not_mem_nil ha
  | _, _, .cau n h r, hn => by unfold noRef at hn; cases hn
  | _, _, .kt h r, hn => .kt h (RepL.apart r (by unfold noRef at hn; exact hn))
theorem RepL.apart : ∀ {ds : List D} {vs : List V}, RepL K (mg, F) ι H ds vs → noRefs ds = true → RepL K (mg, ι ++ F) [] H ds vs
  | _, _, .nil, _ => .nil
  | _, _, .cons h r, hn => .cons (Rep.apart h (noRefs_cons hn).1) (RepL.apart r (noRefs_cons hn).2)
end
/-- what stands at a cell's place is no exception, no table of fields -/
def CellLike (H : Hp) (ι : List Addr) : Prop := ∀ a ∈ ι, ∀ o, H a = some o → (∀ fs, o ≠ .xd fs) ∧ (∀ φ, o ≠ .ext φ)
theorem exo_ext (a C : Addr) (d : Option Addr) : ∃ φ, exo a C d = .ext φ := ⟨_, rfl⟩
theorem exd_ext (a : Addr) (fs : List (Str × V)) : ∃ φ, exd a fs = .ext φ := ⟨_, rfl⟩
mutual
theorem Rep.back (hc : CellLike H1 ι) : ∀ {d : D} {v : V}, Rep K (mg, ι ++ F) ι1 H1 d v → noRef d = true → Rep K (mg, F) ι H1 d v
  | _, _, .non, _ => .non
  | _, _, .bl b, _ => .bl b
  | _, _, .int i, _ => .int i
  | _, _, .str x, _ => .str x
  | _, _, .tup h r, hn => .tup h (RepL.back hc r (by unfold noRef at hn; exact hn))
  | _, _, .ref h, hn => by unfold noRef at hn; cases hn
  | _, _, .glo h, _ => .glo h
  | _, _, .ty n, _ => .ty n
  | _, _, .fl h r, hn => .fl h (RepL.back hc r (by unfold noRef at hn; exact hn))
  | _, _, .sl n h r, hn => .sl (fun q => n (List.mem_append_right _ q)) h (RepL.back hc r (by unfold noRef at hn; exact hn))
  | _, _, .exc c na nd ha hd r, hn => .exc c (fun q => by
      obtain ⟨φ, e⟩ := exo_ext _ _ _
      exact (hc _ q _ ha).2 φ e) (fun q => by
      obtain ⟨φ, e⟩ := exd_ext _ _
      exact (hc _ q _ hd).2 φ e) ha hd (RepL.back hc r (by unfold noRef at hn; exact hn))
  | _, _, .ex0 c na ha, _ => .ex0 c (fun q => by
      obtain ⟨φ, e⟩ := exo_ext _ _ _
      exact (hc _ q _ ha).2 φ e) ha
  | _, _, .cau n h r, hn => by unfold noRef at hn; cases hn
  | _, _, .kt h r, hn => .kt h (RepL.back hc r (by unfold noRef at hn; exact hn))
theorem RepL.back (hc : CellLike H1 ι) : ∀ {ds : List D} {vs : List V}, RepL K (mg, ι ++ F) ι1 H1 ds vs → noRefs ds = true → RepL K (mg, F) ι H1 ds vs
  | _, _, .nil, _ => .nil
  | _, _, .cons h r, hn => .cons (Rep.back hc h (noRefs_cons hn).1) (RepL.back hc r (noRefs_cons hn).2)
end
theorem RepF.back (hc : CellLike H1 ι) : ∀ {fs : List (Str × D)} {ws : List (Str × V)}, RepF K (mg, ι ++ F) ι1 H1 fs ws → noRefF fs = true → RepF K (mg, F) ι H1 fs ws
  | _, _, .nil, _ => .nil
  | _, _, .cons ⟨e, r⟩ t, hn => by
    unfold noRefF at hn
    split at hn
    · exact .cons ⟨e, Rep.back hc r (by assumption)⟩ (RepF.back hc t hn)
    · cases hn
end
def fIso (g : FF) (ds : List D) (m : M) : R D := match noRefs ds with
  | true => match g ds [] with
    | .ok d _ => match noRef d with
      | true => .ok d m
      | false => .bad
    | .err x _ => match noRefF x.fs with
      | true => .err x m
      | false => .bad
    | .bad => .bad
  | false => .bad
section
variable {K : PySem.W.Frag} {mg : Str → Option Value} {F ι : List Addr} {H : Hp} {m : M} {E : XK} {Q : VK}
theorem hr_apart (hm : HR K (mg, F) ι H m) : HR K (mg, ι ++ F) [] H [] where
  len := rfl
  nd := List.nodup_nil
  fd := fun a ha => by
    rcases List.mem_append.mp ha with q | q
    · obtain ⟨n, hn⟩ := List.getElem?_of_mem q
      obtain ⟨c, _, hc⟩ := hm.lt hn
      cases hc with
      | lst h _ => exact ⟨_, nt_lst, h⟩
      | dK h _ => exact ⟨_, nt_dK, h⟩
      | dT h _ => exact ⟨_, nt_dT, h⟩
      | ins _ h _ => exact ⟨_, nt_ins, h⟩
    · exact hm.fd a q
  tb := hm.tb
  at' := fun n a c h _ => by simp at h
theorem hr_nt (hm : HR K (mg, F) ι H m) {a : Addr} (ha : a ∈ ι) : ∃ o, NT o ∧ H a = some o ∧ (∀ fs, o ≠ .xd fs) ∧ (∀ φ, o ≠ .ext φ) := by
  obtain ⟨n, hn⟩ := List.getElem?_of_mem ha
  obtain ⟨c, _, hc⟩ := hm.lt hn
  cases hc with
  | lst h _ => exact ⟨_, nt_lst, h, fun _ e => (by cases e), fun _ e => (by cases e)⟩
  | dK h _ => exact ⟨_, nt_dK, h, fun _ e => (by cases e), fun _ e => (by cases e)⟩
  | dT h _ => exact ⟨_, nt_dT, h, fun _ e => (by cases e), fun _ e => (by cases e)⟩
  | ins _ h _ => exact ⟨_, nt_ins, h, fun _ e => (by cases e), fun _ e => (by cases e)⟩
theorem ext_back {ι1 : List Addr} {H1 : Hp} {m1 : M} (hm : HR K (mg, F) ι H m) (e : Ext [] H ι1 H1) (h1 : HR K (mg, ι ++ F) ι1 H1 m1) : Ext ι H ι H1 ∧ HR K (mg, F) ι H1 m ∧ CellLike H1 ι := by
  have keep : ∀ a ∈ ι, ∀ o, H a = some o → H1 a = some o := fun a ha o ho => by
    obtain ⟨o', n, h, _⟩ := hr_nt hm ha
    rw [h] at ho
    cases ho
    exact e.fr a _ n List.not_mem_nil h
  have ex : Ext ι H ι H1 := ⟨⟨[], by simp, by simp⟩, e.tup, e.frz, fun a o n _ h => e.fr a o n List.not_mem_nil h, e.dom⟩
  refine ⟨ex, ⟨hm.len, hm.nd, fun a ha => ?_, h1.tb, fun n a c h2 h3 => (hm.at' n a c h2 h3).mono ex fun o ho => keep a (List.mem_of_getElem? h2) o ho⟩, fun a ha o ho => ?_⟩
  · obtain ⟨o, n, h⟩ := hm.fd a ha
    exact e.dom a o n h
  · obtain ⟨o', n, h, h2⟩ := hr_nt hm ha
    rw [keep a ha o' h] at ho
    cases ho
    exact h2
theorem iso_post {g : FF} {ds : List D} (hm : HR K (mg, F) ι H m) (hp : Post K (mg, F) (relE K (mg, F)) E ι H Q (fIso g ds m)) : noRefs ds = true ∧ Post K (mg, ι ++ F) (relE K (mg, ι ++ F)) E [] H Q (g ds []) := by
  unfold fIso at hp
  split at hp
  · rename_i hn
    refine ⟨hn, ?_⟩
    cases q : g ds [] with
    | ok d m1 =>
      rw [q] at hp
      dsimp only at hp
      split at hp
      · rename_i hd
        intro ι1 H1 b e h1 r
        obtain ⟨x1, x2, x3⟩ := ext_back hm e h1
        exact hp ι H1 b x1 x2 (Rep.back x3 r hd)
      · exact hp.elim
    | err x m1 =>
      rw [q] at hp
      dsimp only at hp
      split at hp
      · rename_i hd
        intro ι1 H1 cls dd e h1 r
        obtain ⟨x1, x2, x3⟩ := ext_back hm e h1
        refine hp ι H1 cls dd x1 x2 ?_
        obtain ⟨C, a1, a2, a3⟩ := r
        refine ⟨C, a1, a2, ?_⟩
        rcases a3 with a3 | ⟨d, ws, b1, b2, b3, b4⟩
        · exact .inl a3
        · exact .inr ⟨d, ws, b1, fun q => (x3 _ q _ b3).1 ws rfl, b3, RepF.back x3 b4 hd⟩
      · exact hp.elim
    | bad => rw [q] at hp; exact hp
  · exact hp.elim
end
def eBltI (g : FF) (a : AF) : EF := fun ρ m => (a ρ m).bind fun ds m1 => fIso g ds m1
def eCallVI (tab : List (Str × FF)) (i : Nat) (a : AF) : EF := fun ρ m => match ρ[i]? with
  | some (some (.glo x)) => (match tab.lookup x with
    | some g => (a ρ m).bind fun ds m1 => fIso g ds m1
    | none => .bad)
  | _ => .bad
section
variable {X : Cx} {W : WX} {pos p : Pos} {k : Nat} {ps : List Str} {x : Str} {e : Expr} {es : List Expr} {t : AF} {g : FF}
/-- z_fn, run apart -/
theorem z_fnI {rq : Bool} (Z0 : ZD rq X.prog X.w X.K X.mg X.base k x ps g) (hgl : ∀ ds m, ds.length ≠ ps.length → g ds m = .bad) (hr : Room k X.A) (hgd : rq = true → X.A.guards = some []) (hg : Gl X x) (tk : Takes X W)
    (ha : ZA X W (e :: es) t) (hdb : (x == ("__debug__" : Str)) = false := by decide) (he : starEach (e :: es) X.env = (false, eval e X.env) :: starEach es X.env := by rfl) (hpl : (backTo pos (starEach es X.env)).any (·.1) = false := by rfl) :
    ZE X W (.Call (.Name x p) (e :: es) [] pos) (eBltI g t) := by
  obtain ⟨f, fd, hm, hk, hb, Z1⟩ := Z0
  refine ⟨fun pins s σ H Q I ⟨F, ι, ρ, m, hρ, hm', hp⟩ => ?_⟩
  refine wpAny_Call_Name_kw (ld_glob I hg hm ?_ hdb)
  have hA : tA X.K X.mg W t σ H fun vs H1 => ∃ ι1 ds m1, HR X.K (X.mg, F) ι1 H1 m1 ∧ RepL X.K (X.mg, F) ι1 H1 ds vs ∧ Post X.K (X.mg, F) (relE X.K (X.mg, F)) (fun c d H' => W c d σ H') ι1 H1 Q (fIso g ds m1) :=
    ⟨F, ι, ρ, m, hρ, hm', Post.seq hp fun ds m1 ι1 H1 vs _ e1 h1 r1 hp1 => ⟨ι1, ds, m1, h1, r1, hp1⟩⟩
  refine PySem.W.callWith_K (h₀ := X.base) I.ok.mod.kin hk (thn (ha.run pos pins s σ H _ I hA) fun us s1 ⟨vs, H1, I1, r, ι1, ds, m1, h1, r1, hp1⟩ => ⟨I1.kIn, ?_⟩) he hpl
  obtain ⟨hn, hp2⟩ := iso_post h1 hp1
  by_cases hl : ds.length = ps.length
  · have hv : vs.length = ps.length := r1.length.symm.trans hl
    have hb' := hb s1 us I1.kIn (by rw [List.append_nil, ← r.length]; exact hv)
    rw [List.append_nil] at hb'
    exact zrun Z1 hr hgd tk I1 hb' r hv (r1.apart hn) (hr_apart h1) hp2
  · rw [hgl ds [] hl] at hp2
    exact hp2.elim
theorem z_fnI0 {rq : Bool} (Z0 : ZD rq X.prog X.w X.K X.mg X.base k x [] g) (hr : Room k X.A) (hgd : rq = true → X.A.guards = some []) (hg : Gl X x) (tk : Takes X W) (hdb : (x == ("__debug__" : Str)) = false := by decide) : ZE X W (.Call (.Name x p) [] [] pos) (eBltI g aNil) := by
  obtain ⟨f, fd, h1, h2, h3, h4⟩ := Z0
  refine ⟨fun pins s σ H Q I ⟨F, ι, ρ, m, hρ, hm', hp⟩ => ?_⟩
  refine wpAny_Call_Name_kw (ld_glob I hg h1 (PySem.W.callWith_K0 I.kIn h2 ?_) hdb)
  have hb' := h3 s [] I.kIn rfl
  obtain ⟨hn, hp2⟩ := iso_post (ds := []) hm' hp
  exact zrun h4 hr hgd tk I hb' .nil rfl .nil (hr_apart hm') hp2
theorem z_callvI {i : Nat} {y : Str} {tab : List (Str × FF)} (T : TabOk X k tab) (hr : Room k X.A) (hN : X.N[i]? = some y) (hv : Vis X.env.scope y) (tk : Takes X W) (ha : ZA X W (e :: es) t)
    (hdb : (y == ("__debug__" : Str)) = false := by decide) (hcd : (y == ("__classdict__" : Str)) = false := by decide)
    (he : starEach (e :: es) X.env = (false, eval e X.env) :: starEach es X.env := by rfl) (hpl : (backTo pos (starEach es X.env)).any (·.1) = false := by rfl) :
    ZE X W (.Call (.Name y p) (e :: es) [] pos) (eCallVI tab i t) := by
  refine ⟨fun pins s σ H Q I ⟨F, ι, ρ, m, hρ, hm', hp⟩ => ?_⟩
  unfold eCallVI at hp
  split at hp
  · rename_i x hx
    split at hp
    · rename_i g hg
      obtain ⟨rq, ps, ⟨f, fd, h1, h2, h3, h4⟩, hgl, hgd⟩ := T _ (lookup_mem hg)
      obtain ⟨v, hσ, rv⟩ := hρ.2 i _ hx
      cases rv with
      | glo hmx =>
      have hmx : X.mg x = some (.ref _) := hmx
      have h1 : X.mg x = some (.ref f) := h1
      rw [h1] at hmx
      cases hmx
      refine wpAny_Call_Name_kw (thn ((pe_var (pos := p) hN hv hdb hcd).run pins s σ H (fun v H1 => v = .ref f ∧ H1 = H) I ⟨.ref f, hσ, rfl, rfl⟩) fun u s1 ⟨v, H1, I1, r1, q1⟩ => ?_)
      obtain ⟨rfl, rfl⟩ := q1
      cases r1
      have hA : tA X.K X.mg W t σ H1 fun vs H2 => ∃ ι1 ds m1, HR X.K (X.mg, F) ι1 H2 m1 ∧ RepL X.K (X.mg, F) ι1 H2 ds vs ∧ Post X.K (X.mg, F) (relE X.K (X.mg, F)) (fun c d H' => W c d σ H') ι1 H2 Q (fIso g ds m1) :=
        ⟨F, ι, ρ, m, hρ, hm', Post.seq hp fun ds m1 ι1 H1 vs _ e1 h1 r1 hp1 => ⟨ι1, ds, m1, h1, r1, hp1⟩⟩
      refine PySem.W.callWith_K (h₀ := X.base) I1.ok.mod.kin h2 (thn (ha.run pos pins s1 σ H1 _ I1 hA) fun us s2 ⟨vs, H2, I2, r, ι1, ds, m1, h1, r1, hp1⟩ => ⟨I2.kIn, ?_⟩) he hpl
      obtain ⟨hn, hp2⟩ := iso_post h1 hp1
      by_cases hl : ds.length = ps.length
      · have hv : vs.length = ps.length := r1.length.symm.trans hl
        have hb' := h3 s2 us I2.kIn (by rw [List.append_nil, ← r.length]; exact hv)
        rw [List.append_nil] at hb'
        exact zrun h4 hr hgd tk I2 hb' r hv (r1.apart hn) (hr_apart h1) hp2
      · have hgl' : g ds [] = .bad := hgl ds [] hl
        rw [hgl'] at hp2
        exact hp2.elim
    · exact hp.elim
  · exact hp.elim
end
end Z

namespace Z
open PySem PySem.Spec PyProof.Rows L2

/-! ### forms that the kernel reckons faster: each is the elder one, or bad -/
def RefR {α : Type} (r r' : R α) : Prop := r = .bad ∨ r = r'
def RefO (r r' : Option (Fl × M)) : Prop := r = none ∨ r = r'
theorem RefR.rfl {α : Type} {r : R α} : RefR r r := .inr (Eq.refl r)
theorem RefO.rfl {r : Option (Fl × M)} : RefO r r := .inr (Eq.refl r)
section
variable {X : Cx} {W : WX} {e : Expr} {st : Stmt} {f f' : EF} {g g' : SF}
theorem ZE.ref (h : ZE X W e f) (r : ∀ ρ m, RefR (f' ρ m) (f ρ m)) : ZE X W e f' := PE.imp h fun σ H Q ⟨F, ι, ρ, m, hρ, hm, hp⟩ => ⟨F, ι, ρ, m, hρ, hm, by
  rcases r ρ m with e | e
  · rw [e] at hp; exact hp.elim
  · rw [← e]; exact hp⟩
theorem ZS.ref (h : ZS X W st g) (r : ∀ ρ m, RefO (g' ρ m) (g ρ m)) : ZS X W st g' := PS.imp h fun D σ H ⟨F, ι, ρ, m, hρ, hm, hp⟩ => ⟨F, ι, ρ, m, hρ, hm, by
  rcases r ρ m with e | e
  · rw [e] at hp; exact hp.elim
  · rw [← e]; exact hp⟩
end
/-! slots -/
def rget : Rho → Nat → Option D
  | [], _ => none
  | x :: _, 0 => x
  | _ :: r, i + 1 => rget r i
theorem rget_eq : ∀ (ρ : Rho) (i : Nat), rget ρ i = (ρ[i]?).bind id
  | [], _ => by simp [rget]
  | x :: r, 0 => by simp [rget]
  | x :: r, i + 1 => by simp [rget, rget_eq r i]
def fVar (i : Nat) : EF := fun ρ m => Option.casesOn (motive := fun _ => R D) (rget ρ i) .bad fun d => .ok d m
theorem fVar_ref (i : Nat) (ρ : Rho) (m : M) : RefR (fVar i ρ m) (eVar i ρ m) := by
  unfold fVar eVar
  rw [rget_eq]
  cases ρ[i]? with
  | none => exact .inl rfl
  | some x => cases x <;> exact .rfl
/-! what is walked: a list, or an elder walk -/
inductive Wk where
  | list (ds : List D) | walk (z : Itz)
abbrev WF := Rho → M → R Wk
structure IsL (z : Itz) (ds : List D) : Prop where
  nx : ∀ i m, z.nxt i m = some ds[i]?
  fu : ds.length < z.fuel
def WOk (it : IF) (w : WF) : Prop := ∀ ρ m, match w ρ m with
  | .ok (.list ds) m1 => ∃ z, it ρ m = .ok z m1 ∧ IsL z ds
  | .ok (.walk z) m1 => it ρ m = .ok z m1
  | .err x m1 => it ρ m = .err x m1
  | .bad => True
theorem isL_itD (ds : List D) : IsL (itD ds) ds := ⟨fun _ _ => rfl, Nat.lt_succ_self _⟩
def signsOf (x : Str) : List D := x.cps.toList.map fun c => .str ⟨#[c]⟩
def wAny (f : EF) : WF := fun ρ m => (f ρ m).bind fun d m1 => D.casesOn (motive_1 := fun _ => R Wk) d .bad (fun _ => .bad) (fun _ => .bad) (fun x => .ok (.list (signsOf x)) m1) (fun xs => .ok (.list xs) m1)
  (fun n => match itOf m1 (.ref n) with
    | some z => .ok (.walk z) m1
    | none => .bad) (fun _ => .bad) (fun _ => .bad) (fun xs => .ok (.list xs) m1) (fun xs => .ok (.list xs) m1) (fun xs => .ok (.list xs) m1) (fun _ _ _ => .bad) (fun _ _ _ _ _ => .bad)
theorem wAny_ok (f : EF) : WOk (iAny f) (wAny f) := fun ρ m => by
  unfold wAny iAny
  cases q : f ρ m with
  | bad => exact trivial
  | err x m1 => exact rfl
  | ok d m1 =>
    cases d with
    | str x => exact ⟨itS x, rfl, fun i m => by
        show some (x.cps[i]?.map fun c => D.str ⟨#[c]⟩) = some (x.cps.toList.map fun c => D.str ⟨#[c]⟩)[i]?
        rw [List.getElem?_map, Array.getElem?_toList], by
        show (x.cps.toList.map fun c => D.str ⟨#[c]⟩).length < x.cps.size + 1
        rw [List.length_map, Array.length_toList]
        exact Nat.lt_succ_self _⟩
    | tup xs => exact ⟨_, rfl, isL_itD xs⟩
    | kt xs => exact ⟨_, rfl, isL_itD xs⟩
    | fl xs => exact ⟨_, rfl, isL_itD xs⟩
    | sl xs => exact ⟨_, rfl, isL_itD xs⟩
    | ref n =>
      show match (match itOf m1 (.ref n) with | some z => (R.ok (Wk.walk z) m1 : R Wk) | none => .bad) with
        | .ok (.list ds) m2 => ∃ z, (match itOf m1 (.ref n) with | some z => (R.ok z m1 : R Itz) | none => .bad) = .ok z m2 ∧ IsL z ds
        | .ok (.walk z) m2 => (match itOf m1 (.ref n) with | some z => (R.ok z m1 : R Itz) | none => .bad) = .ok z m2
        | .err x m2 => (match itOf m1 (.ref n) with | some z => (R.ok z m1 : R Itz) | none => .bad) = .err x m2
        | .bad => True
      cases itOf m1 (.ref n) <;> first | exact trivial | exact rfl
    | _ => exact trivial
def rangeD (lo : Int) : Nat → List D
  | 0 => []
  | n + 1 => .int lo :: rangeD (lo + 1) n
theorem rangeD_get : ∀ (n : Nat) (lo : Int) (i : Nat), (rangeD lo n)[i]? = if i < n then some (.int (lo + i)) else none
  | 0, lo, i => by simp [rangeD]
  | n + 1, lo, 0 => by simp [rangeD]
  | n + 1, lo, i + 1 => by
    unfold rangeD
    rw [List.getElem?_cons_succ, rangeD_get n]
    by_cases h : i < n
    · rw [if_pos h, if_pos (by omega)]
      congr 2
      push_cast
      omega
    · rw [if_neg h, if_neg (by omega)]
theorem rangeD_len : ∀ (n : Nat) (lo : Int), (rangeD lo n).length = n
  | 0, _ => rfl
  | n + 1, lo => by unfold rangeD; rw [List.length_cons, rangeD_len n]
theorem isL_range (lo : Int) (n : Nat) : IsL (itR lo n) (rangeD lo n) := ⟨fun i m => by rw [rangeD_get]; rfl, by rw [rangeD_len]; exact Nat.lt_succ_self _⟩
def wRange (a : AF) : WF := fun ρ m => (a ρ m).bind fun ds m1 => match ds with
  | [.int j] => if small62 j = true then .ok (.list (rangeD 0 j.toNat)) m1 else .bad
  | [.int i, .int j] => if (small62 i && small62 j) = true then .ok (.list (rangeD i (j - i).toNat)) m1 else .bad
  | _ => .bad
theorem wRange_ok (a : AF) : WOk (iRange a) (wRange a) := fun ρ m => by
  unfold wRange iRange
  cases q : a ρ m with
  | bad => exact trivial
  | err x m1 => exact rfl
  | ok ds m1 =>
    show match (match ds with
      | [.int j] => if small62 j = true then (R.ok (Wk.list (rangeD 0 j.toNat)) m1 : R Wk) else .bad
      | [.int i, .int j] => if (small62 i && small62 j) = true then .ok (.list (rangeD i (j - i).toNat)) m1 else .bad
      | _ => .bad) with
      | .ok (.list ds') m2 => ∃ z, (match ds with
        | [.int j] => if small62 j = true then (R.ok (itR 0 j.toNat) m1 : R Itz) else .bad
        | [.int i, .int j] => if (small62 i && small62 j) = true then .ok (itR i (j - i).toNat) m1 else .bad
        | _ => .bad) = .ok z m2 ∧ IsL z ds'
      | .ok (.walk z) m2 => _
      | .err x m2 => _
      | .bad => True
    split
    · rename_i ds' m2 h
      split at h
      · split at h
        · rename_i hs
          cases h
          exact ⟨_, if_pos hs, isL_range _ _⟩
        · cases h
      · split at h
        · rename_i hs
          cases h
          exact ⟨_, if_pos hs, isL_range _ _⟩
        · cases h
      · cases h
    · rename_i z m2 h
      split at h
      · split at h <;> cases h
      · split at h <;> cases h
      · cases h
    · rename_i x m2 h
      split at h
      · split at h <;> cases h
      · split at h <;> cases h
      · cases h
    · exact trivial
def zipD : List D → List D → List D
  | x :: xs, y :: ys => .tup [x, y] :: zipD xs ys
  | _, _ => []
theorem zipD_get : ∀ (xs ys : List D) (i : Nat), (zipD xs ys)[i]? = (match xs[i]?, ys[i]? with
  | some x, some y => some (.tup [x, y])
  | _, _ => none)
  | [], ys, i => by simp [zipD]
  | x :: xs, [], i => by
    simp only [zipD, List.getElem?_nil]
    cases (x :: xs)[i]? <;> rfl
  | x :: xs, y :: ys, 0 => by simp [zipD]
  | x :: xs, y :: ys, i + 1 => by simp [zipD, zipD_get xs ys i]
theorem zipD_len : ∀ (xs ys : List D), (zipD xs ys).length ≤ xs.length
  | [], ys => by simp [zipD]
  | x :: xs, [] => by simp [zipD]
  | x :: xs, y :: ys => by simp [zipD, zipD_len xs ys]
def wZip (a : AF) : WF := fun ρ m => (a ρ m).bind fun ds m1 => match seqs2 ds with
  | some p => .ok (.list (zipD p.1 p.2)) m1
  | none => .bad
theorem wZip_ok (a : AF) : WOk (iZipZ a) (wZip a) := fun ρ m => by
  unfold wZip iZipZ
  cases q : a ρ m with
  | bad => exact trivial
  | err x m1 => exact rfl
  | ok ds m1 =>
    show match (match seqs2 ds with | some p => (R.ok (Wk.list (zipD p.1 p.2)) m1 : R Wk) | none => .bad) with
      | .ok (.list ds') m2 => ∃ z, (match seqs2 ds with | some (xs, ys) => (R.ok (itZ xs ys) m1 : R Itz) | none => .bad) = .ok z m2 ∧ IsL z ds'
      | .ok (.walk z) m2 => _
      | .err x m2 => _
      | .bad => True
    cases h : seqs2 ds with
    | none => exact trivial
    | some p =>
      obtain ⟨xs, ys⟩ := p
      exact ⟨_, rfl, fun i m => by rw [zipD_get]; rfl, by
        have := zipD_len xs ys
        show (zipD xs ys).length < xs.length + 1
        omega⟩
def enumD (i : Nat) : List D → List D
  | [] => []
  | x :: xs => .tup [.int (i : Nat), x] :: enumD (i + 1) xs
theorem enumD_get : ∀ (xs : List D) (k i : Nat), (enumD k xs)[i]? = xs[i]?.map fun x => .tup [.int ((k + i : Nat)), x]
  | [], k, i => by simp [enumD]
  | x :: xs, k, 0 => by simp [enumD]
  | x :: xs, k, i + 1 => by
    unfold enumD
    rw [List.getElem?_cons_succ, List.getElem?_cons_succ, enumD_get xs]
    congr 2
    funext y
    rw [show k + 1 + i = k + (i + 1) by omega]
theorem enumD_len : ∀ (xs : List D) (k : Nat), (enumD k xs).length = xs.length
  | [], _ => rfl
  | x :: xs, k => by unfold enumD; rw [List.length_cons, List.length_cons, enumD_len xs]
theorem isL_enum (xs : List D) : IsL (itE xs) (enumD 0 xs) := ⟨fun i m => by
  rw [enumD_get]
  show some (xs[i]?.map fun x => D.tup [.int (i : Nat), x]) = _
  simp, by rw [enumD_len]; exact Nat.lt_succ_self _⟩
def wEnum (f : EF) : WF := fun ρ m => (f ρ m).bind fun d m1 => match d with
  | .tup xs => .ok (.list (enumD 0 xs)) m1
  | .kt xs => .ok (.list (enumD 0 xs)) m1
  | .fl xs => .ok (.list (enumD 0 xs)) m1
  | .sl xs => .ok (.list (enumD 0 xs)) m1
  | _ => .bad
theorem wEnum_ok (f : EF) : WOk (iEnumZ f) (wEnum f) := fun ρ m => by
  unfold wEnum iEnumZ
  cases q : f ρ m with
  | bad => exact trivial
  | err x m1 => exact rfl
  | ok d m1 => cases d <;> first | exact trivial | exact ⟨_, rfl, isL_enum _⟩
/-! loops -/
def forL (g : GF) (body : SF) : List D → SF
  | [], ρ, m => some (.nx ρ, m)
  | d :: ds, ρ, m => match g d ρ m with
    | some p => match body p.1 p.2 with
      | some (.nx ρ1, m1) => forL g body ds ρ1 m1
      | some (.ct ρ1, m1) => forL g body ds ρ1 m1
      | some (.bk ρ1, m1) => some (.nx ρ1, m1)
      | some (.rt d, m1) => some (.rt d, m1)
      | some (.er x ρ1, m1) => some (.er x ρ1, m1)
      | none => none
    | none => none
theorem drop_cons_get {α : Type} {l : List α} {i : Nat} {x : α} (h : l[i]? = some x) : l.drop i = x :: l.drop (i + 1) := by
  obtain ⟨h1, h2⟩ := List.getElem?_eq_some_iff.mp h
  rw [← h2]
  exact List.drop_eq_getElem_cons h1
theorem forL_eq {z : Itz} {ds : List D} (h : IsL z ds) (g : GF) (body : SF) : ∀ (n i : Nat) (ρ : Rho) (m : M), i ≤ ds.length → ds.length < i + n → forN z.nxt (gThen g body) n i ρ m = forL g body (ds.drop i) ρ m
  | 0, i, ρ, m, h1, hl => absurd hl (by omega)
  | n + 1, i, ρ, m, h1, hl => by
    unfold forN
    rw [h.nx]
    cases q : ds[i]? with
    | none =>
      have : ds.length ≤ i := List.getElem?_eq_none_iff.mp q
      rw [List.drop_eq_nil_of_le this]
      rfl
    | some d =>
      have hi := (List.getElem?_eq_some_iff.mp q).1
      rw [drop_cons_get q]
      dsimp only
      unfold forL gThen
      cases qg : g d ρ m with
      | none => rfl
      | some p =>
        obtain ⟨ρ1, m1⟩ := p
        dsimp only
        have ih := forL_eq h g body n (i + 1)
        cases qb : body ρ1 m1 with
        | none => rfl
        | some r =>
          obtain ⟨fl, m2⟩ := r
          cases fl with
          | nx ρ2 => exact ih ρ2 m2 (by omega) (by omega)
          | ct ρ2 => exact ih ρ2 m2 (by omega) (by omega)
          | bk ρ2 => rfl
          | rt d2 => rfl
          | er x ρ2 => rfl
def fFor (w : WF) (g : GF) (body : SF) : SF := fun ρ m => (w ρ m).stm ρ fun k m1 => match k with
  | .list ds => forL g body ds ρ m1
  | .walk z => forN z.nxt (gThen g body) z.fuel 0 ρ m1
theorem fFor_ref {it : IF} {w : WF} (h : WOk it w) (g : GF) (body : SF) (ρ : Rho) (m : M) : RefO (fFor w g body ρ m) (sFor it g body ρ m) := by
  unfold fFor sFor
  have h := h ρ m
  cases q : w ρ m with
  | bad => exact .inl rfl
  | err x m1 =>
    rw [q] at h
    dsimp only at h
    rw [h]
    exact .rfl
  | ok k m1 =>
    rw [q] at h
    cases k with
    | list ds =>
      obtain ⟨z, e, hz⟩ := h
      rw [e]
      refine .inr ?_
      show forL g body ds ρ m1 = forN z.nxt (gThen g body) z.fuel 0 ρ m1
      rw [forL_eq hz g body z.fuel 0 ρ m1 (Nat.zero_le _) (by have := hz.fu; omega)]
      rfl
    | walk z =>
      have h : it ρ m = .ok z m1 := h
      rw [h]
      exact .rfl
/-! comprehensions -/
def lcL (g : GF) (tt : TF) (f : EF) (ρ : Rho) : List D → M → R (List D)
  | [], m => .ok [] m
  | d :: ds, m => match g d ρ m with
    | none => .bad
    | some p => match tt p.1 p.2 with
      | .ok b m2 => match b with
        | true => match f p.1 m2 with
          | .ok x m3 => match lcL g tt f ρ ds m3 with
            | .ok xs m4 => .ok (x :: xs) m4
            | _ => .bad
          | _ => .bad
        | false => lcL g tt f ρ ds m2
      | _ => .bad
theorem lcL_eq {z : Itz} {ds : List D} (h : IsL z ds) (g : GF) (tt : TF) (f : EF) (ρ : Rho) : ∀ (n i : Nat) (acc ys : List D) (m m' : M), i ≤ ds.length → ds.length < i + n → lcL g tt f ρ (ds.drop i) m = .ok ys m' → acc.length + ys.length ≤ line → lcN z.nxt g tt f n i ρ acc m = .ok (acc ++ ys) m'
  | 0, i, acc, ys, m, m', h1, hl, _, _ => absurd hl (by omega)
  | n + 1, i, acc, ys, m, m', h1, hl, hr, hz => by
    unfold lcN
    rw [h.nx]
    cases q : ds[i]? with
    | none =>
      have : ds.length ≤ i := List.getElem?_eq_none_iff.mp q
      rw [List.drop_eq_nil_of_le this] at hr
      cases hr
      simp
    | some d =>
      have hi := (List.getElem?_eq_some_iff.mp q).1
      rw [drop_cons_get q] at hr
      unfold lcL at hr
      dsimp only
      cases qg : g d ρ m with
      | none => rw [qg] at hr; cases hr
      | some p =>
        obtain ⟨ρ1, m1⟩ := p
        rw [qg] at hr
        dsimp only at hr ⊢
        have ih := lcL_eq h g tt f ρ n (i + 1)
        cases qt : tt ρ1 m1 with
        | bad => rw [qt] at hr; cases hr
        | err x m2 => rw [qt] at hr; cases hr
        | ok b m2 =>
          rw [qt] at hr
          cases b with
          | false => exact ih acc ys m2 m' (by omega) (by omega) hr hz
          | true =>
            dsimp only at hr ⊢
            cases qf : f ρ1 m2 with
            | bad => rw [qf] at hr; cases hr
            | err x m3 => rw [qf] at hr; cases hr
            | ok x m3 =>
              rw [qf] at hr
              dsimp only at hr ⊢
              cases ql : lcL g tt f ρ (ds.drop (i + 1)) m3 with
              | bad => rw [ql] at hr; cases hr
              | err x m4 => rw [ql] at hr; cases hr
              | ok xs m4 =>
                rw [ql] at hr
                cases hr
                rw [List.length_cons] at hz
                rw [if_pos (by omega), ih (acc ++ [x]) xs m3 m' (by omega) (by omega) ql (by rw [List.length_append]; simp; omega)]
                simp
def lcW (k : Wk) (g : GF) (tt : TF) (f : EF) (ρ : Rho) (m : M) : R (List D) := match k with
  | .list ds => match lcL g tt f ρ ds m with
    | .ok xs m2 => match Nat.ble xs.length 16777216 with
      | true => .ok xs m2
      | false => .bad
    | _ => .bad
  | .walk z => lcN z.nxt g tt f z.fuel 0 ρ [] m
def fLc (w : WF) (own : List Nat) (g : GF) (tt : TF) (f : EF) : EF := fun ρ m => (w ρ m).bind fun k m1 => (lcW k g tt f (wipeR ρ own) m1).bind fun xs m2 => .ok (.sl xs) m2
def fLcC (w : WF) (own : List Nat) (g : GF) (tt : TF) (f : EF) : EF := fun ρ m => (w ρ m).bind fun k m1 => (lcW k g tt f (wipeR ρ own) m1).bind fun xs m2 => .ok (.ref m2.length) (m2 ++ [.lst xs])
theorem lcW_ref {it : IF} {w : WF} (h : WOk it w) (g : GF) (tt : TF) (f : EF) (ρ ρ' : Rho) (m : M) {α : Type} (k : List D → M → R α) : RefR ((w ρ m).bind fun c m1 => (lcW c g tt f ρ' m1).bind k) ((it ρ m).bind fun z m1 => (lcN z.nxt g tt f z.fuel 0 ρ' [] m1).bind k) := by
  have h := h ρ m
  cases q : w ρ m with
  | bad => exact .inl rfl
  | err x m1 =>
    rw [q] at h
    dsimp only at h
    rw [h]
    exact .rfl
  | ok c m1 =>
    rw [q] at h
    cases c with
    | list ds =>
      obtain ⟨z, e, hz⟩ := h
      rw [e]
      show RefR ((lcW (.list ds) g tt f ρ' m1).bind k) ((lcN z.nxt g tt f z.fuel 0 ρ' [] m1).bind k)
      unfold lcW
      dsimp only
      cases ql : lcL g tt f ρ' ds m1 with
      | bad => exact .inl rfl
      | err x m2 => exact .inl rfl
      | ok xs m2 =>
        dsimp only
        cases qn : Nat.ble xs.length 16777216 with
        | false => exact .inl rfl
        | true =>
          have hle : xs.length ≤ 16777216 := Nat.le_of_ble_eq_true qn
          rw [lcL_eq hz g tt f ρ' z.fuel 0 [] xs m1 m2 (Nat.zero_le _) (by have := hz.fu; omega) ql (by simpa using hle)]
          exact .rfl
    | walk z =>
      have h : it ρ m = .ok z m1 := h
      rw [h]
      exact .rfl
theorem fLc_ref {it : IF} {w : WF} (h : WOk it w) (own : List Nat) (g : GF) (tt : TF) (f : EF) (ρ : Rho) (m : M) : RefR (fLc w own g tt f ρ m) (eLc it own g tt f ρ m) := lcW_ref h g tt f ρ (wipeR ρ own) m _
theorem fLcC_ref {it : IF} {w : WF} (h : WOk it w) (own : List Nat) (g : GF) (tt : TF) (f : EF) (ρ : Rho) (m : M) : RefR (fLcC w own g tt f ρ m) (eLcC it own g tt f ρ m) := lcW_ref h g tt f ρ (wipeR ρ own) m _
def dcL (g : GF) (tt : TF) (fk fv : EF) (ρ : Rho) : List D → List (D × D) → M → R (List (D × D))
  | [], acc, m => .ok acc m
  | d :: ds, acc, m => match g d ρ m with
    | none => .bad
    | some p => match tt p.1 p.2 with
      | .ok b m2 => match b with
        | true => match fk p.1 m2 with
          | .ok k m3 => match fv p.1 m3 with
            | .ok y m4 => match (keyOf k).isSome && Nat.blt acc.length 16777216 with
              | true => dcL g tt fk fv ρ ds (putD acc k y) m4
              | false => .bad
            | _ => .bad
          | _ => .bad
        | false => dcL g tt fk fv ρ ds acc m2
      | _ => .bad
theorem dcL_eq {z : Itz} {ds : List D} (h : IsL z ds) (g : GF) (tt : TF) (fk fv : EF) (ρ : Rho) : ∀ (n i : Nat) (acc : List (D × D)) (m : M), i ≤ ds.length → ds.length < i + n → RefR (dcL g tt fk fv ρ (ds.drop i) acc m) (dcN z.nxt g tt fk fv n i ρ acc m)
  | 0, i, acc, m, h1, hl => absurd hl (by omega)
  | n + 1, i, acc, m, h1, hl => by
    unfold dcN
    rw [h.nx]
    cases q : ds[i]? with
    | none =>
      have : ds.length ≤ i := List.getElem?_eq_none_iff.mp q
      rw [List.drop_eq_nil_of_le this]
      exact .rfl
    | some d =>
      have hi := (List.getElem?_eq_some_iff.mp q).1
      rw [drop_cons_get q]
      unfold dcL
      dsimp only
      cases qg : g d ρ m with
      | none => exact .rfl
      | some p =>
        obtain ⟨ρ1, m1⟩ := p
        dsimp only
        have ih := dcL_eq h g tt fk fv ρ n (i + 1)
        cases qt : tt ρ1 m1 with
        | bad => exact .rfl
        | err x m2 => exact .inl rfl
        | ok b m2 =>
          cases b with
          | false => exact ih acc m2 (by omega) (by omega)
          | true =>
            dsimp only
            cases qk : fk ρ1 m2 with
            | bad => exact .rfl
            | err x m3 => exact .inl rfl
            | ok k m3 =>
              dsimp only
              cases qv : fv ρ1 m3 with
              | bad => exact .rfl
              | err x m4 => exact .inl rfl
              | ok y m4 =>
                dsimp only
                cases qc : (keyOf k).isSome && Nat.blt acc.length 16777216 with
                | false => exact .inl rfl
                | true =>
                  rw [Bool.and_eq_true] at qc
                  have hlt : acc.length < 16777216 := by
                    have := qc.2
                    unfold Nat.blt at this
                    exact Nat.le_of_ble_eq_true this
                  rw [if_pos ⟨qc.1, hlt⟩]
                  exact ih _ m4 (by omega) (by omega)
def dcW (k : Wk) (g : GF) (tt : TF) (fk fv : EF) (ρ : Rho) (m : M) : R (List (D × D)) := match k with
  | .list ds => dcL g tt fk fv ρ ds [] m
  | .walk z => dcN z.nxt g tt fk fv z.fuel 0 ρ [] m
def fDc (w : WF) (own : List Nat) (g : GF) (tt : TF) (fk fv : EF) : EF := fun ρ m => (w ρ m).bind fun k m1 => match dcW k g tt fk fv (wipeR ρ own) m1 with
  | .ok kvs m2 => .ok (.ref m2.length) (m2 ++ [.dic kvs])
  | _ => .bad
theorem fDc_ref {it : IF} {w : WF} (h : WOk it w) (own : List Nat) (g : GF) (tt : TF) (fk fv : EF) (ρ : Rho) (m : M) : RefR (fDc w own g tt fk fv ρ m) (eDc it own g tt fk fv ρ m) := by
  unfold fDc eDc
  have h := h ρ m
  cases q : w ρ m with
  | bad => exact .inl rfl
  | err x m1 =>
    rw [q] at h
    dsimp only at h
    rw [h]
    exact .rfl
  | ok c m1 =>
    rw [q] at h
    cases c with
    | list ds =>
      obtain ⟨z, e, hz⟩ := h
      rw [e]
      show RefR (match dcL g tt fk fv (wipeR ρ own) ds [] m1 with
        | .ok kvs m2 => (R.ok (D.ref m2.length) (m2 ++ [.dic kvs]) : R D)
        | _ => .bad) (match dcN z.nxt g tt fk fv z.fuel 0 (wipeR ρ own) [] m1 with
        | .ok kvs m2 => .ok (.ref m2.length) (m2 ++ [.dic kvs])
        | _ => .bad)
      have := dcL_eq hz g tt fk fv (wipeR ρ own) z.fuel 0 [] m1 (Nat.zero_le _) (by have := hz.fu; omega)
      rw [List.drop_zero] at this
      rcases this with e1 | e1
      · rw [e1]; exact .inl rfl
      · rw [e1]; exact .rfl
    | walk z =>
      have h : it ρ m = .ok z m1 := h
      rw [h]
      exact .rfl
end Z
namespace Z
open PySem PySem.Spec PyProof.Rows L2
/-! a def run apart -/
section
variable {rq : Bool} {P : Program} {w : World} {K : PySem.W.Frag} {mg : Str → Option Value} {base : Heap} {k : Nat} {x : Str} {f : Addr} {fd : FuncData} {ps : List Str} {g : FF}
theorem ZF.iso (h : ZF rq P w K mg base k f fd ps g) : ZF rq P w K mg base k f fd ps (fIso g) :=
  ⟨fun A outer s H args us vs Q E hr hgd e0 hb hv ⟨hl, F, ι, ds, m, rr, hm, hp⟩ => by
    obtain ⟨hn, hp2⟩ := iso_post hm hp
    exact h.run A outer s H args us vs Q E hr hgd e0 hb hv ⟨hl, ι ++ F, [], ds, [], rr.apart hn, hr_apart hm, hp2⟩⟩
theorem ZD.iso (h : ZD rq P w K mg base k x ps g) : ZD rq P w K mg base k x ps (fIso g) := by
  obtain ⟨f, fd, h1, h2, h3, h4⟩ := h
  exact ⟨f, fd, h1, h2, h3, h4.iso⟩
theorem fIso_len {n : Nat} (h : ∀ ds m, ds.length ≠ n → g ds m = .bad) : ∀ ds m, ds.length ≠ n → fIso g ds m = .bad := fun ds m hl => by
  unfold fIso
  rw [h ds [] hl]
  split <;> rfl
end
theorem sSet_ref {f f' : EF} (i : Nat) (h : ∀ ρ m, RefR (f ρ m) (f' ρ m)) (ρ : Rho) (m : M) : RefO (sSet i f ρ m) (sSet i f' ρ m) := by
  unfold sSet
  rcases h ρ m with e | e
  · rw [e]; exact .inl rfl
  · rw [e]; exact .rfl
end Z

namespace Z
open PySem PySem.Spec PyProof.Rows L2

/-! ### looks at the tree that stand for «by rfl» -/
def noStar : Expr → Bool
  | .Starred _ _ => false
  | _ => true
theorem star1 {e : Expr} (h : noStar e = true) (es : List Expr) (env : Env) : starEach (e :: es) env = (false, eval e env) :: starEach es env := by
  cases e <;> first | rfl | cases h
theorem star_any : ∀ {es : List Expr}, es.all noStar = true → ∀ (env : Env) (pos : Pos), (backTo pos (starEach es env)).any (·.1) = false
  | [], _, _, _ => rfl
  | e :: es, h, env, pos => by
    rw [List.all_cons, Bool.and_eq_true] at h
    rw [star1 h.1]
    show (false || (backTo pos (starEach es env)).any (·.1)) = false
    rw [star_any h.2]
    rfl
theorem star_all : ∀ {es : List Expr}, es.all noStar = true → ∀ (env : Env) (pos : Pos), (backTo pos (starEach es env)).all (fun x => !x.1) = true
  | [], _, _, _ => rfl
  | e :: es, h, env, pos => by
    rw [List.all_cons, Bool.and_eq_true] at h
    rw [star1 h.1]
    show (!false && (backTo pos (starEach es env)).all (fun x => !x.1)) = true
    rw [star_all h.2]
    rfl
def plainBase : Expr → Bool
  | .Call (.Name _ _) [] [] _ => false
  | _ => true
theorem base_plain {o : Expr} (h : plainBase o = true) (attr : Str) (env : Env) (wh : Sem Value) : attributeBase o attr env wh = wh := by
  unfold attributeBase
  split
  · cases h
  · rfl
def noComp : Expr → Bool
  | .ListComp .. => false
  | .SetComp .. => false
  | .DictComp .. => false
  | _ => true
theorem swaps_no {e : Expr} (h : noComp e = true) (t : Option Expr) (l : Nat) (env : Env) : swapsWith e t l env = pure false := by
  cases e <;> first | rfl | cases h
def noSet : Expr → Bool
  | .Set .. => false
  | _ => true
theorem folded_no {e : Expr} (h : noSet e = true) (env : Env) (x : Value) : foldedSetIterable e env x = pure x := by
  cases e <;> first | rfl | cases h
theorem marks_no {e : Expr} (h : noSet e = true) (op : CmpOp) : behindInMarks op e = false := by
  cases e <;> first | rfl | cases h
theorem lastMarks_no {e e2 : Expr} (h : noSet e2 = true) (op op2 : CmpOp) : lastMarks [op, op2] [e, e2] = false := by
  cases e2 <;> first | rfl | cases h
def noSlice : Expr → Bool
  | .Slice .. => false
  | _ => true
theorem plainIx_no {e : Expr} (h : noSlice e = true) : PlainIx e := fun o i => by
  cases e <;> first | rfl | cases h
theorem assignSub_no {o i : Expr} (h : noSlice i = true) (pos : Pos) (env : Env) (v : Value) : assign (.Subscript o i pos) env v = (do
    let ov ← holding [v] (eval o env)
    let iv ← holding [v, ov] (eval i env)
    standAt pos
    holding [v, ov, iv] (setItem ov iv v)
    release [v, ov, iv] []) := by
  cases i <;> first | rfl | cases h
def plainTest : Expr → Bool
  | .UnaryOp .Not _ _ => false
  | .BoolOp .. => false
  | .IfExp .. => false
  | .Compare .. => false
  | _ => true
theorem isTrue_plain {e : Expr} (h : plainTest e = true) (env : Env) (wh : Sem Value) : isTrue e env wh = (do let v ← wh; standAt e.pos; holding [v] (truthy v)) := by
  cases e with
  | UnaryOp op x pos => cases op <;> first | rfl | cases h
  | _ => first | rfl | cases h
def natsEq : List Nat → List Nat → Bool
  | [], [] => true
  | a :: x, b :: y => Nat.beq a b && natsEq x y
  | _, _ => false
theorem natsEq_iff : ∀ {x y : List Nat}, natsEq x y = true ↔ x = y
  | [], [] => by simp [natsEq]
  | [], _ :: _ => by simp [natsEq]
  | _ :: _, [] => by simp [natsEq]
  | a :: x, b :: y => by
    unfold natsEq
    rw [Bool.and_eq_true, natsEq_iff, Nat.beq_eq, List.cons.injEq]
/-- equality of texts, fit for the kernel -/
def strEq (x y : Str) : Bool := natsEq x.cps.toList y.cps.toList
theorem strEq_iff {x y : Str} : strEq x y = true ↔ x = y := by
  unfold strEq
  rw [natsEq_iff]
  constructor
  · intro h
    cases x; cases y
    congr
    exact Array.toList_inj.mp h
  · intro h; rw [h]
theorem strEq_false {x y : Str} (h : strEq x y = false) : x ≠ y := fun e => by
  rw [strEq_iff.mpr e] at h
  cases h
def lookS {α : Type} : List (Str × α) → Str → Option α
  | [], _ => none
  | (y, a) :: r, x => match strEq x y with
    | true => some a
    | false => lookS r x
theorem lookS_eq {α : Type} : ∀ {l : List (Str × α)} {x : Str}, lookS l x = l.lookup x
  | [], _ => rfl
  | (y, a) :: r, x => by
    unfold lookS
    rw [List.lookup_cons]
    cases h : strEq x y with
    | true =>
      rw [strEq_iff.mp h]
      simp
    | false =>
      have : (x == y) = false := by simpa using strEq_false h
      rw [this]
      exact lookS_eq
def sDebug : Str := ⟨#[95, 95, 100, 101, 98, 117, 103, 95, 95]⟩
def sClassdict : Str := ⟨#[95, 95, 99, 108, 97, 115, 115, 100, 105, 99, 116, 95, 95]⟩
def sName : Str := ⟨#[95, 95, 110, 97, 109, 101, 95, 95]⟩
theorem sDebug_eq : ("__debug__" : Str) = sDebug := by decide +kernel
theorem sClassdict_eq : ("__classdict__" : Str) = sClassdict := by decide +kernel
theorem sName_eq : ("__name__" : Str) = sName := by decide +kernel
def nameOk (x : Str) : Bool := !strEq x sDebug && !strEq x sClassdict && !strEq x sName

/-! ### what is known ahead of a def -/
structure DI where
  nm : Str
  lv : Nat
  gd : Bool
  ps : List Str
  f : FF
/-- a def that tries its argument: its slots, the caught name's, its handlers -/
structure TI where
  nm : Str
  n : Nat
  i : Nat
  hs : List (Str × (Addr → Addr → SF))
structure Gam where
  trys : List TI
  defs : List DI
  excs : List (Str × List Str)
  cons : List (Str × D)
  free : List Str
  kt : KTab
structure SC where
  N : List Str
  sc : Scope
  fn : Str → Bool
  gd : Bool
  lam : Bool
  k : Nat
  tab : List Str
  cells : List (Nat × Nat × Nat × Nat)
def ExcAt (K : PySem.W.Frag) (mg : Str → Option Value) (c : Str) (fs : List Str) : Prop := match fs with
  | [] => Cls0 K mg c
  | [f] => ∃ st p1 p2 p3 p4, Cls1 K mg c st f ∧ FnScope ["self", f] ["self", f] (defScope st) ∧ defBody st = [.Assign [.Attribute (.Name "self" p1) f p2] (.Name f p3) p4] ∧
      (defScope st).names.lookup ("self" : Str) = some .local ∧ (defScope st).names.lookup f = some .local ∧ (f == ("__debug__" : Str)) = false ∧ (f == ("__classdict__" : Str)) = false
  | [f, g] => ∃ st p1 p2 p3 p4 q1 q2 q3 q4, Cls2 K mg c st f g ∧ FnScope ["self", f, g] ["self", f, g] (defScope st) ∧ defBody st = [.Assign [.Attribute (.Name "self" p1) f p2] (.Name f p3) p4, .Assign [.Attribute (.Name "self" q1) g q2] (.Name g q3) q4] ∧
      (defScope st).names.lookup ("self" : Str) = some .local ∧ (defScope st).names.lookup f = some .local ∧ (defScope st).names.lookup g = some .local ∧
      (f == ("__debug__" : Str)) = false ∧ (f == ("__classdict__" : Str)) = false ∧ (g == ("__debug__" : Str)) = false ∧ (g == ("__classdict__" : Str)) = false
  | _ => False
def TryAt (P : Program) (w : World) (K : PySem.W.Frag) (mg : Str → Option Value) (base : Heap) (t : TI) : Prop :=
  ∃ (st : Stmt) (a n : Str) (Ng : List Str) (cs : List Str) (h₀ : ExceptHandler) (hds : List ExceptHandler) (p1 p2 p3 p4 p5 p5' : Pos), Ng.length = t.n ∧ DefAt K mg t.nm st [a] ∧ FnScope Ng [a] (defScope st) ∧ Ng[0]? = some a ∧ Vis (defScope st) a ∧
    defBody st = [.Try [.Expr (.Call (.Name a p1) [] [] p2) p3] (h₀ :: hds) [] [] p4, .Return (some (.Constant .none 0 p5)) p5'] ∧ Ng[t.i]? = some n ∧ (defScope st).names.lookup n = some .local ∧
    (∀ (A : Around) (g : Addr) (cdg : Value), Room 2 A → A.guards = some [] → HsOk K mg Ng.length (fun outer s H => (cxOf C8.CX0 P w K mg base Ng t.nm (defScope st) g cdg A outer s H C8.E0).nox) n t.hs (h₀ :: hds)) ∧
    ExTab K mg cs ∧ (∀ p ∈ t.hs, p.1 ∈ cs ∧ Indep Ng.length t.i p.2) ∧ (a == ("__debug__" : Str)) = false ∧ (a == ("__classdict__" : Str)) = false
/-- lambdas may be made here -/
def LamHere (X : Cx) : Prop := ∃ c P, X.env.code = .ref c ∧ LamX.TabB X.base X.mg c P ∧ (P, X.env.qual ++ "<lambda>") ∈ tabOf X.K ∧ ∀ p ∈ tabOf X.K, p.1 = P → p.2 = X.env.qual ++ "<lambda>"
structure GOk (Γ : Gam) (P : Program) (w : World) (K : PySem.W.Frag) (mg : Str → Option Value) (base : Heap) : Prop where
  defs : ∀ d ∈ Γ.defs, ZD d.gd P w K mg base d.lv d.nm d.ps d.f ∧ ∀ ds m, ds.length ≠ d.ps.length → d.f ds m = .bad
  excs : ∀ c ∈ Γ.excs, ExcAt K mg c.1 c.2
  cons : ∀ c ∈ Γ.cons, GCon K mg c.1 c.2
  free : ∀ x ∈ Γ.free, mg x = none
  kt : KOk K mg Γ.kt
  trys : ∀ t ∈ Γ.trys, TryAt P w K mg base t
structure Fits (Γ : Gam) (S : SC) (X : Cx) : Prop where
  g : GOk Γ X.prog X.w X.K X.mg X.base
  N : X.N = S.N
  nd : S.N.Nodup
  sc : X.env.scope = S.sc
  kind : S.sc.kind = .function
  calm : X.calm = true
  fn : ∀ x, S.fn x = true → X.fn x = true
  hr : Room S.k X.A
  hg : S.gd = true → X.A.guards = some []
  lam : S.lam = true → LamHere X
def visB (S : SC) (x : Str) : Bool := match lookS S.sc.names x with
  | some .local => true
  | some .cell => true
  | some .free => true
  | _ => false
def gloB (S : SC) (x : Str) : Bool := match lookS S.sc.names x with
  | some .globalImplicit => nameOk x
  | _ => false
def locB (S : SC) (x : Str) : Bool := match lookS S.sc.names x with
  | some .local => true
  | some .cell => S.fn x
  | _ => false
def slotN : List Str → Str → Nat → Option Nat
  | [], _, _ => none
  | y :: r, x, i => match strEq x y with
    | true => some i
    | false => slotN r x (i + 1)
def slotOf (S : SC) (x : Str) : Option Nat := if (visB S x && nameOk x) = true then slotN S.N x 0 else none
theorem slotN_ok : ∀ {l : List Str} {x : Str} {j i : Nat}, slotN l x j = some i → j ≤ i ∧ l[i - j]? = some x
  | [], _, _, _, h => by cases h
  | y :: r, x, j, i, h => by
    unfold slotN at h
    split at h
    · rename_i e
      cases h
      exact ⟨Nat.le_refl _, by rw [Nat.sub_self, strEq_iff.mp e]; rfl⟩
    · obtain ⟨h1, h2⟩ := slotN_ok h
      refine ⟨by omega, ?_⟩
      rw [show i - j = (i - (j + 1)) + 1 by omega, List.getElem?_cons_succ]
      exact h2
theorem nameOk_ok {x : Str} (h : nameOk x = true) : (x == ("__debug__" : Str)) = false ∧ (x == ("__classdict__" : Str)) = false ∧ x ≠ "__name__" := by
  unfold nameOk at h
  simp only [Bool.and_eq_true, Bool.not_eq_true'] at h
  rw [sDebug_eq, sClassdict_eq, sName_eq]
  exact ⟨by simpa using strEq_false h.1.1, by simpa using strEq_false h.1.2, strEq_false h.2⟩
section
variable {Γ : Gam} {S : SC} {X : Cx}
theorem Fits.hu (F : Fits Γ S X) : X.A.units + 64 < cLine := by have := F.hr.un; omega
theorem Fits.hu1 (F : Fits Γ S X) : X.A.units + 65 < cLine := by have := F.hr.un; omega
theorem Fits.ndX (F : Fits Γ S X) : X.N.Nodup := by rw [F.N]; exact F.nd
theorem Fits.gl (F : Fits Γ S X) {x : Str} (h : gloB S x = true) : Gl X x := by
  unfold gloB at h
  rw [lookS_eq] at h
  show X.env.scope.names.lookup x = some .globalImplicit
  rw [F.sc]
  split at h
  · assumption
  · cases h
theorem gloB_nm {x : Str} (h : gloB S x = true) : (x == ("__debug__" : Str)) = false ∧ (x == ("__classdict__" : Str)) = false ∧ x ≠ "__name__" := by
  unfold gloB at h
  split at h
  · exact nameOk_ok h
  · cases h
theorem Fits.slot (F : Fits Γ S X) {x : Str} {i : Nat} (h : slotOf S x = some i) : X.N[i]? = some x ∧ Vis X.env.scope x ∧ (x == ("__debug__" : Str)) = false ∧ (x == ("__classdict__" : Str)) = false := by
  unfold slotOf at h
  split at h
  · rename_i hb
    rw [Bool.and_eq_true] at hb
    obtain ⟨_, h2⟩ := slotN_ok h
    refine ⟨by rw [F.N]; exact h2, ?_, (nameOk_ok hb.2).1, (nameOk_ok hb.2).2.1⟩
    have hv := hb.1
    unfold visB at hv
    rw [lookS_eq] at hv
    rw [F.sc]
    split at hv
    · exact .inl (by assumption)
    · exact .inr (.inl (by assumption))
    · exact .inr (.inr (by assumption))
    · cases hv
  · cases h
theorem Fits.loc (F : Fits Γ S X) {x : Str} (h : locB S x = true) : Loc X.env.scope x ∧ (X.fn x = true ∨ X.env.scope.names.lookup x = some .local) := by
  unfold locB at h
  rw [lookS_eq] at h
  rw [F.sc]
  split at h
  · exact ⟨.inl (by assumption), .inr (by assumption)⟩
  · exact ⟨.inr (by assumption), .inl (F.fn x h)⟩
  · cases h
end
end Z

namespace Z
open PySem PySem.Spec PyProof.Rows L2

def gd {α : Type} (c : Bool) (x : Option α) : Option α := match c with
  | true => x
  | false => none
theorem gd_some {α : Type} {c : Bool} {x : Option α} {y : α} (h : gd c x = some y) : c = true ∧ x = some y := by
  cases c with
  | true => exact ⟨rfl, h⟩
  | false => cases h
def bnd {α β : Type} (x : Option α) (k : α → Option β) : Option β := match x with
  | some a => k a
  | none => none
theorem bnd_some {α β : Type} {x : Option α} {k : α → Option β} {y : β} (h : bnd x k = some y) : ∃ a, x = some a ∧ k a = some y := by
  cases x with
  | some a => exact ⟨a, rfl, h⟩
  | none => cases h
structure Rc where
  E : SC → Expr → Option EF
  T : SC → Expr → Option TF
  I : SC → Expr → Expr → Option WF
structure RcOk (Γ : Gam) (r : Rc) : Prop where
  E : ∀ {S X W e f}, Fits Γ S X → Takes X W → r.E S e = some f → ZE X W e f
  T : ∀ {S X W e f}, Fits Γ S X → Takes X W → r.T S e = some f → ZT X W e f
  I : ∀ {S X W tg e f}, Fits Γ S X → Takes X W → r.I S tg e = some f → ∃ it, ZI X W tg e it ∧ WOk it f
def atPos (l : List (Nat × Nat × Nat × Nat)) (p : Pos) : Bool := l.any fun q => Nat.beq q.1 p.line && Nat.beq q.2.1 p.col && Nat.beq q.2.2.1 p.endLine && Nat.beq q.2.2.2 p.endCol

/-! ### arguments -/
def cA (r : Rc) (S : SC) : List Expr → Option AF
  | [] => some aNil
  | e :: es => gd (noStar e) (bnd (r.E S e) fun f => bnd (cA r S es) fun t => some (aCons f t))
section
variable {Γ : Gam} {r : Rc} {S : SC} {X : Cx} {W : WX}
theorem cA_ok (R : RcOk Γ r) (F : Fits Γ S X) (tk : Takes X W) : ∀ {es : List Expr} {a : AF}, cA r S es = some a → ZA X W es a ∧ es.all noStar = true
  | [], _, h => by
    cases h
    exact ⟨za_nil, rfl⟩
  | e :: es, _, h => by
    obtain ⟨h1, h⟩ := gd_some h
    obtain ⟨f, h2, h⟩ := bnd_some h
    obtain ⟨t, h3, h⟩ := bnd_some h
    cases h
    obtain ⟨z1, z2⟩ := cA_ok R F tk h3
    exact ⟨za_cons (R.E F tk h2) z1 (star1 h1 _ _), by rw [List.all_cons, h1, z2]; rfl⟩
end

/-! ### operators -/
def oAddU (x y : D) (m : M) : R D := match lstOf m x with
  | some _ => oAddS x y m
  | none => oAdd x y m
abbrev rAddAll (X : Cx) : R2 := fun x y H Q => rAddI x y H Q ∨ rAddS x y H Q ∨ rCatA X.K x y H Q ∨ rCat x y H Q
theorem op2_addU {X : Cx} : Op2 X (rAddAll X) oAddU := fun F E ι H m x y v u Q hm rx ry hp => by
  unfold oAddU at hp
  split at hp
  · exact op2_addS F E ι H m x y v u Q hm rx ry hp
  · exact op2_add F E ι H m x y v u Q hm rx ry hp
def binG (S : SC) (op : Operator) (pos : Pos) : Option (D → D → M → R D) := match op with
  | .Add => some (match atPos S.cells pos with | true => oAdd | false => oAddU)
  | .Sub => some oSub
  | .Mult => some oMul
  | .FloorDiv => some oFdiv
  | .Mod => some oMod
  | .Pow => some oPow
  | _ => none
theorem binG_ok {S : SC} {X : Cx} {op : Operator} {pos : Pos} {g : D → D → M → R D} (h : binG S op pos = some g) : ∃ r, OpR X (binaryOp op) r ∧ Op2 X r g := by
  unfold binG at h
  split at h <;> first | cases h | skip
  · cases atPos S.cells pos with
    | true => exact ⟨_, opr_add, op2_add⟩
    | false => exact ⟨_, opr_add, op2_addU⟩
  · exact ⟨_, op_sub, op2_sub⟩
  · exact ⟨_, opr_mul, op2_mul⟩
  · exact ⟨_, op_fdiv, op2_fdiv⟩
  · exact ⟨_, op_mod, op2_mod⟩
  · exact ⟨_, op_pow, op2_pow⟩
def cmpG : CmpOp → Option (D → D → M → R D)
  | .Eq => some oEq
  | .NotEq => some oNe
  | .Lt => some oLt
  | .LtE => some oLe
  | .Gt => some oGt
  | .GtE => some oGe
  | .Is => some oIsN
  | .IsNot => some oNotN
  | .In => some oIn
  | .NotIn => some oNotIn
theorem cmpG_ok {Γ : Gam} {S : SC} {X : Cx} (F : Fits Γ S X) {op : CmpOp} {g : D → D → M → R D} (h : cmpG op = some g) : ∃ r, OpR X (compareOp op) r ∧ Op2 X r g := by
  cases op <;> cases h
  · exact ⟨_, op_eqD F.hu, op2_eq⟩
  · exact ⟨_, op_neD F.hu, op2_ne⟩
  · exact ⟨_, opr_lt F.hu, op2_ord⟩
  · exact ⟨_, opr_le F.hu, op2_ord⟩
  · exact ⟨_, opr_gt F.hu, op2_ord⟩
  · exact ⟨_, opr_ge F.hu, op2_ord⟩
  · exact ⟨_, opr_is, op2_is⟩
  · exact ⟨_, opr_isnot, op2_isnot⟩
  · exact ⟨_, opr_in F.hu1, op2_in⟩
  · exact ⟨_, opr_notin F.hu1, op2_notin⟩

/-! ### names -/
def findD : List DI → Str → Option DI
  | [], _ => none
  | d :: r, x => match strEq x d.nm with
    | true => some d
    | false => findD r x
theorem findD_ok : ∀ {l : List DI} {x : Str} {d : DI}, findD l x = some d → d ∈ l ∧ d.nm = x
  | [], _, _, h => by cases h
  | y :: r, x, d, h => by
    unfold findD at h
    split at h
    · rename_i e
      cases h
      exact ⟨List.mem_cons_self, (strEq_iff.mp e).symm⟩
    · obtain ⟨h1, h2⟩ := findD_ok h
      exact ⟨List.mem_cons_of_mem _ h1, h2⟩
theorem lookS_mem {α : Type} {l : List (Str × α)} {x : Str} {y : α} (h : lookS l x = some y) : (x, y) ∈ l := by
  rw [lookS_eq] at h
  exact lookup_mem h
def memS (l : List Str) (x : Str) : Bool := l.any (strEq x)
theorem memS_ok {l : List Str} {x : Str} (h : memS l x = true) : x ∈ l := by
  obtain ⟨y, hy, e⟩ := List.any_eq_true.mp h
  rw [strEq_iff.mp e]
  exact hy
/-- the types by their names -/
def sInt : Str := ⟨#[105, 110, 116]⟩
def sStr : Str := ⟨#[115, 116, 114]⟩
def sTuple : Str := ⟨#[116, 117, 112, 108, 101]⟩
def sList : Str := ⟨#[108, 105, 115, 116]⟩
def sBool : Str := ⟨#[98, 111, 111, 108]⟩
def sDict : Str := ⟨#[100, 105, 99, 116]⟩
def tyOf (x : Str) : Option String := match strEq x sInt with
  | true => some "int"
  | false => match strEq x sStr with
    | true => some "str"
    | false => match strEq x sTuple with
      | true => some "tuple"
      | false => match strEq x sList with
        | true => some "list"
        | false => match strEq x sBool with
          | true => some "bool"
          | false => match strEq x sDict with
            | true => some "dict"
            | false => none
theorem sInt_eq : sInt = ("int" : Str) := by decide +kernel
theorem sStr_eq : sStr = ("str" : Str) := by decide +kernel
theorem sTuple_eq : sTuple = ("tuple" : Str) := by decide +kernel
theorem sList_eq : sList = ("list" : Str) := by decide +kernel
theorem sBool_eq : sBool = ("bool" : Str) := by decide +kernel
theorem sDict_eq : sDict = ("dict" : Str) := by decide +kernel
theorem tyOf_ok {x : Str} {n : String} (h : tyOf x = some n) : bootBuiltins x = some (.type n) := by
  unfold tyOf at h
  split at h
  · rename_i e; cases h; rw [strEq_iff.mp e, sInt_eq]; rfl
  split at h
  · rename_i e; cases h; rw [strEq_iff.mp e, sStr_eq]; rfl
  split at h
  · rename_i e; cases h; rw [strEq_iff.mp e, sTuple_eq]; rfl
  split at h
  · rename_i e; cases h; rw [strEq_iff.mp e, sList_eq]; rfl
  split at h
  · rename_i e; cases h; rw [strEq_iff.mp e, sBool_eq]; rfl
  split at h
  · rename_i e; cases h; rw [strEq_iff.mp e, sDict_eq]; rfl
  cases h
def cGlob (Γ : Gam) (x : Str) : Option EF := match findD Γ.defs x with
  | some _ => some (eCon (.glo x))
  | none => match lookS Γ.cons x with
    | some d => some (eCon d)
    | none => match lookS Γ.excs x with
      | some _ => some (eCon (.glo x))
      | none => match memS Γ.free x with
        | true => bnd (tyOf x) fun n => some (eCon (.ty n))
        | false => none
def cName (Γ : Gam) (S : SC) (x : Str) : Option EF := match slotOf S x with
  | some i => some (fVar i)
  | none => gd (gloB S x) (cGlob Γ x)
theorem ExcAt.mg {K : PySem.W.Frag} {mg : Str → Option Value} {c : Str} : ∀ {fs : List Str}, ExcAt K mg c fs → ∃ CA, mg c = some (.ref CA)
  | [], h => Cls0.mg h
  | [f], ⟨_, _, _, _, _, h, _⟩ => h.mg
  | [f, g], ⟨_, _, _, _, _, _, _, _, _, h, _⟩ => h.mg
  | _ :: _ :: _ :: _, h => h.elim
section
variable {Γ : Gam} {r : Rc} {S : SC} {X : Cx} {W : WX}
theorem cName_ok (F : Fits Γ S X) {x : Str} {pos : Pos} {f : EF} (h : cName Γ S x = some f) : ZE X W (.Name x pos) f := by
  unfold cName at h
  split at h
  · rename_i i hi
    cases h
    obtain ⟨h1, h2, h3, h4⟩ := F.slot hi
    exact (z_vr (pe_var h1 h2 h3 h4)).ref (fVar_ref i)
  · obtain ⟨hg, h⟩ := gd_some h
    obtain ⟨n1, n2, n3⟩ := gloB_nm hg
    unfold cGlob at h
    split at h
    · rename_i d hd
      cases h
      obtain ⟨m1, m2⟩ := findD_ok hd
      obtain ⟨⟨fa, fd, e1, _⟩, _⟩ := F.g.defs d m1
      rw [m2] at e1
      exact z_glo (F.gl hg) e1 n1
    · split at h
      · rename_i d hd
        cases h
        exact z_gcon (F.gl hg) (F.g.cons _ (lookS_mem hd)) n1
      · split at h
        · rename_i fs hfs
          cases h
          obtain ⟨CA, hm⟩ := (F.g.excs _ (lookS_mem hfs)).mg
          exact z_glo (F.gl hg) hm n1
        · split at h
          · rename_i hf
            obtain ⟨n, hn, h⟩ := bnd_some h
            cases h
            exact z_ty (F.gl hg) (F.g.free _ (memS_ok hf)) (tyOf_ok hn) n3 n1
          · cases h
end

/-! ### boolean chains, tests -/
def cBoolE (r : Rc) (S : SC) (op : BoolOp) : List Expr → Option EF
  | [] => none
  | [e] => r.E S e
  | e :: es => bnd (r.E S e) fun f => bnd (cBoolE r S op es) fun h => some (match op with | .And => eAnd f h | .Or => eOr f h)
def cBoolT (r : Rc) (S : SC) (op : BoolOp) : List Expr → Option TF
  | [] => none
  | [e] => r.T S e
  | e :: es => bnd (r.T S e) fun f => bnd (cBoolT r S op es) fun h => some (match op with | .And => tAndF f h | .Or => tOrF f h)
section
variable {Γ : Gam} {r : Rc} {S : SC} {X : Cx} {W : WX} {pos : Pos}
theorem cBoolE_ok (R : RcOk Γ r) (F : Fits Γ S X) (tk : Takes X W) {op : BoolOp} : ∀ {es : List Expr} {f : EF}, cBoolE r S op es = some f → ZE X W (.BoolOp op es pos) f
  | [], _, h => by cases h
  | [e], _, h => z_one (R.E F tk h)
  | e :: e2 :: es, _, h => by
    obtain ⟨f, h1, h⟩ := bnd_some h
    obtain ⟨g, h2, h⟩ := bnd_some h
    cases h
    cases op with
    | And => exact z_and (R.E F tk h1) (cBoolE_ok R F tk h2)
    | Or => exact z_or (R.E F tk h1) (cBoolE_ok R F tk h2)
theorem cBoolT_ok (R : RcOk Γ r) (F : Fits Γ S X) (tk : Takes X W) {op : BoolOp} : ∀ {es : List Expr} {f : TF}, cBoolT r S op es = some f → ZW X W (.BoolOp op es pos) f
  | [], _, h => by cases h
  | [e], _, h => by
    cases op with
    | And => exact zw_and1 (R.T F tk h)
    | Or => exact zw_or1 (R.T F tk h)
  | e :: e2 :: es, _, h => by
    obtain ⟨f, h1, h⟩ := bnd_some h
    obtain ⟨g, h2, h⟩ := bnd_some h
    cases h
    cases op with
    | And => exact zw_and (R.T F tk h1) (cBoolT_ok R F tk h2)
    | Or => exact zw_or (R.T F tk h1) (cBoolT_ok R F tk h2)
end
def cT (Γ : Gam) (r : Rc) (S : SC) (e : Expr) : Option TF := match e with
  | .BoolOp op es _ => cBoolT r S op es
  | .UnaryOp .Not a _ => bnd (r.T S a) fun c => some (tNotF c)
  | .Compare a [op] [b] _ => gd (noSet b) (bnd (cmpG op) fun g => bnd (r.E S a) fun f => bnd (r.E S b) fun h => some (tVal (eBin g f h)))
  | .Compare a [op, op'] [b, c] _ => gd (noSet c) (bnd (cmpG op) fun g => bnd (cmpG op') fun g' => bnd (r.E S a) fun f => bnd (r.E S b) fun h => bnd (r.E S c) fun k => some (tVal (eChain g g' f h k)))
  | .Compare .. => none
  | .IfExp .. => none
  | e => gd (plainTest e) (bnd (r.E S e) fun f => some (tVal f))
section
variable {Γ : Gam} {r : Rc} {S : SC} {X : Cx} {W : WX}
theorem cT_ok (R : RcOk Γ r) (F : Fits Γ S X) (tk : Takes X W) {e : Expr} {f : TF} (h : cT Γ r S e = some f) : ZT X W e f := by
  unfold cT at h
  split at h
  · exact zt_w (cBoolT_ok R F tk h)
  · obtain ⟨c, h1, h⟩ := bnd_some h
    cases h
    exact zt_not (R.T F tk h1)
  · obtain ⟨h0, h⟩ := gd_some h
    obtain ⟨g, h1, h⟩ := bnd_some h
    obtain ⟨f1, h2, h⟩ := bnd_some h
    obtain ⟨f2, h3, h⟩ := bnd_some h
    cases h
    obtain ⟨rr, o1, o2⟩ := cmpG_ok F h1
    exact zt_cmp o1 o2 (R.E F tk h2) (R.E F tk h3) (marks_no h0 _)
  · obtain ⟨h0, h⟩ := gd_some h
    obtain ⟨g, h1, h⟩ := bnd_some h
    obtain ⟨g', h1', h⟩ := bnd_some h
    obtain ⟨f1, h2, h⟩ := bnd_some h
    obtain ⟨f2, h3, h⟩ := bnd_some h
    obtain ⟨f3, h4, h⟩ := bnd_some h
    cases h
    obtain ⟨rr, o1, o2⟩ := cmpG_ok F h1
    obtain ⟨rr', o1', o2'⟩ := cmpG_ok F h1'
    exact zt_chain o1 o2 o1' o2' (R.E F tk h2) (R.E F tk h3) (R.E F tk h4) (lastMarks_no h0 _ _)
  · cases h
  · cases h
  · obtain ⟨h0, h⟩ := gd_some h
    obtain ⟨f1, h1, h⟩ := bnd_some h
    cases h
    exact zt_val (R.E F tk h1) fun wh => isTrue_plain h0 _ wh
end
end Z

namespace Z
open PySem PySem.Spec PyProof.Rows L2

/-! ### targets -/
theorem asg1 {e : Expr} (h : noStar e = true) (es : List Expr) (env : Env) : assignEach (e :: es) env = (false, assign e env) :: assignEach es env := by
  cases e <;> first | rfl | cases h
theorem asg_len : ∀ {es : List Expr}, es.all noStar = true → ∀ env : Env, (assignEach es env).length = es.length
  | [], _, _ => rfl
  | e :: es, h, env => by
    rw [List.all_cons, Bool.and_eq_true] at h
    rw [asg1 h.1, List.length_cons, List.length_cons, asg_len h.2]
theorem asg_none : ∀ {es : List Expr}, es.all noStar = true → ∀ env : Env, (assignEach es env).findIdx? (·.1) = none
  | [], _, _ => rfl
  | e :: es, h, env => by
    rw [List.all_cons, Bool.and_eq_true] at h
    rw [asg1 h.1, List.findIdx?_cons, asg_none h.2]
    rfl
/-- a target of names; own: the slots that it may fill -/
def cGN (S : SC) (own : Option (List Nat)) : Nat → Expr → Option GF
  | 0, _ => none
  | n + 1, e => match e with
    | .Name x _ => gd (locB S x) (bnd (slotN S.N x 0) fun i => gd (match own with | none => true | some l => l.any (Nat.beq i)) (some (gNm i)))
    | .Tuple es _ _ => gd (es.all noStar) (bnd (lst n es) fun g => some (gTp es.length g))
    | _ => none
where lst (n : Nat) : List Expr → Option GFs
  | [] => some gsNil
  | e :: es => bnd (cGN S own n e) fun g => bnd (lst n es) fun u => some (gsCons g u)
section
variable {Γ : Gam} {S : SC} {X : Cx}
theorem slotN_X (F : Fits Γ S X) {x : Str} {i : Nat} (h : slotN S.N x 0 = some i) : X.N[i]? = some x := by
  obtain ⟨_, h2⟩ := slotN_ok h
  rw [F.N]
  exact h2
theorem cGN_ok (F : Fits Γ S X) : ∀ {n : Nat} {e : Expr} {g : GF}, cGN S none n e = some g → ZG X e g
  | 0, _, _, h => by unfold cGN at h; cases h
  | n + 1, e, g, h => by
    unfold cGN at h
    split at h
    · obtain ⟨h1, h⟩ := gd_some h
      obtain ⟨i, h2, h⟩ := bnd_some h
      obtain ⟨_, h⟩ := gd_some h
      cases h
      obtain ⟨l1, l2⟩ := F.loc h1
      exact zg_name F.ndX (slotN_X F h2) l1 l2
    · rename_i es k pos
      obtain ⟨h1, h⟩ := gd_some h
      obtain ⟨u, h2, h⟩ := bnd_some h
      cases h
      have go : ∀ {es : List Expr} {u : GFs}, es.all noStar = true → cGN.lst S none n es = some u → ZGs X es u := by
        intro es
        induction es with
        | nil => intro u _ h; cases h; exact zgs_nil
        | cons e es ih =>
          intro u hs h
          unfold cGN.lst at h
          obtain ⟨g, g1, h⟩ := bnd_some h
          obtain ⟨v, g2, h⟩ := bnd_some h
          cases h
          rw [List.all_cons, Bool.and_eq_true] at hs
          exact zgs_cons (cGN_ok F g1) (ih hs.2 g2) (by rw [asg1 hs.1]; rfl)
      exact zg_tup F.calm (go h1 h2) (asg_len h1 _) (asg_none h1 _)
    · cases h
theorem cGO_ok (F : Fits Γ S X) {own : List Nat} : ∀ {n : Nat} {e : Expr} {g : GF}, cGN S (some own) n e = some g → ZGo X own e g
  | 0, _, _, h => by unfold cGN at h; cases h
  | n + 1, e, g, h => by
    unfold cGN at h
    split at h
    · obtain ⟨h1, h⟩ := gd_some h
      obtain ⟨i, h2, h⟩ := bnd_some h
      obtain ⟨h3, h⟩ := gd_some h
      cases h
      obtain ⟨l1, l2⟩ := F.loc h1
      obtain ⟨j, hj, e⟩ := List.any_eq_true.mp h3
      exact zgo_name F.ndX (slotN_X F h2) l1 l2 (by rw [Nat.eq_of_beq_eq_true e]; exact hj)
    · rename_i es k pos
      obtain ⟨h1, h⟩ := gd_some h
      obtain ⟨u, h2, h⟩ := bnd_some h
      cases h
      have go : ∀ {es : List Expr} {u : GFs}, es.all noStar = true → cGN.lst S (some own) n es = some u → ZGso X own es u := by
        intro es
        induction es with
        | nil => intro u _ h; cases h; exact zgso_nil
        | cons e es ih =>
          intro u hs h
          unfold cGN.lst at h
          obtain ⟨g, g1, h⟩ := bnd_some h
          obtain ⟨v, g2, h⟩ := bnd_some h
          cases h
          rw [List.all_cons, Bool.and_eq_true] at hs
          exact zgso_cons (cGO_ok F g1) (ih hs.2 g2) (by rw [asg1 hs.1]; rfl)
      exact zgo_tup F.calm (go h1 h2) (asg_len h1 _) (asg_none h1 _)
    · cases h
end

/-! ### comprehensions -/
def tgNames : Nat → Expr → List Str
  | 0, _ => []
  | n + 1, e => match e with
    | .Name x _ => [x]
    | .Tuple es _ _ => es.flatMap (tgNames n)
    | _ => []
def ownOf (N : List Str) : List Str → Option (List (Str × Nat))
  | [] => some []
  | x :: r => bnd (slotN N x 0) fun i => bnd (ownOf N r) fun t => some ((x, i) :: t)
def kindEqB : NameKind → NameKind → Bool
  | .local, .local => true
  | .cell, .cell => true
  | .free, .free => true
  | .globalExplicit, .globalExplicit => true
  | .globalImplicit, .globalImplicit => true
  | _, _ => false
theorem kindEqB_ok {a b : NameKind} (h : kindEqB a b = true) : a = b := by
  cases a <;> cases b <;> first | rfl | cases h
def isFun : ScopeKind → Bool
  | .function => true
  | _ => false
theorem isFun_ok {k : ScopeKind} (h : isFun k = true) : k = .function := by
  cases k <;> first | rfl | cases h
def relab (scope sc : Scope) : Scope := { scope with names := scope.names.map fun (n, k) => match k with
  | .free => (match lookS sc.names n with
    | some .cell => (n, .cell)
    | _ => (n, k))
  | _ => (n, k) }
theorem relab_eq {scope sc : Scope} {env : Env} (h : env.scope = sc) (hk : sc.kind = .function) : relabel scope env = relab scope sc := by
  unfold relabel relab
  congr 1
  apply List.map_congr_left
  rintro ⟨n, k⟩ _
  dsimp only
  rw [lookS_eq]
  show (if (k == .free && env.scope.kind == .function && env.scope.names.lookup n == some .cell) = true then (n, NameKind.cell) else (n, k)) = _
  rw [h, hk]
  cases k <;> try rfl
  cases q : List.lookup n sc.names with
  | none => rfl
  | some j => cases j <;> rfl
def blkB (N : List Str) (sc scope : Scope) (own : List (Str × Nat)) : Bool :=
  isFun scope.kind && (scope.names.all fun y => match lookS scope.names y.1 with | some k => kindEqB k y.2 | none => false) && (own.all fun p => match N[p.2]? with | some x => strEq x p.1 | none => false) &&
    (scope.names.all fun y => match y.2 with
      | .free => (match lookS sc.names y.1 with | some .cell => true | some .free => true | _ => false)
      | .local => own.any (fun p => strEq y.1 p.1) || !(memS N y.1)
      | .cell => own.any (fun p => strEq y.1 p.1) || !(memS N y.1)
      | _ => true)
theorem memS_no {l : List Str} {x : Str} (h : memS l x = false) : x ∉ l := fun hm => by
  have : memS l x = true := List.any_eq_true.mpr ⟨x, hm, strEq_iff.mpr rfl⟩
  rw [h] at this
  cases this
theorem blkB_ok {N : List Str} {sc scope : Scope} {own : List (Str × Nat)} (h : blkB N sc scope own = true) : BlkOk N sc scope own := by
  unfold blkB at h
  rw [Bool.and_eq_true, Bool.and_eq_true, Bool.and_eq_true] at h
  obtain ⟨⟨⟨h1, h2⟩, h3⟩, h4⟩ := h
  have own' : ∀ {y : Str}, (own.any (fun p => strEq y p.1) || !(memS N y)) = true → y ∈ own.map (·.1) ∨ y ∉ N := fun {y} q => by
    rw [Bool.or_eq_true] at q
    rcases q with q | q
    · obtain ⟨p, hp, e⟩ := List.any_eq_true.mp q
      exact .inl (List.mem_map.mpr ⟨p, hp, (strEq_iff.mp e).symm⟩)
    · exact .inr (memS_no (by simpa using q))
  refine ⟨isFun_ok h1, fun y hy => ?_, fun p hp => ?_, fun y hy e => ?_, fun y hy e => ?_⟩
  · have q := List.all_eq_true.mp h2 y hy
    rw [← lookS_eq]
    split at q
    · rename_i k hk
      rw [hk, kindEqB_ok q]
    · cases q
  · have q := List.all_eq_true.mp h3 p hp
    split at q
    · rename_i x hx
      rw [hx, strEq_iff.mp q]
    · cases q
  · have q := List.all_eq_true.mp h4 y hy
    rw [e] at q
    dsimp only at q
    rw [lookS_eq] at q
    split at q
    · exact .inl (by assumption)
    · exact .inr (by assumption)
    · cases q
  · have q := List.all_eq_true.mp h4 y hy
    rcases e with e | e
    · rw [e] at q; exact own' q
    · rw [e] at q; exact own' q
def SC.comp (S : SC) (scope : Scope) : SC := { S with sc := relab scope S.sc, fn := fun x => match lookS scope.names x with
  | some .cell => true
  | _ => false }
theorem Fits.comp {Γ : Gam} {S : SC} {X : Cx} (F : Fits Γ S X) {scope : Scope} (hk : scope.kind = .function) (s : Shared) (H : Hp) (C : Addr) (cl : List (Str × Addr)) (fp : List Addr) : Fits Γ (S.comp scope) (X.blk s H scope (compEnvC scope cl C X.env) fp) where
  g := F.g
  N := F.N
  nd := F.nd
  sc := relab_eq F.sc F.kind
  kind := hk
  calm := F.calm
  fn := fun x h => by
    show (scope.names.lookup x == some .cell) = true
    have h : (match lookS scope.names x with
      | some .cell => true
      | _ => false) = true := h
    rw [lookS_eq] at h
    split at h
    · rename_i e
      rw [e]
      rfl
    · cases h
  hr := F.hr
  hg := F.hg
  lam := F.lam
def cIfs (r : Rc) (S : SC) : List Expr → Option TF
  | [] => some tYesF
  | [c] => r.T S c
  | _ => none
/-- a clause: what is walked, the slots, the target, the test; the scope's own context -/
def cClause (r : Rc) (S : SC) (g : Comprehension) (scope : Scope) : Option (WF × List (Str × Nat) × GF × TF) :=
  gd (match g.is_async with | .ofNat 0 => true | _ => false) (gd (noSet g.iter) (bnd (ownOf S.N (tgNames 4 g.target)) fun own => gd (blkB S.N S.sc scope own)
    (bnd (r.I S g.target g.iter) fun it => bnd (cGN (S.comp scope) (some (own.map (·.2))) 4 g.target) fun t => bnd (cIfs r (S.comp scope) g.ifs) fun c => some (it, own, t, c))))
section
variable {Γ : Gam} {r : Rc} {S : SC} {X : Cx} {W : WX} {scope : Scope} {pos : Pos}
theorem cIfs_ok (R : RcOk Γ r) (F : Fits Γ S X) : ∀ {es : List Expr} {f : TF}, cIfs r S es = some f → ZTs X es f
  | [], _, h => by cases h; exact zts_nil
  | [c], _, h => zts_one (R.T F takes0 h)
  | _ :: _ :: _, _, h => by cases h
structure ClauseOk (Γ : Gam) (S : SC) (X : Cx) (W : WX) (g : Comprehension) (scope : Scope) (it : WF) (own : List (Str × Nat)) (t : GF) (c : TF) : Prop where
  sync : g.is_async = 0
  set : noSet g.iter = true
  it : ∃ i0, ZI X W g.target g.iter i0 ∧ WOk i0 it
  blk : BlkOk X.N X.env.scope scope own
  tg : ∀ (s : Shared) (H : Hp) (C : Addr) (cl : List (Str × Addr)) (fp : List Addr), ZGo (X.blk s H scope (compEnvC scope cl C X.env) fp) (own.map (·.2)) g.target t
  ifs : ∀ (s : Shared) (H : Hp) (C : Addr) (cl : List (Str × Addr)) (fp : List Addr), ZTs (X.blk s H scope (compEnvC scope cl C X.env) fp) g.ifs c
theorem cClause_ok (R : RcOk Γ r) (F : Fits Γ S X) (tk : Takes X W) {g : Comprehension} {q : WF × List (Str × Nat) × GF × TF} (h : cClause r S g scope = some q) : ClauseOk Γ S X W g scope q.1 q.2.1 q.2.2.1 q.2.2.2 := by
  unfold cClause at h
  obtain ⟨h1, h⟩ := gd_some h
  obtain ⟨h2, h⟩ := gd_some h
  obtain ⟨own, h3, h⟩ := bnd_some h
  obtain ⟨h4, h⟩ := gd_some h
  obtain ⟨it, h5, h⟩ := bnd_some h
  obtain ⟨t, h6, h⟩ := bnd_some h
  obtain ⟨c, h7, h⟩ := bnd_some h
  cases h
  have hb := blkB_ok h4
  refine ⟨?_, h2, R.I F tk h5, by rw [F.N, F.sc]; exact hb, fun s H C cl fp => cGO_ok (F.comp hb.kind s H C cl fp) h6, fun s H C cl fp => cIfs_ok R (F.comp hb.kind s H C cl fp) h7⟩
  split at h1
  · rename_i e; exact e
  · cases h1
def cLC (r : Rc) (S : SC) (elt : Expr) (gs : List Comprehension) (scope : Scope) (pos : Pos) : Option EF := match gs with
  | [g] => bnd (cClause r S g scope) fun q => bnd (r.E (S.comp scope) elt) fun f => some (match atPos S.cells pos with
    | true => fLcC q.1 (q.2.1.map (·.2)) q.2.2.1 q.2.2.2 f
    | false => fLc q.1 (q.2.1.map (·.2)) q.2.2.1 q.2.2.2 f)
  | _ => none
theorem cLC_ok (R : RcOk Γ r) (F : Fits Γ S X) (tk : Takes X W) {elt : Expr} {gs : List Comprehension} {f : EF} (h : cLC r S elt gs scope pos = some f) : ZE X W (.ListComp elt gs scope pos) f := by
  unfold cLC at h
  split at h
  · rename_i g
    obtain ⟨⟨it, own, t, c⟩, h1, h0⟩ := bnd_some h
    obtain ⟨f1, h2, h3⟩ := bnd_some h0
    clear h h0
    have h := h3
    have C := cClause_ok R F tk h1
    obtain ⟨tg, iter, ifs, asy⟩ := g
    have ea : asy = 0 := C.sync
    subst ea
    have he := fun s H Ca cl fp => R.E (W := WN) (F.comp C.blk.kind s H Ca cl fp) takes0 h2
    have h : some (match atPos S.cells pos with
      | true => fLcC it (own.map (·.2)) t c f1
      | false => fLc it (own.map (·.2)) t c f1) = some f := h
    cases q : atPos S.cells pos with
    | true =>
      rw [q] at h
      cases h
      obtain ⟨i0, zi, wk⟩ := C.it
      exact (z_lcC F.calm F.ndX zi C.blk C.tg C.ifs he (fun x => folded_no C.set _ x)).ref (fLcC_ref wk _ _ _ _)
    | false =>
      rw [q] at h
      cases h
      obtain ⟨i0, zi, wk⟩ := C.it
      exact (z_lc F.calm F.ndX zi C.blk C.tg C.ifs he (fun x => folded_no C.set _ x)).ref (fLc_ref wk _ _ _ _)
  · cases h
def cDC (r : Rc) (S : SC) (kx vx : Expr) (gs : List Comprehension) (scope : Scope) : Option EF := match gs with
  | [g] => bnd (cClause r S g scope) fun q => bnd (r.E (S.comp scope) kx) fun fk => bnd (r.E (S.comp scope) vx) fun fv => some (fDc q.1 (q.2.1.map (·.2)) q.2.2.1 q.2.2.2 fk fv)
  | _ => none
theorem cDC_ok (R : RcOk Γ r) (F : Fits Γ S X) (tk : Takes X W) {kx vx : Expr} {gs : List Comprehension} {f : EF} (h : cDC r S kx vx gs scope = some f) : ZE X W (.DictComp kx vx gs scope pos) f := by
  unfold cDC at h
  split at h
  · rename_i g
    obtain ⟨⟨it, own, t, c⟩, h1, h⟩ := bnd_some h
    obtain ⟨f1, h2, h⟩ := bnd_some h
    obtain ⟨f2, h3, h⟩ := bnd_some h
    cases h
    have C := cClause_ok R F tk h1
    obtain ⟨tg, iter, ifs, asy⟩ := g
    have ea : asy = 0 := C.sync
    subst ea
    obtain ⟨i0, zi, wk⟩ := C.it
    refine ZE.ref ?_ (fDc_ref wk _ _ _ _ _)
    exact z_dc F.calm F.ndX zi C.blk C.tg C.ifs (fun s H Ca cl fp => R.E (W := WN) (F.comp C.blk.kind s H Ca cl fp) takes0 h2) (fun s H Ca cl fp => R.E (W := WN) (F.comp C.blk.kind s H Ca cl fp) takes0 h3) (fun x => folded_no C.set _ x)
  · cases h
end
end Z

namespace Z
open PySem PySem.Spec PyProof.Rows L2

def nilK : List Keyword → Bool
  | [] => true
  | _ => false
theorem nilK_ok {l : List Keyword} (h : nilK l = true) : l = [] := by
  cases l <;> first | rfl | cases h
/-! ### calls of defs -/
def fitD (S : SC) (d : DI) : Bool := Nat.ble d.lv S.k && (!d.gd || S.gd)
theorem fitD_ok {Γ : Gam} {S : SC} {X : Cx} (F : Fits Γ S X) {d : DI} (h : fitD S d = true) : d.lv ≤ S.k ∧ (d.gd = true → X.A.guards = some []) := by
  unfold fitD at h
  rw [Bool.and_eq_true] at h
  refine ⟨Nat.le_of_ble_eq_true h.1, fun hd => ?_⟩
  have := h.2
  rw [hd] at this
  exact F.hg (by simpa using this)
def cDef (r : Rc) (S : SC) (d : DI) (args : List Expr) : Option EF := gd (fitD S d) (match args with
  | [] => gd d.ps.isEmpty (some (eBlt d.f aNil))
  | e :: es => bnd (cA r S (e :: es)) fun a => some (eBlt d.f a))
def tabOfS (Γ : Gam) : List Str → List (Str × FF)
  | [] => []
  | x :: r => match findD Γ.defs x with
    | some d => (d.nm, d.f) :: tabOfS Γ r
    | none => tabOfS Γ r
def tabFit (Γ : Gam) (S : SC) (l : List Str) : Bool := l.all fun x => match findD Γ.defs x with
  | some d => fitD S d
  | none => true
def cSlot (Γ : Gam) (r : Rc) (S : SC) (i : Nat) (args : List Expr) : Option EF := gd (tabFit Γ S S.tab) (match args with
  | [] => none
  | e :: es => bnd (cA r S (e :: es)) fun a => some (eCallV (tabOfS Γ S.tab) i a))
section
variable {Γ : Gam} {r : Rc} {S : SC} {X : Cx} {W : WX} {p pos : Pos}
theorem cDef_ok (R : RcOk Γ r) (F : Fits Γ S X) (tk : Takes X W) {d : DI} (hd : d ∈ Γ.defs) (hg : gloB S d.nm = true) {args : List Expr} {f : EF} (h : cDef r S d args = some f) : ZE X W (.Call (.Name d.nm p) args [] pos) f := by
  unfold cDef at h
  obtain ⟨h1, h⟩ := gd_some h
  obtain ⟨f1, f2⟩ := fitD_ok F h1
  obtain ⟨Z0, hl⟩ := F.g.defs d hd
  obtain ⟨n1, n2, n3⟩ := gloB_nm hg
  split at h
  · obtain ⟨h2, h⟩ := gd_some h
    cases h
    have e : d.ps = [] := by simpa using h2
    rw [e] at Z0
    exact z_fn0 Z0 (F.hr.mono f1) f2 (F.gl hg) tk n1
  · obtain ⟨a, h2, h⟩ := bnd_some h
    cases h
    obtain ⟨z1, z2⟩ := cA_ok R F tk h2
    rw [List.all_cons, Bool.and_eq_true] at z2
    exact z_fn Z0 hl (F.hr.mono f1) f2 (F.gl hg) tk z1 n1 (star1 z2.1 _ _) (star_any z2.2 _ _)
theorem tabOk_of (F : Fits Γ S X) : ∀ {l : List Str}, tabFit Γ S l = true → TabOk X S.k (tabOfS Γ l)
  | [], _ => tabok_nil
  | x :: l, h => by
    unfold tabFit at h
    rw [List.all_cons, Bool.and_eq_true] at h
    unfold tabOfS
    split
    · rename_i d hd
      have h1 := h.1
      rw [hd] at h1
      obtain ⟨f1, f2⟩ := fitD_ok F h1
      obtain ⟨m1, m2⟩ := findD_ok hd
      obtain ⟨Z0, hl⟩ := F.g.defs d m1
      exact tabok_cons Z0 f1 hl f2 (tabOk_of F h.2)
    · exact tabOk_of F h.2
theorem cSlot_ok (R : RcOk Γ r) (F : Fits Γ S X) (tk : Takes X W) {x : Str} {i : Nat} (hi : slotOf S x = some i) {args : List Expr} {f : EF} (h : cSlot Γ r S i args = some f) : ZE X W (.Call (.Name x p) args [] pos) f := by
  unfold cSlot at h
  obtain ⟨h1, h⟩ := gd_some h
  split at h
  · cases h
  · obtain ⟨a, h2, h⟩ := bnd_some h
    cases h
    obtain ⟨z1, z2⟩ := cA_ok R F tk h2
    rw [List.all_cons, Bool.and_eq_true] at z2
    obtain ⟨n1, n2, n3, n4⟩ := F.slot hi
    exact z_callv (tabOk_of F h1) F.hr n1 n2 tk z1 n3 n4 (star1 z2.1 _ _) (star_any z2.2 _ _)
end

/-! ### exceptions made -/
def cExc (r : Rc) (S : SC) (x : Str) (fs : List Str) (args : List Expr) : Option EF := match fs, args with
  | [], [] => some (eNew0 x)
  | [f], [e] => gd (Nat.ble 2 S.k) (bnd (cA r S [e]) fun a => some (eNew1 x f a))
  | [f, g], [e, e2] => gd (Nat.ble 2 S.k) (bnd (cA r S [e, e2]) fun a => some (eNew2 x f g a))
  | _, _ => none
section
variable {Γ : Gam} {r : Rc} {S : SC} {X : Cx} {W : WX} {p pos : Pos}
theorem cExc_ok (R : RcOk Γ r) (F : Fits Γ S X) (tk : Takes X W) {x : Str} {fs : List Str} (hx : ExcAt X.K X.mg x fs) (hg : gloB S x = true) {args : List Expr} {f : EF} (h : cExc r S x fs args = some f) : ZE X W (.Call (.Name x p) args [] pos) f := by
  obtain ⟨n1, n2, n3⟩ := gloB_nm hg
  unfold cExc at h
  split at h
  · cases h
    exact z_mk0 hx (F.gl hg) n1
  · rename_i f1 e
    obtain ⟨h1, h⟩ := gd_some h
    obtain ⟨a, h2, h⟩ := bnd_some h
    cases h
    unfold cA at h2
    obtain ⟨s1, h2⟩ := gd_some h2
    obtain ⟨g1, h3, h2⟩ := bnd_some h2
    obtain ⟨t1, h4, h2⟩ := bnd_some h2
    cases h2
    cases h4
    obtain ⟨st, p1, p2, p3, p4, T, Sc, hb, v0, v1, d1, d2⟩ := hx
    exact z_mk1 T Sc (F.hr.mono (Nat.le_of_ble_eq_true h1)) (F.gl hg) (R.E F tk h3) hb v0 v1 d1 d2 n1 (star1 s1 _ _) rfl
  · rename_i f1 g1 e e2
    obtain ⟨h1, h⟩ := gd_some h
    obtain ⟨a, h2, h⟩ := bnd_some h
    cases h
    unfold cA at h2
    obtain ⟨s1, h2⟩ := gd_some h2
    obtain ⟨k1, h3, h2⟩ := bnd_some h2
    obtain ⟨t1, h4, h2⟩ := bnd_some h2
    cases h2
    unfold cA at h4
    obtain ⟨s2, h4⟩ := gd_some h4
    obtain ⟨k2, h5, h4⟩ := bnd_some h4
    obtain ⟨t2, h6, h4⟩ := bnd_some h4
    cases h4
    cases h6
    obtain ⟨st, p1, p2, p3, p4, q1, q2, q3, q4, T, Sc, hb, v0, v1, v2, d1, d2, d3, d4⟩ := hx
    exact z_mk2 T Sc (F.hr.mono (Nat.le_of_ble_eq_true h1)) (F.gl hg) (R.E F tk h3) (R.E F tk h5) hb v0 v1 v2 d1 d2 d3 d4 n1 (star1 s1 _ _) (star1 s2 _ _) (star_any (by rw [List.all_cons, s2]; rfl) _ _)
  · cases h
end

/-! ### built-ins -/
def sLen : Str := ⟨#[108, 101, 110]⟩
def sRepr : Str := ⟨#[114, 101, 112, 114]⟩
def sIsinstance : Str := ⟨#[105, 115, 105, 110, 115, 116, 97, 110, 99, 101]⟩
def sAll : Str := ⟨#[97, 108, 108]⟩
def sAny : Str := ⟨#[97, 110, 121]⟩
def sMax : Str := ⟨#[109, 97, 120]⟩
def sMin : Str := ⟨#[109, 105, 110]⟩
def sRange : Str := ⟨#[114, 97, 110, 103, 101]⟩
def sZip : Str := ⟨#[122, 105, 112]⟩
def sEnumerate : Str := ⟨#[101, 110, 117, 109, 101, 114, 97, 116, 101]⟩
def sValueError : Str := ⟨#[86, 97, 108, 117, 101, 69, 114, 114, 111, 114]⟩
theorem sLen_eq : sLen = ("len" : Str) := by decide +kernel
theorem sRepr_eq : sRepr = ("repr" : Str) := by decide +kernel
theorem sIsinstance_eq : sIsinstance = ("isinstance" : Str) := by decide +kernel
theorem sAll_eq : sAll = ("all" : Str) := by decide +kernel
theorem sAny_eq : sAny = ("any" : Str) := by decide +kernel
theorem sMax_eq : sMax = ("max" : Str) := by decide +kernel
theorem sMin_eq : sMin = ("min" : Str) := by decide +kernel
theorem sRange_eq : sRange = ("range" : Str) := by decide +kernel
theorem sZip_eq : sZip = ("zip" : Str) := by decide +kernel
theorem sEnumerate_eq : sEnumerate = ("enumerate" : Str) := by decide +kernel
theorem sValueError_eq : sValueError = ("ValueError" : Str) := by decide +kernel
/-- the first whose name it is -/
def pick {α : Type} : List (Str × α) → Str → Option α := lookS
def bltTab (S : SC) (pos : Pos) (many : Nat) : List (Str × Option (List D → M → R D)) := [
  (sLen, some bLen), (sIsinstance, some bIsi), (sAll, some bAll), (sAny, some bAny),
  (sRepr, match S.gd with | true => some bRepr | false => none),
  (sMax, match many with | 2 => some bMax2 | _ => none), (sMin, match many with | 2 => some bMin2 | _ => none)]
def btyTab (S : SC) (pos : Pos) : List (Str × Option (List D → M → R D)) := [
  (sTuple, some bTupleA), (sInt, some bInt), (sList, some (match atPos S.cells pos with | true => bList | false => bListS))]
section
variable {Γ : Gam} {r : Rc} {S : SC} {X : Cx} {W : WX} {p pos : Pos}
theorem bltTab_ok (F : Fits Γ S X) {n : Nat} {x : Str} {g : List D → M → R D} (h : lookS (bltTab S pos n) x = some (some g)) : ∃ id rr, CallR X (.builtin id) rr ∧ OpL X rr g ∧ bootBuiltins x = some (.builtin id) := by
  have hm := lookS_mem h
  unfold bltTab at hm
  simp only [List.mem_cons, List.not_mem_nil, or_false, Prod.mk.injEq] at hm
  rcases hm with ⟨e, q⟩ | ⟨e, q⟩ | ⟨e, q⟩ | ⟨e, q⟩ | ⟨e, q⟩ | ⟨e, q⟩ | ⟨e, q⟩
  · cases q; rw [e, sLen_eq]; exact ⟨_, _, cr_len, opl_len, rfl⟩
  · cases q; rw [e, sIsinstance_eq]; exact ⟨_, _, call_isi, opl_isi, rfl⟩
  · cases q; rw [e, sAll_eq]; exact ⟨_, _, cr_all F.calm, opl_all, rfl⟩
  · cases q; rw [e, sAny_eq]; exact ⟨_, _, cr_any F.calm, opl_any, rfl⟩
  · cases hg : S.gd with
    | true =>
      rw [hg] at q
      cases q; rw [e, sRepr_eq]; exact ⟨_, _, cr_repr F.hu (F.hg hg), opl_repr, rfl⟩
    | false => rw [hg] at q; cases q
  · split at q
    · cases q; rw [e, sMax_eq]; exact ⟨_, _, call_max2 F.calm, opl_max2, rfl⟩
    · cases q
  · split at q
    · cases q; rw [e, sMin_eq]; exact ⟨_, _, call_min2 F.calm, opl_min2, rfl⟩
    · cases q
theorem btyTab_ok (F : Fits Γ S X) {x : Str} {g : List D → M → R D} (h : lookS (btyTab S pos) x = some (some g)) : ∃ T rr, CallR X (.type T) rr ∧ OpL X rr g ∧ bootBuiltins x = some (.type T) := by
  have hm := lookS_mem h
  unfold btyTab at hm
  simp only [List.mem_cons, List.not_mem_nil, or_false, Prod.mk.injEq] at hm
  rcases hm with ⟨e, q⟩ | ⟨e, q⟩ | ⟨e, q⟩
  · cases q; rw [e, sTuple_eq]; exact ⟨_, _, call_tupleA F.calm, opl_tupleA, rfl⟩
  · cases q; rw [e, sInt_eq]; exact ⟨_, _, call_int1, opl_int, rfl⟩
  · cases hp : atPos S.cells pos with
    | true => rw [hp] at q; cases q; rw [e, sList_eq]; exact ⟨_, _, call_list_of, opl_list, rfl⟩
    | false => rw [hp] at q; cases q; rw [e, sList_eq]; exact ⟨_, _, call_list_of, opl_listS, rfl⟩
end
def tyName' (Γ : Gam) (S : SC) : Expr → Option String
  | .Name x _ => gd (gloB S x && memS Γ.free x) (tyOf x)
  | _ => none
theorem tyName'_ok {Γ : Gam} {S : SC} {X : Cx} {W : WX} (F : Fits Γ S X) {e : Expr} {n : String} (h : tyName' Γ S e = some n) : ZE X W e (eCon (.ty n)) ∧ noStar e = true := by
  unfold tyName' at h
  split at h
  · obtain ⟨h1, h⟩ := gd_some h
    rw [Bool.and_eq_true] at h1
    obtain ⟨n1, n2, n3⟩ := gloB_nm h1.1
    exact ⟨z_ty (F.gl h1.1) (F.g.free _ (memS_ok h1.2)) (tyOf_ok h) n3 n1, rfl⟩
  · cases h
def excArg (Γ : Gam) : Expr → Bool
  | .Name x _ => (lookS Γ.excs x).isSome || strEq x sValueError
  | _ => false
def excArgs (Γ : Gam) : List Expr → Bool
  | [t] => excArg Γ t
  | _ => false
def cBlt (Γ : Gam) (r : Rc) (S : SC) (x : Str) (args : List Expr) (pos : Pos) : Option EF := match args with
  | [] => none
  | [e, .Tuple [t1, t2] _ _] => gd (strEq x sIsinstance && noStar e) (bnd (r.E S e) fun f => bnd (tyName' Γ S t1) fun b => bnd (tyName' Γ S t2) fun c => some (eIsi2 f b c))
  | e :: es => match lookS (bltTab S pos (e :: es).length) x with
    | some (some g) => bnd (cA r S (e :: es)) fun a => some (eBlt (match strEq x sIsinstance && excArgs Γ es with | true => bIsx Γ.kt | false => g) a)
    | some none => none
    | none => match lookS (btyTab S pos) x with
      | some (some g) => bnd (cA r S (e :: es)) fun a => some (eBlt g a)
      | _ => none
section
variable {Γ : Gam} {r : Rc} {S : SC} {X : Cx} {W : WX} {p pos : Pos}
theorem cBlt_ok (R : RcOk Γ r) (F : Fits Γ S X) (tk : Takes X W) {x : Str} (hg : gloB S x = true) (hf : memS Γ.free x = true) {args : List Expr} {f : EF} (h : cBlt Γ r S x args pos = some f) : ZE X W (.Call (.Name x p) args [] pos) f := by
  obtain ⟨n1, n2, n3⟩ := gloB_nm hg
  have hm := F.g.free _ (memS_ok hf)
  unfold cBlt at h
  split at h
  · cases h
  · rename_i e t1 t2 kk tp
    obtain ⟨h1, h⟩ := gd_some h
    rw [Bool.and_eq_true] at h1
    obtain ⟨f1, h2, h⟩ := bnd_some h
    obtain ⟨b, h3, h⟩ := bnd_some h
    obtain ⟨c, h4, h⟩ := bnd_some h
    cases h
    have ex := strEq_iff.mp h1.1
    rw [sIsinstance_eq] at ex
    subst ex
    obtain ⟨z1, s1⟩ := tyName'_ok (W := W) F h3
    obtain ⟨z2, s2⟩ := tyName'_ok (W := W) F h4
    exact z_isi2 (F.gl hg) hm rfl (R.E F tk h2) z1 z2 (star1 s1 _ _) (star1 s2 _ _) (star1 h1.2 _ _) rfl
  · rename_i e es _
    split at h
    · rename_i g hb
      obtain ⟨a, h2, h⟩ := bnd_some h
      obtain ⟨z1, z2⟩ := cA_ok R F tk h2
      rw [List.all_cons, Bool.and_eq_true] at z2
      obtain ⟨id, rr, c1, c2, c3⟩ := bltTab_ok F hb
      cases q : strEq x sIsinstance && excArgs Γ es with
      | true =>
        rw [q] at h
        cases h
        rw [Bool.and_eq_true] at q
        have ex := strEq_iff.mp q.1
        rw [sIsinstance_eq] at ex
        subst ex
        exact z_blt call_isx (opl_isx F.g.kt) (F.gl hg) hm rfl z1 n3 n1 (star1 z2.1 _ _) (star_any z2.2 _ _)
      | false =>
        rw [q] at h
        cases h
        exact z_blt c1 c2 (F.gl hg) hm c3 z1 n3 n1 (star1 z2.1 _ _) (star_any z2.2 _ _)
    · cases h
    · split at h
      · rename_i g hb
        obtain ⟨a, h2, h⟩ := bnd_some h
        cases h
        obtain ⟨z1, z2⟩ := cA_ok R F tk h2
        rw [List.all_cons, Bool.and_eq_true] at z2
        obtain ⟨T, rr, c1, c2, c3⟩ := btyTab_ok F hb
        exact z_bty c1 c2 (F.gl hg) hm c3 z1 n3 n1 (star1 z2.1 _ _) (star_any z2.2 _ _)
      · cases h
end

/-! ### f(lambda: body), f trying -/
def findT : List TI → Str → Option TI
  | [], _ => none
  | d :: r, x => match strEq x d.nm with
    | true => some d
    | false => findT r x
theorem findT_ok : ∀ {l : List TI} {x : Str} {d : TI}, findT l x = some d → d ∈ l ∧ d.nm = x
  | [], _, _, h => by cases h
  | y :: r, x, d, h => by
    unfold findT at h
    split at h
    · rename_i e
      cases h
      exact ⟨List.mem_cons_self, (strEq_iff.mp e).symm⟩
    · obtain ⟨h1, h2⟩ := findT_ok h
      exact ⟨List.mem_cons_of_mem _ h1, h2⟩
def SC.lamS (S : SC) (scope : Scope) : SC := { S with sc := scope, fn := fun _ => false, gd := false, lam := false, k := S.k - 2 }
theorem Fits.lamC {Γ : Gam} {S : SC} {X : Cx} (F : Fits Γ S X) {scope : Scope} (hk : scope.kind = .function) {A : Around} {outer : List Env} {s : Shared} {H : Hp} {E : XK} {f' c' : Addr} (hr : Room (S.k - 2) (A.deeper (LamX.lamEnv X scope s.heap.objs.size f' c'))) : Fits Γ (S.lamS scope) (LamX.lamCx X A outer s H E scope f' c') where
  g := F.g
  N := F.N
  nd := F.nd
  sc := rfl
  kind := hk
  calm := rfl
  fn := fun x h => by cases h
  hr := hr
  hg := fun h => by cases h
  lam := fun h => by cases h
def cTry (r : Rc) (S : SC) (t : TI) (args : List Expr) : Option EF := match args with
  | [.Lambda ⟨[], [], none, [], [], none, []⟩ body scope _] => gd (S.lam && S.gd && Nat.ble 2 S.k && LamX.lamSB S.sc scope) (bnd (r.E (S.lamS scope) body) fun f => some (eRef t.n t.i t.hs f))
  | _ => none
section
variable {Γ : Gam} {r : Rc} {S : SC} {X : Cx} {W : WX} {p pos : Pos}
theorem cTry_ok (R : RcOk Γ r) (F : Fits Γ S X) {t : TI} (ht : t ∈ Γ.trys) (hg : gloB S t.nm = true) {args : List Expr} {f : EF} (h : cTry r S t args = some f) : ZE X W (.Call (.Name t.nm p) args [] pos) f := by
  obtain ⟨n1, n2, n3⟩ := gloB_nm hg
  unfold cTry at h
  split at h
  · rename_i body scope lpos
    obtain ⟨h1, h⟩ := gd_some h
    rw [Bool.and_eq_true, Bool.and_eq_true, Bool.and_eq_true] at h1
    obtain ⟨⟨⟨h1, h2⟩, h3⟩, h4⟩ := h1
    obtain ⟨f1, h5, h⟩ := bnd_some h
    cases h
    obtain ⟨st, a, n, Ng, cs, h₀, hds, p1, p2, p3, p4, p5, p5', e0, D, Sg, hN, hva, hbg, hi, hln, hh, hx, hin, a1, a2⟩ := F.g.trys t ht
    obtain ⟨c, P, hcode, TB, hT, hTu⟩ := F.lam h1
    have hL : LamX.LamS X.env.scope scope := by rw [F.sc]; exact LamX.lamS_by h4
    have k2 : S.k - 2 + 2 ≤ S.k := by have := Nat.le_of_ble_eq_true h3; omega
    rw [← e0]
    exact z_refD (k := S.k - 2) (F.gl hg) D Sg hN hva hbg hi hln (fun _ _ _ _ => hln) (fun g cdg => hh X.A g cdg (F.hr.mono (Nat.le_of_ble_eq_true h3)) (F.hg h2)) (fun _ _ _ _ => rfl) TB hcode hT hTu (F.hr.mono k2) hL rfl (fun _ _ _ _ _ => rfl)
      (fun A outer s H E f' c' hr => R.E (F.lamC hL.kind hr) takesL h5) hx (fun p hp => hin p hp) n1 a1 a2
  · cases h
end
/-! ### methods -/
def sAppend : Str := ⟨#[97, 112, 112, 101, 110, 100]⟩
def sPop : Str := ⟨#[112, 111, 112]⟩
def sExtend : Str := ⟨#[101, 120, 116, 101, 110, 100]⟩
def sSetdefault : Str := ⟨#[115, 101, 116, 100, 101, 102, 97, 117, 108, 116]⟩
theorem sAppend_eq : sAppend = ("append" : Str) := by decide +kernel
theorem sPop_eq : sPop = ("pop" : Str) := by decide +kernel
theorem sExtend_eq : sExtend = ("extend" : Str) := by decide +kernel
theorem sSetdefault_eq : sSetdefault = ("setdefault" : Str) := by decide +kernel
inductive MK where
  | append | popAt | extend | setd
def mk1Tab : List (Str × MK) := [(sAppend, .append), (sPop, .popAt), (sExtend, .extend)]
def mk2Tab : List (Str × MK) := [(sSetdefault, .setd)]
def cMeth (r : Rc) (S : SC) (o : Expr) (m : Str) (apos : Pos) (args : List Expr) (pos : Pos) : Option EF := gd (plainBase o && Nat.beq apos.endLine pos.line) (match args with
  | [e] => gd (noStar e) (bnd (lookS mk1Tab m) fun k => bnd (r.E S o) fun fo => bnd (r.E S e) fun f => match k with
    | .append => some (eMethL mAppend fo (aCons f aNil))
    | .popAt => some (eMethL mPopAt fo (aCons f aNil))
    | .extend => some (eMethL mExtend fo (aCons f aNil))
    | _ => none)
  | [e, e2] => gd (noStar e && noStar e2) (bnd (lookS mk2Tab m) fun k => bnd (r.E S o) fun fo => bnd (r.E S e) fun f => bnd (r.E S e2) fun f2 => match k with
    | .setd => some (eSetd fo f f2)
    | _ => none)
  | _ => none)
section
variable {Γ : Gam} {r : Rc} {S : SC} {X : Cx} {W : WX} {p pos apos : Pos}
theorem few1 {X : Cx} {e : Expr} (h : noStar e = true) (cpos : Pos) : (((((backTo cpos (starEach [e] X.env)).all fun x => !x.fst) && (backToKw cpos (keywordEach [] X.env)).all fun x => x.fst.isSome) && decide (([e].length + ([] : List Keyword).length + if ([] : List Keyword).isEmpty = true then 0 else 1) < 30)) = true) := by
  rw [star1 h]
  rfl
theorem few2 {X : Cx} {e e2 : Expr} (h : noStar e = true) (h2 : noStar e2 = true) (cpos : Pos) : (((((backTo cpos (starEach [e, e2] X.env)).all fun x => !x.fst) && (backToKw cpos (keywordEach [] X.env)).all fun x => x.fst.isSome) && decide (([e, e2].length + ([] : List Keyword).length + if ([] : List Keyword).isEmpty = true then 0 else 1) < 30)) = true) := by
  rw [star1 h, star1 h2]
  rfl
theorem cMeth_ok (R : RcOk Γ r) (F : Fits Γ S X) (tk : Takes X W) {o : Expr} {m : Str} {args : List Expr} {f : EF} (h : cMeth r S o m apos args pos = some f) : ZE X W (.Call (.Attribute o m apos) args [] pos) f := by
  unfold cMeth at h
  obtain ⟨h0, h⟩ := gd_some h
  rw [Bool.and_eq_true] at h0
  have hb := fun (at' : Str) => base_plain h0.1 at' X.env (eval o X.env)
  have hl : (apos.endLine == pos.line) = true := by simpa using Nat.eq_of_beq_eq_true h0.2
  split at h
  · rename_i e
    obtain ⟨s1, h⟩ := gd_some h
    obtain ⟨k, h1, h⟩ := bnd_some h
    obtain ⟨fo, h2, h⟩ := bnd_some h
    obtain ⟨fe, h3, h⟩ := bnd_some h
    have zo := R.E F tk h2
    have ze := R.E F tk h3
    have hm := lookS_mem h1
    unfold mk1Tab at hm
    simp only [List.mem_cons, List.not_mem_nil, or_false, Prod.mk.injEq] at hm
    rcases hm with ⟨e1, e2⟩ | ⟨e1, e2⟩ | ⟨e1, e2⟩
    · subst e1; subst e2
      cases h
      rw [sAppend_eq]
      exact z_append zo ze (hb _) (few1 s1 _) hl (star1 s1 _ _) rfl
    · subst e1; subst e2
      cases h
      rw [sPop_eq]
      exact z_popAt zo ze (hb _) (few1 s1 _) hl (star1 s1 _ _) rfl
    · subst e1; subst e2
      cases h
      rw [sExtend_eq]
      exact z_extend zo ze (hb _) (few1 s1 _) hl (star1 s1 _ _) rfl
  · rename_i e e'
    obtain ⟨s1, h⟩ := gd_some h
    rw [Bool.and_eq_true] at s1
    obtain ⟨k, h1, h⟩ := bnd_some h
    obtain ⟨fo, h2, h⟩ := bnd_some h
    obtain ⟨fe, h3, h⟩ := bnd_some h
    obtain ⟨fe2, h4, h⟩ := bnd_some h
    have hm := lookS_mem h1
    unfold mk2Tab at hm
    simp only [List.mem_cons, List.not_mem_nil, or_false, Prod.mk.injEq] at hm
    obtain ⟨e1, e2⟩ := hm
    subst e1; subst e2
    cases h
    rw [sSetdefault_eq]
    exact z_setd (R.E F tk h2) (R.E F tk h3) (R.E F tk h4) ⟨hb _, few2 s1.1 s1.2 _, hl, by rw [star1 s1.1, star1 s1.2]; rfl⟩
  · cases h
end

/-! ### calls -/
def cCall (Γ : Gam) (r : Rc) (S : SC) (f : Expr) (args : List Expr) (pos : Pos) : Option EF := match f with
  | .Name x _ => match slotOf S x with
    | some i => cSlot Γ r S i args
    | none => gd (gloB S x) (match findT Γ.trys x with
      | some t => cTry r S t args
      | none => match findD Γ.defs x with
        | some d => cDef r S d args
        | none => match lookS Γ.excs x with
          | some fs => cExc r S x fs args
          | none => gd (memS Γ.free x) (cBlt Γ r S x args pos))
  | .Attribute o m apos => cMeth r S o m apos args pos
  | _ => none
section
variable {Γ : Gam} {r : Rc} {S : SC} {X : Cx} {W : WX} {p pos apos : Pos}
theorem cCall_ok (R : RcOk Γ r) (F : Fits Γ S X) (tk : Takes X W) {e : Expr} {args : List Expr} {f : EF} (h : cCall Γ r S e args pos = some f) : ZE X W (.Call e args [] pos) f := by
  unfold cCall at h
  split at h
  · rename_i x p
    split at h
    · rename_i i hi
      exact cSlot_ok R F tk hi h
    · have h0 := gd_some h
      clear h
      obtain ⟨hg, h⟩ := h0
      split at h
      · rename_i t ht
        obtain ⟨m1, m2⟩ := findT_ok ht
        subst m2
        exact cTry_ok R F m1 hg h
      · split at h
        · rename_i d hd
          obtain ⟨m1, m2⟩ := findD_ok hd
          subst m2
          exact cDef_ok R F tk m1 hg h
        · split at h
          · rename_i fs hfs
            exact cExc_ok R F tk (F.g.excs _ (lookS_mem hfs)) hg h
          · obtain ⟨hf, h⟩ := gd_some h
            exact cBlt_ok R F tk hg hf h
  · exact cMeth_ok R F tk h
  · cases h
end

/-! ### walks -/
def isTupE : Expr → Bool
  | .Tuple .. => true
  | _ => false
def freeB (Γ : Gam) (S : SC) (x y : Str) : Bool := strEq x y && gloB S x && memS Γ.free x
inductive WK where
  | range1 (a : Expr) | range2 (a b : Expr) | zip (a b : Expr) | enum (a : Expr) | seq
def walkK (Γ : Gam) (S : SC) (tg e : Expr) : WK := match e with
  | .Call (.Name x _) [a] [] _ => match freeB Γ S x sRange && noStar a with
    | true => .range1 a
    | false => match freeB Γ S x sEnumerate && noStar a && isTupE tg with
      | true => .enum a
      | false => .seq
  | .Call (.Name x _) [a, b] [] _ => match freeB Γ S x sRange && (noStar a && noStar b) with
    | true => .range2 a b
    | false => match freeB Γ S x sZip && (noStar a && noStar b) && isTupE tg with
      | true => .zip a b
      | false => .seq
  | _ => .seq
def cI (Γ : Gam) (r : Rc) (S : SC) (tg e : Expr) : Option WF := match walkK Γ S tg e with
  | .range1 a => bnd (r.E S a) fun f => some (wRange (aCons f aNil))
  | .range2 a b => bnd (r.E S a) fun f => bnd (r.E S b) fun h => some (wRange (aCons f (aCons h aNil)))
  | .zip a b => bnd (r.E S a) fun f => bnd (r.E S b) fun h => some (wZip (aCons f (aCons h aNil)))
  | .enum a => bnd (r.E S a) fun f => some (wEnum f)
  | .seq => bnd (r.E S e) fun f => some (wAny f)
section
variable {Γ : Gam} {r : Rc} {S : SC} {X : Cx} {W : WX} {p pos apos : Pos}
theorem freeB_ok (F : Fits Γ S X) {x y : Str} (h : freeB Γ S x y = true) : x = y ∧ Gl X x ∧ X.mg x = none := by
  unfold freeB at h
  rw [Bool.and_eq_true, Bool.and_eq_true] at h
  exact ⟨strEq_iff.mp h.1.1, F.gl h.1.2, F.g.free _ (memS_ok h.2)⟩
theorem isTupE_ok {e : Expr} (h : isTupE e = true) : ∃ es k pos, e = .Tuple es k pos := by
  cases e <;> first | exact ⟨_, _, _, rfl⟩ | cases h
theorem cI_ok (R : RcOk Γ r) (F : Fits Γ S X) (tk : Takes X W) {tg e : Expr} {f : WF} (h : cI Γ r S tg e = some f) : ∃ it, ZI X W tg e it ∧ WOk it f := by
  unfold cI at h
  have seq : ∀ {f : WF}, bnd (r.E S e) (fun f => some (wAny f)) = some f → ∃ it, ZI X W tg e it ∧ WOk it f := fun h => by
    obtain ⟨f1, h1, h⟩ := bnd_some h
    cases h
    exact ⟨_, zi_any (R.E F tk h1), wAny_ok _⟩
  generalize hw : walkK Γ S tg e = wk at h
  unfold walkK at hw
  split at hw
  · rename_i x p a pos
    cases q : freeB Γ S x sRange && noStar a with
    | true =>
      rw [q] at hw
      subst hw
      rw [Bool.and_eq_true] at q
      obtain ⟨e1, e2, e3⟩ := freeB_ok F q.1
      obtain ⟨f1, h1, h⟩ := bnd_some h
      cases h
      rw [sRange_eq] at e1
      subst e1
      exact ⟨_, zi_range1 e2 e3 (R.E F tk h1) (by rw [star1 q.2]; rfl) (star1 q.2 _ _), wRange_ok _⟩
    | false =>
      rw [q] at hw
      cases q2 : freeB Γ S x sEnumerate && noStar a && isTupE tg with
      | true =>
        rw [q2] at hw
        subst hw
        rw [Bool.and_eq_true, Bool.and_eq_true] at q2
        obtain ⟨e1, e2, e3⟩ := freeB_ok F q2.1.1
        obtain ⟨f1, h1, h⟩ := bnd_some h
        cases h
        rw [sEnumerate_eq] at e1
        subst e1
        obtain ⟨es, k, tp, rfl⟩ := isTupE_ok q2.2
        exact ⟨_, zi_enum e2 e3 (R.E F tk h1) (by rw [star1 q2.1.2]; rfl) (star1 q2.1.2 _ _), wEnum_ok _⟩
      | false =>
        rw [q2] at hw
        subst hw
        exact seq h
  · rename_i x p a b pos
    cases q : freeB Γ S x sRange && (noStar a && noStar b) with
    | true =>
      rw [q] at hw
      subst hw
      rw [Bool.and_eq_true, Bool.and_eq_true] at q
      obtain ⟨e1, e2, e3⟩ := freeB_ok F q.1
      obtain ⟨f1, h1, h⟩ := bnd_some h
      obtain ⟨f2, h2, h⟩ := bnd_some h
      cases h
      rw [sRange_eq] at e1
      subst e1
      exact ⟨_, zi_range2 e2 e3 (R.E F tk h1) (R.E F tk h2) (by rw [star1 q.2.1, star1 q.2.2]; rfl) (by rw [star1 q.2.2]; rfl) (star1 q.2.1 _ _) (star1 q.2.2 _ _), wRange_ok _⟩
    | false =>
      rw [q] at hw
      cases q2 : freeB Γ S x sZip && (noStar a && noStar b) && isTupE tg with
      | true =>
        rw [q2] at hw
        subst hw
        rw [Bool.and_eq_true, Bool.and_eq_true, Bool.and_eq_true] at q2
        obtain ⟨e1, e2, e3⟩ := freeB_ok F q2.1.1
        obtain ⟨f1, h1, h⟩ := bnd_some h
        obtain ⟨f2, h2, h⟩ := bnd_some h
        cases h
        rw [sZip_eq] at e1
        subst e1
        obtain ⟨es, k, tp, rfl⟩ := isTupE_ok q2.2
        exact ⟨_, zi_zip e2 e3 (R.E F tk h1) (R.E F tk h2) (star1 q2.1.2.1 _ _) (star1 q2.1.2.2 _ _) (star_any (by rw [List.all_cons, q2.1.2.2]; rfl) _ _), wZip_ok _⟩
      | false =>
        rw [q2] at hw
        subst hw
        exact seq h
  · subst hw
    exact seq h
end

/-! ### expressions -/
def cSl (r : Rc) (S : SC) : Option Expr → Option OF
  | none => some oNo
  | some e => bnd (r.E S e) fun f => some (oSome f)
def cPs (r : Rc) (S : SC) : List (Option Expr) → List Expr → Option (List (EF × EF))
  | [], [] => some []
  | some k :: ks, v :: vs => bnd (r.E S k) fun f => bnd (r.E S v) fun h => bnd (cPs r S ks vs) fun ps => some ((f, h) :: ps)
  | _, _ => none
def cE (Γ : Gam) (r : Rc) (S : SC) (e : Expr) : Option EF := match e with
  | .Constant (.int i) _ _ => some (eCon (.int i))
  | .Constant (.str x) _ _ => some (eCon (.str x))
  | .Constant (.bool b) _ _ => some (eCon (.bl b))
  | .Constant .none _ _ => some (eCon .non)
  | .Name x _ => cName Γ S x
  | .Tuple es _ _ => bnd (cA r S es) fun a => some (eTup a)
  | .List es pos => bnd (cA r S es) fun a => some (match atPos S.cells pos with | true => eLst a | false => eLstS a)
  | .Dict [] [] _ => some eDic0
  | .Dict (k :: ks) vs _ => gd (Nat.ble (k :: ks).length 15) (bnd (cPs r S (k :: ks) vs) fun ps => some (eDisp ps))
  | .BinOp a op b pos => bnd (binG S op pos) fun g => bnd (r.E S a) fun f => bnd (r.E S b) fun h => some (eBin g f h)
  | .UnaryOp .USub a _ => bnd (r.E S a) fun f => some (eUn oNeg f)
  | .UnaryOp .Not a _ => bnd (r.E S a) fun f => some (eNot f)
  | .BoolOp op es _ => cBoolE r S op es
  | .Compare a [op] [b] _ => gd (noSet b) (bnd (cmpG op) fun g => bnd (r.E S a) fun f => bnd (r.E S b) fun h => some (eBin g f h))
  | .Compare a [op, op'] [b, c] _ => gd (noSet c) (bnd (cmpG op) fun g => bnd (cmpG op') fun g' => bnd (r.E S a) fun f => bnd (r.E S b) fun h => bnd (r.E S c) fun k => some (eChain g g' f h k))
  | .IfExp c a b _ => bnd (r.T S c) fun t => bnd (r.E S a) fun f => bnd (r.E S b) fun h => some (eIf t f h)
  | .Subscript a (.Slice lo hi none _) _ => bnd (r.E S a) fun f => bnd (cSl r S lo) fun l => bnd (cSl r S hi) fun u => some (eSl f l u)
  | .Subscript a b _ => gd (noSlice b) (bnd (r.E S a) fun f => bnd (r.E S b) fun h => some (eBin oIx f h))
  | .ListComp elt gs scope pos => cLC r S elt gs scope pos
  | .DictComp kx vx gs scope _ => cDC r S kx vx gs scope
  | .Call f args [] pos => cCall Γ r S f args pos
  | _ => none
section
variable {Γ : Gam} {r : Rc} {S : SC} {X : Cx} {W : WX} {p pos apos : Pos}
theorem cSl_ok (R : RcOk Γ r) (F : Fits Γ S X) (tk : Takes X W) : ∀ {e : Option Expr} {f : OF}, cSl r S e = some f → ZO X W e f
  | none, _, h => by cases h; exact zo_none
  | some e, _, h => by
    obtain ⟨f, h1, h⟩ := bnd_some h
    cases h
    exact zo_some (R.E F tk h1)
theorem cPs_ok (R : RcOk Γ r) (F : Fits Γ S X) (tk : Takes X W) : ∀ {ks : List (Option Expr)} {vs : List Expr} {ps : List (EF × EF)}, cPs r S ks vs = some ps → ZPs X W pos ks vs ps ∧ (ks.all fun x => x.isSome) = true ∧ ks.length = vs.length
  | [], [], _, h => by cases h; exact ⟨zps_nil, rfl, rfl⟩
  | [], _ :: _, _, h => by cases h
  | none :: _, _, _, h => by cases h
  | some _ :: _, [], _, h => by cases h
  | some k :: ks, v :: vs, _, h => by
    obtain ⟨f, h1, h⟩ := bnd_some h
    obtain ⟨g, h2, h⟩ := bnd_some h
    obtain ⟨ps, h3, h⟩ := bnd_some h
    cases h
    obtain ⟨a, b, c⟩ := cPs_ok R F tk h3
    exact ⟨zps_cons (R.E F tk h1) (R.E F tk h2) a, by rw [List.all_cons, b]; rfl, by rw [List.length_cons, List.length_cons, c]⟩
theorem cE_ok (R : RcOk Γ r) (F : Fits Γ S X) (tk : Takes X W) {e : Expr} {f : EF} (h : cE Γ r S e = some f) : ZE X W e f := by
  unfold cE at h
  split at h
  · cases h; exact z_int
  · cases h; exact z_str
  · cases h; exact z_bl
  · cases h; exact z_non
  · exact cName_ok F h
  · obtain ⟨a, h1, h⟩ := bnd_some h
    cases h
    exact z_tup (cA_ok R F tk h1).1
  · rename_i es pos
    obtain ⟨a, h1, h⟩ := bnd_some h
    cases q : atPos S.cells pos with
    | true => rw [q] at h; cases h; exact z_lst (cA_ok R F tk h1).1
    | false => rw [q] at h; cases h; exact z_lstS (cA_ok R F tk h1).1
  · cases h; exact z_dic0
  · obtain ⟨h0, h⟩ := gd_some h
    obtain ⟨ps, h1, h⟩ := bnd_some h
    cases h
    obtain ⟨a, b, c⟩ := cPs_ok (pos := by assumption) R F tk h1
    exact z_disp a b c (by simp) (Nat.le_of_ble_eq_true h0)
  · obtain ⟨g, h1, h⟩ := bnd_some h
    obtain ⟨f1, h2, h⟩ := bnd_some h
    obtain ⟨f2, h3, h⟩ := bnd_some h
    cases h
    obtain ⟨rr, o1, o2⟩ := binG_ok (X := X) h1
    exact z_bin o1 o2 (R.E F tk h2) (R.E F tk h3)
  · obtain ⟨f1, h1, h⟩ := bnd_some h
    cases h
    exact z_neg (R.E F tk h1)
  · obtain ⟨f1, h1, h⟩ := bnd_some h
    cases h
    exact z_not (R.E F tk h1)
  · exact cBoolE_ok R F tk h
  · obtain ⟨h0, h⟩ := gd_some h
    obtain ⟨g, h1, h⟩ := bnd_some h
    obtain ⟨f1, h2, h⟩ := bnd_some h
    obtain ⟨f2, h3, h⟩ := bnd_some h
    cases h
    obtain ⟨rr, o1, o2⟩ := cmpG_ok F h1
    exact z_cmp o1 o2 (R.E F tk h2) (R.E F tk h3) (marks_no h0 _)
  · obtain ⟨h0, h⟩ := gd_some h
    obtain ⟨g, h1, h⟩ := bnd_some h
    obtain ⟨g', h1', h⟩ := bnd_some h
    obtain ⟨f1, h2, h⟩ := bnd_some h
    obtain ⟨f2, h3, h⟩ := bnd_some h
    obtain ⟨f3, h4, h⟩ := bnd_some h
    cases h
    obtain ⟨rr, o1, o2⟩ := cmpG_ok F h1
    obtain ⟨rr', o1', o2'⟩ := cmpG_ok F h1'
    exact z_chain o1 o2 o1' o2' (R.E F tk h2) (R.E F tk h3) (R.E F tk h4) (lastMarks_no h0 _ _)
  · obtain ⟨t, h1, h⟩ := bnd_some h
    obtain ⟨f1, h2, h⟩ := bnd_some h
    obtain ⟨f2, h3, h⟩ := bnd_some h
    cases h
    exact z_if (R.T F tk h1) (R.E F tk h2) (R.E F tk h3)
  · obtain ⟨f1, h1, h⟩ := bnd_some h
    obtain ⟨l, h2, h⟩ := bnd_some h
    obtain ⟨u, h3, h⟩ := bnd_some h
    cases h
    exact z_slice (R.E F tk h1) (cSl_ok R F tk h2) (cSl_ok R F tk h3)
  · obtain ⟨h0, h⟩ := gd_some h
    obtain ⟨f1, h1, h⟩ := bnd_some h
    obtain ⟨f2, h2, h⟩ := bnd_some h
    cases h
    exact z_ix F.hu1 (R.E F tk h1) (R.E F tk h2) (plainIx_no h0)
  · exact cLC_ok R F tk h
  · exact cDC_ok R F tk h
  · exact cCall_ok R F tk h
  · cases h
end
def stepR (Γ : Gam) (r : Rc) : Rc := ⟨cE Γ r, cT Γ r, cI Γ r⟩
def recR (Γ : Gam) : Nat → Rc
  | 0 => ⟨fun _ _ => none, fun _ _ => none, fun _ _ _ => none⟩
  | n + 1 => stepR Γ (recR Γ n)
theorem recR_ok (Γ : Gam) : ∀ n, RcOk Γ (recR Γ n)
  | 0 => { E := fun _ _ h => (by change none = some _ at h; cases h), T := fun _ _ h => (by change none = some _ at h; cases h), I := fun _ _ h => (by change none = some _ at h; cases h) }
  | n + 1 => ⟨fun F tk h => cE_ok (recR_ok Γ n) F tk h, fun F tk h => cT_ok (recR_ok Γ n) F tk h, fun F tk h => cI_ok (recR_ok Γ n) F tk h⟩
end Z

namespace Z
open PySem PySem.Spec PyProof.Rows L2

/-! ### statements -/
def locLocal (S : SC) (x : Str) : Bool := match lookS S.sc.names x with
  | some .local => true
  | _ => false
theorem locLocal_ok {Γ : Gam} {S : SC} {X : Cx} (F : Fits Γ S X) {x : Str} : (X.env.kindOf x == some .local) = locLocal S x := by
  unfold locLocal
  rw [lookS_eq]
  show (X.env.scope.names.lookup x == some .local) = _
  rw [F.sc]
  cases q : List.lookup x S.sc.names with
  | none => rfl
  | some k => cases k <;> rfl
/-- whether a comprehension is stored by the compiler's short way -/
def swapB (S : SC) (x : Str) (line : Nat) (e : Expr) : Bool := match e with
  | .ListComp _ _ s pos => locLocal S x && (line == pos.line) && !(s.names.any fun (n, k) => n == x && (k == .local || k == .cell))
  | .SetComp _ _ s pos => locLocal S x && (line == pos.line) && !(s.names.any fun (n, k) => n == x && (k == .local || k == .cell))
  | .DictComp _ _ _ s pos => locLocal S x && (line == pos.line) && !(s.names.any fun (n, k) => n == x && (k == .local || k == .cell))
  | _ => false
theorem blockKind_fun {Γ : Gam} {S : SC} {X : Cx} (F : Fits Γ S X) : X.env.blockKind = .function := by
  unfold Env.blockKind
  rw [F.sc, F.kind]
  rfl
theorem swapB_ok {Γ : Gam} {S : SC} {X : Cx} (F : Fits Γ S X) {x : Str} {p : Pos} {e : Expr} {l : Nat} : swapsWith e (some (.Name x p)) l X.env = pure (swapB S x p.line e) := by
  have hb : (X.env.blockKind == .function) = true := by rw [blockKind_fun F]; rfl
  cases e with
  | ListComp a b s pos =>
    show pure (X.env.blockKind == .function && X.env.kindOf x == some .local && p.line == pos.line && !(s.names.any fun (n, k) => n == x && (k == .local || k == .cell))) = _
    rw [hb, locLocal_ok F, Bool.true_and]
    rfl
  | SetComp a b s pos =>
    show pure (X.env.blockKind == .function && X.env.kindOf x == some .local && p.line == pos.line && !(s.names.any fun (n, k) => n == x && (k == .local || k == .cell))) = _
    rw [hb, locLocal_ok F, Bool.true_and]
    rfl
  | DictComp a b c s pos =>
    show pure (X.env.blockKind == .function && X.env.kindOf x == some .local && p.line == pos.line && !(s.names.any fun (n, k) => n == x && (k == .local || k == .cell))) = _
    rw [hb, locLocal_ok F, Bool.true_and]
    rfl
  | _ => rfl
def isStarE : Expr → Bool
  | .Starred .. => true
  | _ => false
def nmE (env : Env) (line : Nat) (x : Expr) : Option Str := match x with
  | .Name id pos => if (env.kindOf id == some .local && pos.line == line) = true then some id else none
  | _ => none
def nmS (S : SC) (line : Nat) (x : Expr) : Option Str := match x with
  | .Name id pos => if (locLocal S id && pos.line == line) = true then some id else none
  | _ => none
theorem nm_eq {Γ : Gam} {S : SC} {X : Cx} (F : Fits Γ S X) (line : Nat) : nmE X.env line = nmS S line := by
  funext x
  unfold nmE nmS
  split
  · rw [locLocal_ok F]
  · rfl
def headLine (ts : List Expr) : Nat := (ts.head?.map (·.pos.line)).getD 0
def swapM (names : List Str) (bk : Bool) (ts vs : List Expr) : Sem (Option (List Str)) := do
  if !(ts.length == 2 || ts.length == 3) || vs.length != ts.length || bk then return none
  if vs.any isStarE then return none
  if names.length != ts.length || names.eraseDups.length != names.length then return none
  if vs.all (foldedForSure 8) then return none
  if vs.all (constantsAlone 8) then unsupported "assign.tuple-of-constant-expressions:order-of-the-stores"
  return some names
theorem swapM_eq (env : Env) (ts vs : List Expr) (k k2 : Nat) (p p2 : Pos) : swappedStores [.Tuple ts k p] (.Tuple vs k2 p2) env = swapM (ts.filterMap (nmE env (headLine ts))) (env.blockKind != .function) ts vs := rfl
/-- two or three names stored at once -/
def swapN (S : SC) (ts vs : List Expr) : Option (Option (List Str)) :=
  let names := ts.filterMap (nmS S (headLine ts))
  if (!(ts.length == 2 || ts.length == 3) || vs.length != ts.length || false) = true then some none
  else if vs.any isStarE = true then some none
  else if (names.length != ts.length || names.eraseDups.length != names.length) = true then some none
  else if vs.all (foldedForSure 8) = true then some none
  else if vs.all (constantsAlone 8) = true then none
  else some (some names)
theorem swapN_ok {Γ : Gam} {S : SC} {X : Cx} (F : Fits Γ S X) {ts vs : List Expr} {k k2 : Nat} {p p2 : Pos} {r : Option (List Str)} (h : swapN S ts vs = some r) : swappedStores [.Tuple ts k p] (.Tuple vs k2 p2) X.env = pure r := by
  have hb : (X.env.blockKind != .function) = false := by rw [blockKind_fun F]; rfl
  rw [swapM_eq, hb, nm_eq F]
  unfold swapN at h
  unfold swapM
  dsimp only at h
  split at h
  · rename_i h1
    cases h
    rw [if_pos h1]
  · rename_i h1
    rw [if_neg h1]
    dsimp only [pure_bind]
    split at h
    · rename_i h2
      cases h
      erw [if_pos h2]
    · rename_i h2
      erw [if_neg h2]
      split at h
      · rename_i h3
        cases h
        erw [if_pos h3]
      · rename_i h3
        erw [if_neg h3]
        split at h
        · rename_i h4
          cases h
          erw [if_pos h4]
        · rename_i h4
          erw [if_neg h4]
          split at h
          · cases h
          · rename_i h5
            cases h
            erw [if_neg h5]
theorem z_rs {Γ : Gam} {S : SC} {X : Cx} {W : WX} {r : Rc} (R : RcOk Γ r) (F : Fits Γ S X) {tg e : Expr} {f : EF} {g : GF} {pos : Pos} (he : ZE X W e f) (hg : ZG X tg g) (h1 : noStar tg = true) (hs : swapsWithSole [tg] e pos.line X.env = pure false) (hw : swappedStores [tg] e X.env = pure none) : ZS X W (.Assign [tg] e pos) (sAsg f g) :=
  z_asg he hg hs hw (by rw [asg1 h1]; rfl)
/-- a store into a name -/
def cSetN (r : Rc) (S : SC) (x : Str) (p : Pos) (e : Expr) : Option SF := gd (locB S x) (bnd (slotN S.N x 0) fun i => match swapB S x p.line e with
  | false => bnd (r.E S e) fun f => some (sSet i f)
  | true => match e with
    | .ListComp elt [g] scope pos => bnd (cClause r S g scope) fun q => bnd (r.E (S.comp scope) elt) fun f => some (sSet i (match atPos S.cells pos with
        | true => fLcC q.1 (q.2.1.map (·.2)) q.2.2.1 q.2.2.2 f
        | false => fLc q.1 (q.2.1.map (·.2)) q.2.2.1 q.2.2.2 f))
    | _ => none)
theorem swapB_loc {S : SC} {x : Str} {l : Nat} {e : Expr} (h : swapB S x l e = true) : S.sc.names.lookup x = some .local := by
  have go : locLocal S x = true := by
    unfold swapB at h
    split at h
    · rw [Bool.and_eq_true, Bool.and_eq_true] at h; exact h.1.1
    · rw [Bool.and_eq_true, Bool.and_eq_true] at h; exact h.1.1
    · rw [Bool.and_eq_true, Bool.and_eq_true] at h; exact h.1.1
    · cases h
  unfold locLocal at go
  rw [lookS_eq] at go
  split at go
  · assumption
  · cases go
section
variable {Γ : Gam} {r : Rc} {S : SC} {X : Cx} {W : WX} {p pos : Pos}
theorem cSetN_ok (R : RcOk Γ r) (F : Fits Γ S X) (tk : Takes X W) {x : Str} {e : Expr} {g : SF} (h : cSetN r S x p e = some g) : ZS X W (.Assign [.Name x p] e pos) g := by
  unfold cSetN at h
  obtain ⟨h1, ha⟩ := gd_some h
  obtain ⟨i, h2, hb⟩ := bnd_some ha
  clear h ha
  have h := hb
  clear hb
  obtain ⟨l1, l2⟩ := F.loc h1
  cases q : swapB S x p.line e with
  | false =>
    rw [q] at h
    obtain ⟨f, h3, h⟩ := bnd_some h
    cases h
    exact z_set F.ndX (slotN_X F h2) l1 (R.E F tk h3) (by rw [swapB_ok F, q]) l2
  | true =>
    rw [q] at h
    have hl := swapB_loc q
    dsimp only at h
    split at h
    · rename_i elt gg scope lp
      obtain ⟨⟨it, own, t, c⟩, h3, h0⟩ := bnd_some h
      obtain ⟨f1, h4, h5⟩ := bnd_some h0
      have C := cClause_ok R F tk h3
      obtain ⟨tg, iter, ifs, asy⟩ := gg
      have ea : asy = 0 := C.sync
      subst ea
      have he := fun s H Ca cl fp => R.E (W := WN) (F.comp C.blk.kind s H Ca cl fp) takes0 h4
      have hsw : swapsWith (.ListComp elt [⟨tg, iter, ifs, 0⟩] scope lp) (some (.Name x p)) pos.line X.env = pure true := by rw [swapB_ok F, q]
      have h5 : some (sSet i (match atPos S.cells lp with
        | true => fLcC it (own.map (·.2)) t c f1
        | false => fLc it (own.map (·.2)) t c f1)) = some g := h5
      have hlX : X.env.scope.names.lookup x = some .local := by rw [F.sc]; exact hl
      cases q2 : atPos S.cells lp with
      | true =>
        rw [q2] at h5
        cases h5
        obtain ⟨i0, zi, wk⟩ := C.it
        refine ZS.ref ?_ (sSet_ref _ (fLcC_ref wk _ _ _ _))
        exact z_setLcC F.calm F.ndX (slotN_X F h2) hlX hsw zi C.blk C.tg C.ifs he (fun y => folded_no C.set _ y)
      | false =>
        rw [q2] at h5
        cases h5
        obtain ⟨i0, zi, wk⟩ := C.it
        refine ZS.ref ?_ (sSet_ref _ (fLc_ref wk _ _ _ _))
        exact z_setLc F.calm F.ndX (slotN_X F h2) hlX hsw zi C.blk C.tg C.ifs he (fun y => folded_no C.set _ y)
    · cases h
/-- a store under a subscript -/
def cSetI (r : Rc) (S : SC) (o i e : Expr) : Option SF := gd (noSlice i) (bnd (r.E S e) fun f => bnd (r.E S o) fun fo => bnd (r.E S i) fun fi => some (sAsg f (gSubZ fo fi)))
theorem cSetI_ok (R : RcOk Γ r) (F : Fits Γ S X) (tk : Takes X W) {o i e : Expr} {g : SF} (h : cSetI r S o i e = some g) : ZS X W (.Assign [.Subscript o i p] e pos) g := by
  unfold cSetI at h
  obtain ⟨h1, h⟩ := gd_some h
  obtain ⟨f, h2, h⟩ := bnd_some h
  obtain ⟨fo, h3, h⟩ := bnd_some h
  obtain ⟨fi, h4, h⟩ := bnd_some h
  cases h
  have hs : swapsWithSole [.Subscript o i p] e pos.line X.env = pure false := by
    cases e <;> rfl
  exact z_rs R F (R.E F tk h2) (zg_sub (W := WN) F.hu (R.E F takes0 h3) (R.E F takes0 h4) fun v => assignSub_no h1 _ _ _) rfl hs rfl
/-- stores into several names -/
def cSetT (r : Rc) (S : SC) (ts : List Expr) (tg e : Expr) : Option SF := match e with
  | .Tuple vs _ _ => bnd (swapN S ts vs) fun q => match q with
    | none => bnd (r.E S e) fun f => bnd (cGN S none 4 tg) fun g => some (sAsg f g)
    | some [x, y] => match ts, vs with
      | [.Name x' _, .Name y' _], [a, b] => gd (strEq x x' && strEq y y' && locLocal S x && locLocal S y) (bnd (slotN S.N x 0) fun i => bnd (slotN S.N y 0) fun j => gd (!Nat.beq i j) (bnd (cA r S [a, b]) fun t => some (sPar i j t)))
      | _, _ => none
    | _ => none
  | _ => bnd (r.E S e) fun f => bnd (cGN S none 4 tg) fun g => some (sAsg f g)
theorem sole_tup {ts : List Expr} {k : Nat} {p : Pos} {e : Expr} {l : Nat} {env : Env} : swapsWithSole [.Tuple ts k p] e l env = pure false := by
  cases e <;> rfl
theorem locLocal_lk (F : Fits Γ S X) {x : Str} (h : locLocal S x = true) : X.env.scope.names.lookup x = some .local := by
  have := locLocal_ok F (x := x)
  rw [h] at this
  have h2 : (X.env.scope.names.lookup x == some .local) = true := this
  exact eq_of_beq h2
theorem cSetT_ok (R : RcOk Γ r) (F : Fits Γ S X) (tk : Takes X W) {ts : List Expr} {k : Nat} {e : Expr} {g : SF} (h : cSetT r S ts (.Tuple ts k p) e = some g) : ZS X W (.Assign [.Tuple ts k p] e pos) g := by
  unfold cSetT at h
  split at h
  · rename_i vs k2 p2
    obtain ⟨q, h1, h0⟩ := bnd_some h
    split at h0
    · obtain ⟨f, h2, h3⟩ := bnd_some h0
      obtain ⟨gg, h4, h5⟩ := bnd_some h3
      cases h5
      exact z_rs R F (R.E F tk h2) (cGN_ok F h4) rfl sole_tup (swapN_ok F h1)
    · rename_i x y
      split at h0
      · rename_i x' px y' py a b
        obtain ⟨c1, h2⟩ := gd_some h0
        rw [Bool.and_eq_true, Bool.and_eq_true, Bool.and_eq_true] at c1
        obtain ⟨i, h3, h4⟩ := bnd_some h2
        obtain ⟨j, h5, h6⟩ := bnd_some h4
        obtain ⟨c2, h7⟩ := gd_some h6
        obtain ⟨t, h8, h9⟩ := bnd_some h7
        cases h9
        have e1 := strEq_iff.mp c1.1.1.1
        have e2 := strEq_iff.mp c1.1.1.2
        subst e1; subst e2
        exact z_par F.calm F.ndX (slotN_X F h3) (slotN_X F h5) (fun e => by rw [e] at c2; simp at c2) (locLocal_lk F c1.1.2) (locLocal_lk F c1.2) (cA_ok R F tk h8).1 (swapN_ok F h1) sole_tup
      · cases h0
    · cases h0
  · rename_i hno
    obtain ⟨f, h2, h3⟩ := bnd_some h
    obtain ⟨gg, h4, h5⟩ := bnd_some h3
    cases h5
    refine z_rs R F (R.E F tk h2) (cGN_ok F h4) rfl sole_tup ?_
    cases e <;> first | rfl | exact absurd rfl (hno _ _ _)
def cRaise (Γ : Gam) (r : Rc) (S : SC) (x : Str) (args : List Expr) : Option SF := gd (gloB S x && Nat.ble 2 S.k) (bnd (lookS Γ.excs x) fun fs => match fs, args with
  | [f], [e] => bnd (cA r S [e]) fun a => some (sRaise1 x f a)
  | [f, g], [e, e2] => bnd (cA r S [e, e2]) fun a => some (sRaise2 x f g a)
  | _, _ => none)
theorem cRaise_ok (R : RcOk Γ r) (F : Fits Γ S X) (tk : Takes X W) {x : Str} {args : List Expr} {g : SF} {p2 : Pos} (h : cRaise Γ r S x args = some g) : ZS X W (.Raise (some (.Call (.Name x p) args [] pos)) none p2) g := by
  unfold cRaise at h
  obtain ⟨h0, h⟩ := gd_some h
  rw [Bool.and_eq_true] at h0
  obtain ⟨n1, n2, n3⟩ := gloB_nm h0.1
  obtain ⟨fs, hfs, h⟩ := bnd_some h
  have hx := F.g.excs _ (lookS_mem hfs)
  split at h
  · rename_i f1 e
    obtain ⟨a, h2, h⟩ := bnd_some h
    cases h
    unfold cA at h2
    obtain ⟨s1, h2⟩ := gd_some h2
    obtain ⟨g1, h3, h2⟩ := bnd_some h2
    obtain ⟨t1, h4, h2⟩ := bnd_some h2
    cases h2
    cases h4
    obtain ⟨st, p1, p2, p3, p4, T, Sc, hb, v0, v1, d1, d2⟩ := hx
    exact z_raise1 T Sc F.calm tk (F.hr.mono (Nat.le_of_ble_eq_true h0.2)) (F.gl h0.1) (R.E F tk h3) hb v0 v1 d1 d2 n1 (star1 s1 _ _) rfl
  · rename_i f1 g1 e e2
    obtain ⟨a, h2, h⟩ := bnd_some h
    cases h
    unfold cA at h2
    obtain ⟨s1, h2⟩ := gd_some h2
    obtain ⟨k1, h3, h2⟩ := bnd_some h2
    obtain ⟨t1, h4, h2⟩ := bnd_some h2
    cases h2
    unfold cA at h4
    obtain ⟨s2, h4⟩ := gd_some h4
    obtain ⟨k2, h5, h4⟩ := bnd_some h4
    obtain ⟨t2, h6, h4⟩ := bnd_some h4
    cases h4
    cases h6
    obtain ⟨st, p1, p2, p3, p4, q1, q2, q3, q4, T, Sc, hb, v0, v1, v2, d1, d2, d3, d4⟩ := hx
    exact z_raise2 T Sc F.calm tk (F.hr.mono (Nat.le_of_ble_eq_true h0.2)) (F.gl h0.1) (R.E F tk h3) (R.E F tk h5) hb v0 v1 v2 d1 d2 d3 d4 n1 (star1 s1 _ _) (star1 s2 _ _) (star_any (by rw [List.all_cons, s2]; rfl) _ _)
  · cases h
end
/-- how often a while loop may turn -/
def manyTurns : Nat := 1000000
def cS (Γ : Gam) (r : Rc) : Nat → SC → Stmt → Option SF
  | 0, _, _ => none
  | n + 1, S, st => match st with
    | .Assign [.Name x p] e _ => cSetN r S x p e
    | .Assign [.Subscript o i _] e _ => cSetI r S o i e
    | .Assign [.Tuple ts k p] e _ => cSetT r S ts (.Tuple ts k p) e
    | .Expr e _ => gd (noComp e) (bnd (r.E S e) fun f => some (sExpr f))
    | .Return (some e) _ => bnd (r.E S e) fun f => some (sRet f)
    | .Return none _ => some sRetN
    | .If c a b _ => bnd (r.T S c) fun t => bnd (lst n S a) fun g => bnd (lst n S b) fun h => some (sIf t g h)
    | .For tg it body [] _ => gd (noSet it) (bnd (r.I S tg it) fun i => bnd (cGN S none 4 tg) fun g => bnd (lst n S body) fun b => some (fFor i g b))
    | .While c body [] _ => bnd (r.T S c) fun t => bnd (lst n S body) fun b => some (whileN t b manyTurns)
    | .Raise (some (.Call (.Name x _) args [] _)) none _ => cRaise Γ r S x args
    | .Pass _ => some sNil
    | .Break _ => some sBrk
    | .Continue _ => some sCnt
    | _ => none
where lst (n : Nat) (S : SC) : List Stmt → Option SF
  | [] => some sNil
  | [s] => cS Γ r n S s
  | s :: ss => bnd (cS Γ r n S s) fun g => bnd (lst n S ss) fun h => some (sSeq g h)
section
variable {Γ : Gam} {r : Rc} {S : SC} {X : Cx} {W : WX}
theorem cS_ok (R : RcOk Γ r) (F : Fits Γ S X) (tk : Takes X W) (hp : PassesOwn (model X.prog X.w) X.A X.env X.xe) : ∀ {n : Nat} {st : Stmt} {g : SF}, cS Γ r n S st = some g → ZS X W st g
  | 0, _, _, h => by unfold cS at h; cases h
  | n + 1, st, g, h => by
    have go : ∀ {l : List Stmt} {g : SF}, cS.lst Γ r n S l = some g → ZB X W l g := by
      intro l
      induction l with
      | nil => intro g h; unfold cS.lst at h; cases h; exact zs_nil
      | cons s ss ih =>
        intro g h
        cases ss with
        | nil =>
          unfold cS.lst at h
          exact zs_one (cS_ok R F tk hp h)
        | cons s2 ss =>
          unfold cS.lst at h
          obtain ⟨g1, h1, h⟩ := bnd_some h
          obtain ⟨g2, h2, h⟩ := bnd_some h
          cases h
          exact zs_cons (cS_ok R F tk hp h1) (ih h2)
    unfold cS at h
    split at h
    · exact cSetN_ok R F tk h
    · exact cSetI_ok R F tk h
    · exact cSetT_ok R F tk h
    · obtain ⟨h1, h⟩ := gd_some h
      obtain ⟨f, h2, h⟩ := bnd_some h
      cases h
      exact z_expr (R.E F tk h2) (swaps_no h1 _ _ _)
    · obtain ⟨f, h2, h⟩ := bnd_some h
      cases h
      exact z_ret (R.E F tk h2)
    · cases h
      exact z_retN
    · obtain ⟨t, h1, h⟩ := bnd_some h
      obtain ⟨g1, h2, h⟩ := bnd_some h
      obtain ⟨g2, h3, h⟩ := bnd_some h
      cases h
      exact z_sif (R.T F tk h1) (go h2) (go h3)
    · obtain ⟨h0, h⟩ := gd_some h
      obtain ⟨i, h1, h⟩ := bnd_some h
      obtain ⟨t, h2, h⟩ := bnd_some h
      obtain ⟨b, h3, h⟩ := bnd_some h
      cases h
      obtain ⟨i0, zi, wk⟩ := R.I F tk h1
      exact (z_for hp F.calm zi (cGN_ok F h2) (go h3) (fun x => folded_no h0 _ x)).ref (fFor_ref wk _ _)
    · obtain ⟨t, h1, h⟩ := bnd_some h
      obtain ⟨b, h2, h⟩ := bnd_some h
      cases h
      exact z_while _ hp (R.T F tk h1) (go h2)
    · exact cRaise_ok R F tk h
    · cases h; exact z_pass
    · cases h; exact z_brk
    · cases h; exact z_cnt
    · cases h
theorem cB_ok (R : RcOk Γ r) (F : Fits Γ S X) (tk : Takes X W) (hp : PassesOwn (model X.prog X.w) X.A X.env X.xe) {n : Nat} : ∀ {l : List Stmt} {g : SF}, cS.lst Γ r n S l = some g → ZB X W l g
  | [], _, h => by unfold cS.lst at h; cases h; exact zs_nil
  | [s], _, h => by unfold cS.lst at h; exact zs_one (cS_ok R F tk hp h)
  | s :: s2 :: ss, _, h => by
    unfold cS.lst at h
    obtain ⟨g1, h1, h⟩ := bnd_some h
    obtain ⟨g2, h2, h⟩ := bnd_some h
    cases h
    exact zs_cons (cS_ok R F tk hp h1) (cB_ok R F tk hp h2)
end

/-! ### defs -/
/-- a def's own looks: its slots; hints -/
structure HI where
  gd : Bool
  lam : Bool
  k : Nat
  tab : List Str
  cells : List (Nat × Nat × Nat × Nat)
def scOf (N : List Str) (sc : Scope) (h : HI) : SC := ⟨N, sc, fun _ => true, h.gd, h.lam, h.k, h.tab, h.cells⟩
def cFn (Γ : Gam) (N : List Str) (np : Nat) (st : Stmt) (h : HI) : Option FF := bnd (cS.lst Γ (recR Γ 40) 20 (scOf N (defScope st) h) (defBody st)) fun b => some (fnF np N.length b)
def zdOf (P : Program) (w : World) (K : PySem.W.Frag) (mg : Str → Option Value) (base : Heap) (d : DI) : Prop := ZD d.gd P w K mg base d.lv d.nm d.ps d.f ∧ ∀ ds m, ds.length ≠ d.ps.length → d.f ds m = .bad
section
variable {Γ : Gam} {P : Program} {w : World} {K : PySem.W.Frag} {mg : Str → Option Value} {base : Heap} {x : Str} {st : Stmt} {N ps : List Str} {h : HI} {f : FF}
theorem fits_fn (G : GOk Γ P w K mg base) (S : FnScope N ps (defScope st)) {qual : Str} {fa : Addr} {cdv : Value} {A : Around} {outer : List Env} {s : Shared} {H : Hp} {E : XK} (hr : Room h.k (A.deeper (envOfC qual (defScope st) s.heap.objs.size fa cdv))) (hg : h.gd = true → A.guards = some [])
    (hl : h.lam = true → LamHere (cxOf (L2.CX P w) P w K mg base N qual (defScope st) fa cdv A outer s H E)) : Fits Γ (scOf N (defScope st) h) (cxOf (L2.CX P w) P w K mg base N qual (defScope st) fa cdv A outer s H E) where
  g := G
  N := rfl
  nd := S.nd
  sc := rfl
  kind := S.kind
  calm := rfl
  fn := fun _ _ => rfl
  hr := hr
  hg := hg
  lam := hl
theorem zd_comp (T : DefAt K mg x st ps) (S : FnScope N ps (defScope st)) (G : GOk Γ P w K mg base) (TBs : h.lam = true → TabsB K mg base) (hx : h.lam = true → x ∈ lamNames) (hq : h.lam = true → ∀ (s : Shared) (fa : Addr) (cdv : Value), (envOfC x (defScope st) s.heap.objs.size fa cdv).qual ++ "<lambda>" = x ++ ".<locals>.<lambda>")
    (hc : cFn Γ N ps.length st h = some f) : zdOf P w K mg base ⟨x, h.k + 1, h.gd, ps, f⟩ := by
  unfold cFn at hc
  obtain ⟨b, h1, hc⟩ := bnd_some hc
  cases hc
  refine ⟨zd_of T S fun fa cdv hci A outer s H E hr hg => cB_ok (recR_ok Γ 40) (fits_fn G S hr hg fun hl => ?_) takesF passF h1, fun ds m hl => fnF_len hl⟩
  obtain ⟨c, P0, ht, TB, hm, hu⟩ := TBs hl x (hx hl)
  refine ⟨c, P0, hci c P0 ht, TB, ?_, ?_⟩
  · have := hq hl s fa cdv
    show (P0, (envOfC x (defScope st) s.heap.objs.size fa cdv).qual ++ "<lambda>") ∈ _
    rw [this]; exact hm
  · show ∀ p ∈ tabOf K, p.1 = P0 → p.2 = (envOfC x (defScope st) s.heap.objs.size fa cdv).qual ++ "<lambda>"
    rw [hq hl s fa cdv]; exact hu
end
end Z
namespace Z
open PySem L2
section
variable {P : Program} {w : World} {K : PySem.W.Frag} {mg : Str → Option Value} {base : Heap}
theorem alld_nil : ∀ d ∈ ([] : List DI), zdOf P w K mg base d := fun d h => by cases h
theorem alld_cons {d : DI} {l : List DI} (h : zdOf P w K mg base d) (r : ∀ d ∈ l, zdOf P w K mg base d) : ∀ e ∈ d :: l, zdOf P w K mg base e := fun e he => by
  rcases List.mem_cons.mp he with q | q
  · subst q; exact h
  · exact r e q
end
theorem all_nil {α : Type} {p : α → Prop} : ∀ x ∈ ([] : List α), p x := fun x h => by cases h
theorem all_cons {α : Type} {p : α → Prop} {a : α} {l : List α} (h : p a) (r : ∀ x ∈ l, p x) : ∀ x ∈ a :: l, p x := fun x hx => by
  rcases List.mem_cons.mp hx with q | q
  · subst q; exact h
  · exact r x q
end Z
namespace Z
open PySem L2
def isTryB (a : Str) : List Stmt → Bool
  | [.Try [.Expr (.Call (.Name b _) [] [] _) _] (_ :: _) [] [] _, .Return (some (.Constant .none 0 _)) _] => strEq a b
  | _ => false
theorem isTryB_ok {a : Str} {b : List Stmt} (h : isTryB a b = true) : ∃ h₀ hds p1 p2 p3 p4 p5 p5', b = [.Try [.Expr (.Call (.Name a p1) [] [] p2) p3] (h₀ :: hds) [] [] p4, .Return (some (.Constant .none 0 p5)) p5'] ∧ tryHds b = h₀ :: hds := by
  unfold isTryB at h
  split at h
  · rw [strEq_iff.mp h]
    exact ⟨_, _, _, _, _, _, _, _, rfl, rfl⟩
  · cases h
theorem tryat_mk {P : Program} {w : World} {K : PySem.W.Frag} {mg : Str → Option Value} {base : Heap} {t : Z.TI} {st : Stmt} {a n : Str} {Ng cs : List Str} (hl : Ng.length = t.n) (D : DefAt K mg t.nm st [a]) (Sg : FnScope Ng [a] (defScope st)) (h0 : Ng[0]? = some a) (hv : Vis (defScope st) a)
    (hb : isTryB a (defBody st) = true) (hi : Ng[t.i]? = some n) (hn : (defScope st).names.lookup n = some .local)
    (hh : ∀ (A : Around) (g : Addr) (cdg : Value), Room 2 A → A.guards = some [] → HsOk K mg Ng.length (fun outer s H => (cxOf C8.CX0 P w K mg base Ng t.nm (defScope st) g cdg A outer s H C8.E0).nox) n t.hs (tryHds (defBody st)))
    (hx : ExTab K mg cs) (hin : ∀ p ∈ t.hs, p.1 ∈ cs ∧ Indep Ng.length t.i p.2) (a1 : (a == ("__debug__" : Str)) = false) (a2 : (a == ("__classdict__" : Str)) = false) : TryAt P w K mg base t := by
  obtain ⟨h₀, hds, p1, p2, p3, p4, p5, p5', e1, e2⟩ := isTryB_ok hb
  refine ⟨st, a, n, Ng, cs, h₀, hds, p1, p2, p3, p4, p5, p5', hl, D, Sg, h0, hv, e1, hi, hn, fun A g cdg hr hg => ?_, hx, hin, a1, a2⟩
  rw [← e2]
  exact hh A g cdg hr hg
end Z
namespace Z
open PySem PySem.Spec PyProof.Rows L2
theorem fin_comp {P : Program} {w : World} {K : PySem.W.Frag} {mg : Str → Option Value} {base : Heap} {k : Nat} {x : Str} {ps : List Str} {g : FF} {fa : Addr} (h : zdOf P w K mg base ⟨x, k, true, ps, g⟩) (hm : mg x = some (.ref fa)) : ∃ fd, Binds K fd ps [] ∧ ZF true P w K mg base k fa fd ps g := by
  obtain ⟨⟨f, fd, h1, h2, h3, h4⟩, _⟩ := h
  have h1 : mg x = some (.ref f) := h1
  rw [hm] at h1
  cases h1
  exact ⟨fd, h3, h4⟩
end Z
namespace Z
open PySem PySem.Spec PyProof.Rows L2
theorem kok_none {K : PySem.W.Frag} {mg : Str → Option Value} : KOk K mg (fun _ _ => none) := fun _ _ _ h => by cases h
theorem all_cons_l {α : Type} {p : α → Prop} {l l' : List α} (e : l = l') (h : ∀ x ∈ l', p x) : ∀ x ∈ l, p x := by
  rw [e]; exact h
end Z
namespace Z
open PySem PySem.Spec PyProof.Rows L2
theorem tabIn_mk {K : PySem.W.Frag} {x : Str} {f c P : Addr} {oc oc2 : Value} {od od2 : Option Addr} {sl sl2 : Array (Option Value)} {fd : FuncData} {vs : Array Value} (a : PySem.W.nsIn K mainGlobals x = some (some (.ref f))) (l : K.lookup f = some ⟨oc, od, .func fd, sl⟩) (hc : fd.code = .ref c) (l2 : K.lookup c = some ⟨oc2, od2, .fields vs, sl2⟩) (hv : vs[11]? = some (.ref P)) : PySem.W.tabIn K x = some (c, P) := by
  unfold PySem.W.tabIn
  rw [a]
  dsimp only
  rw [l]
  dsimp only
  rw [hc]
  dsimp only
  rw [l2]
  dsimp only
  rw [hv]
end Z
namespace Z
open PySem PySem.Spec PyProof.Rows L2
theorem zd_compI {Γ : Gam} {P : Program} {w : World} {K : PySem.W.Frag} {mg : Str → Option Value} {base : Heap} {x : Str} {st : Stmt} {N ps : List Str} {h : HI} {f : FF} (T : DefAt K mg x st ps) (S : FnScope N ps (defScope st)) (G : GOk Γ P w K mg base) (TBs : h.lam = true → TabsB K mg base) (hx : h.lam = true → x ∈ lamNames) (hq : h.lam = true → ∀ (s : Shared) (fa : Addr) (cdv : Value), (envOfC x (defScope st) s.heap.objs.size fa cdv).qual ++ "<lambda>" = x ++ ".<locals>.<lambda>")
    (hc : cFn Γ N ps.length st h = some f) : zdOf P w K mg base ⟨x, h.k + 1, h.gd, ps, fIso f⟩ := by
  obtain ⟨a, b⟩ := zd_comp T S G TBs hx hq hc
  exact ⟨a.iso, fIso_len b⟩
end Z

/-! the pen of the laws, for all its numbers -/
namespace Zn
open PySem PySem.Spec L2 Z
theorem bind_ok {α β : Type} (a : α) (m : M) (k : α → M → R β) : (R.ok a m).bind k = k a m := rfl
theorem bind_err {α β : Type} (x : Xn) (m : M) (k : α → M → R β) : (R.err x m : R α).bind k = .err x m := rfl
theorem stm_ok {α : Type} (a : α) (m : M) (ρ : Rho) (k : α → M → Option (Fl × M)) : (R.ok a m).stm ρ k = k a m := rfl
theorem rget0 (x : Option D) (r : Rho) : rget (x :: r) 0 = x := rfl
theorem rgetS (x : Option D) (r : Rho) (i : Nat) : rget (x :: r) (i + 1) = rget r i := rfl
theorem var_ok {i : Nat} {ρ : Rho} {d : D} (h : rget ρ i = some d) (m : M) : fVar i ρ m = .ok d m := by unfold fVar; rw [h]
theorem eq_int {a b : Int} {m : M} : oEq (.int a) (.int b) m = .ok (.bl (decide (a = b))) m := by
  show (if (SeqAt.shaped (.int a) && SeqAt.shaped (.int b)) = true then R.ok (D.bl (PyData.eqv (.int a) (.int b))) m else .bad) = _
  rw [show PyData.eqv (.int a) (.int b) = decide (a = b) from rfl]
  rfl
theorem lt_int {a b : Int} {m : M} : oLt (.int a) (.int b) m = .ok (.bl (decide (a < b))) m := rfl
theorem gt_int {a b : Int} {m : M} : oGt (.int a) (.int b) m = .ok (.bl (decide (b < a))) m := rfl
theorem ge_int {a b : Int} {m : M} : oGe (.int a) (.int b) m = .ok (.bl (decide (b ≤ a))) m := rfl
theorem le_int {a b : Int} {m : M} : oLe (.int a) (.int b) m = .ok (.bl (decide (a ≤ b))) m := rfl
theorem add_int {a b : Int} {m : M} : oAdd (.int a) (.int b) m = .ok (.int (a + b)) m := rfl
theorem addU_int {a b : Int} {m : M} : oAddU (.int a) (.int b) m = .ok (.int (a + b)) m := rfl
theorem sub_int {a b : Int} {m : M} : oSub (.int a) (.int b) m = .ok (.int (a - b)) m := rfl
theorem mul_int {a b : Int} {m : M} (h : small64b b = true) : oMul (.int a) (.int b) m = .ok (.int (a * b)) m := by
  show (if (small64b a || small64b b) = true then R.ok (D.int (a * b)) m else .bad) = _
  rw [h, Bool.or_true]
  rfl
theorem mod_int {a b : Int} {m : M} (h : 0 < b) : oMod (.int a) (.int b) m = .ok (.int (a % b)) m := by
  show (if 0 < b then R.ok (D.int (a % b)) m else .bad) = _
  rw [if_pos h]
theorem div_int {a b : Int} {m : M} (h : 0 < b) (h2 : b < 1073741824) : oFdiv (.int a) (.int b) m = .ok (.int (a / b)) m := by
  show (if 0 < b ∧ b < 1073741824 then R.ok (D.int (a / b)) m else .bad) = _
  rw [if_pos ⟨h, h2⟩]
theorem pow_int {a b : Int} {m : M} (h : 0 ≤ b) (h2 : b ≤ 1000000) (h3 : a.natAbs < 2 ^ 64) : oPow (.int a) (.int b) m = .ok (.int (a ^ b.toNat)) m := by
  show (if 0 ≤ b ∧ b ≤ 1000000 ∧ a.natAbs < 2 ^ 64 then R.ok (D.int (a ^ b.toNat)) m else .bad) = _
  rw [if_pos ⟨h, h2, h3⟩]
theorem int_int {a : Int} {m : M} : bInt [.int a] m = .ok (.int a) m := rfl
theorem len_sl {xs : List D} {m : M} : bLen [.sl xs] m = .ok (.int xs.length) m := rfl
theorem len_tup {xs : List D} {m : M} : bLen [.tup xs] m = .ok (.int xs.length) m := rfl
def finR : Option (Fl × M) → R D
  | some (.nx _, m1) => .ok .non m1
  | some (.rt d, m1) => .ok d m1
  | some (.er x _, m1) => .err x m1
  | _ => .bad
theorem fn1 {ns : Nat} {b : SF} {x : D} {m : M} : fnF 1 ns b [x] m = finR (b (some x :: List.replicate (ns - 1) none) m) := rfl
theorem fn2 {ns : Nat} {b : SF} {x y : D} {m : M} : fnF 2 ns b [x, y] m = finR (b (some x :: some y :: List.replicate (ns - 2) none) m) := rfl
theorem fn3 {ns : Nat} {b : SF} {x y z : D} {m : M} : fnF 3 ns b [x, y, z] m = finR (b (some x :: some y :: some z :: List.replicate (ns - 3) none) m) := rfl
theorem fn4 {ns : Nat} {b : SF} {x y z u : D} {m : M} : fnF 4 ns b [x, y, z, u] m = finR (b (some x :: some y :: some z :: some u :: List.replicate (ns - 4) none) m) := rfl
theorem fin_nx {ρ : Rho} {m : M} : finR (some (.nx ρ, m)) = .ok .non m := rfl
theorem fin_rt {d : D} {m : M} : finR (some (.rt d, m)) = .ok d m := rfl
theorem fin_er {x : Xn} {ρ : Rho} {m : M} : finR (some (.er x ρ, m)) = .err x m := rfl
theorem ix_dic {m : M} {n : Nat} {kvs : List (D × D)} {y d : D} (h : m[n]? = some (.dic kvs)) (hf : keyFits kvs y = true) (hv : valD kvs y = some d) : oIx (.ref n) y m = .ok d m := by
  simp [oIx, h, hf, hv]
theorem ix_lst {m : M} {n : Nat} {xs : List D} {i : Int} {d : D} (h : m[n]? = some (.lst xs)) (hv : atD xs i = some d) : oIx (.ref n) (.int i) m = .ok d m := by
  simp [oIx, h, hv]
theorem ix_sl {m : M} {xs : List D} {i : Int} {d : D} (hv : atD xs i = some d) : oIx (.sl xs) (.int i) m = .ok d m := by
  simp [oIx, hv]
theorem ix_tup {m : M} {xs : List D} {i : Int} {d : D} (hv : atD xs i = some d) : oIx (.tup xs) (.int i) m = .ok d m := by
  simp [oIx, hv]
theorem st_dic {m : M} {n : Nat} {kvs : List (D × D)} {y v : D} (h : m[n]? = some (.dic kvs)) (hf : keyFits kvs y = true) (hl : kvs.length < line) : oSet (.ref n) y v m = some (m.set n (.dic (putD kvs y v))) := by
  simp [oSet, h, hf, hl]
theorem atD_get {xs : List D} {r : Int} (h1 : 0 ≤ r) (h2 : r < xs.length) : atD xs r = some (xs[r.toNat]'(by omega)) := by
  have hr : r.toNat < xs.length := by omega
  unfold atD ixD
  rw [if_pos h1, if_pos h2]
  exact List.getElem?_eq_getElem hr
theorem at_sl {cs : List Int} {a : Int} (h0 : 0 ≤ a) (h : a < cs.length) : ∃ c, cs[a.toNat]? = some c ∧ atD (cs.map D.int) a = some (.int c) := by
  have h1 : a.toNat < cs.length := by omega
  refine ⟨cs[a.toNat], List.getElem?_eq_getElem h1, ?_⟩
  unfold atD ixD
  rw [if_pos h0, List.length_map, if_pos h]
  show (cs.map D.int)[a.toNat]? = _
  rw [List.getElem?_map, List.getElem?_eq_getElem h1]
  rfl
/-! ### the pen's cell -/
abbrev penL (cs : List D) (a d k f : Int) : List (D × D) := [(.str "cells", .sl cs), (.str "at", .int a), (.str "digits", .int d), (.str "count", .int k), (.str "fold", .int f)]
abbrev penC (cs : List D) (a d k f : Int) : Cell := .dic (penL cs a d k f)
section
variable {m : M} {cs : List D} {a d k f : Int}
theorem ix_cells : oIx (.ref 0) (.str "cells") (penC cs a d k f :: m) = .ok (.sl cs) (penC cs a d k f :: m) := ix_dic rfl rfl rfl
theorem ix_at : oIx (.ref 0) (.str "at") (penC cs a d k f :: m) = .ok (.int a) (penC cs a d k f :: m) := ix_dic rfl rfl rfl
theorem ix_digits : oIx (.ref 0) (.str "digits") (penC cs a d k f :: m) = .ok (.int d) (penC cs a d k f :: m) := ix_dic rfl rfl rfl
theorem ix_count : oIx (.ref 0) (.str "count") (penC cs a d k f :: m) = .ok (.int k) (penC cs a d k f :: m) := ix_dic rfl rfl rfl
theorem ix_fold : oIx (.ref 0) (.str "fold") (penC cs a d k f :: m) = .ok (.int f) (penC cs a d k f :: m) := ix_dic rfl rfl rfl
theorem set_at {v : Int} : oSet (.ref 0) (.str "at") (.int v) (penC cs a d k f :: m) = some (penC cs v d k f :: m) := st_dic (kvs := penL cs a d k f) rfl rfl (by show 5 < 16777216; decide)
theorem set_digits {v : Int} : oSet (.ref 0) (.str "digits") (.int v) (penC cs a d k f :: m) = some (penC cs a v k f :: m) := st_dic (kvs := penL cs a d k f) rfl rfl (by show 5 < 16777216; decide)
theorem set_count {v : Int} : oSet (.ref 0) (.str "count") (.int v) (penC cs a d k f :: m) = some (penC cs a d v f :: m) := st_dic (kvs := penL cs a d k f) rfl rfl (by show 5 < 16777216; decide)
theorem set_fold {v : Int} : oSet (.ref 0) (.str "fold") (.int v) (penC cs a d k f :: m) = some (penC cs a d k v :: m) := st_dic (kvs := penL cs a d k f) rfl rfl (by show 5 < 16777216; decide)
end
/-- the draw's beginning: a cell is taken up -/
def drawHead (A MD : Int) : SF := sIf (tAndF (tVal (eBin oEq (eBin oIx (fVar 0) (eCon (.str "digits"))) (eCon (.int 0)))) (tVal (eBin oLt (eBin oIx (fVar 0) (eCon (.str "at"))) (eBlt bLen (aCons (eBin oIx (fVar 0) (eCon (.str "cells"))) aNil))))) (sSeq (sSet 3 (eBin oIx (eBin oIx (fVar 0) (eCon (.str "cells"))) (eBin oIx (fVar 0) (eCon (.str "at")))))
  (sSeq (sAsg (eBin oAddU (eBin oIx (fVar 0) (eCon (.str "at"))) (eCon (.int 1))) (gSubZ (fVar 0) (eCon (.str "at"))))
  (sIf (tVal (eBin oGe (fVar 3) (eBin oPow (eCon (.int 10)) (eCon (.int 18))))) (sAsg (eBin oSub (fVar 3) (eBin oPow (eCon (.int 10)) (eCon (.int 18)))) (gSubZ (fVar 0) (eCon (.str "digits")))) (sAsg (eBin oMod (eBlt bInt (aCons (eBin oAddU (eBin oMul (eBin oIx (fVar 0) (eCon (.str "fold"))) (eCon (.int A))) (fVar 3)) aNil)) (eCon (.int MD))) (gSubZ (fVar 0) (eCon (.str "fold"))))))) sNil
def drawCnt : SF := sAsg (eBin oAddU (eBin oIx (fVar 0) (eCon (.str "count"))) (eCon (.int 1))) (gSubZ (fVar 0) (eCon (.str "count")))
def drawDig : SF := sIf (tVal (eBin oGt (eBin oIx (fVar 0) (eCon (.str "digits"))) (eCon (.int 0)))) (sSeq (sSet 4 (eBin oMod (eBlt bInt (aCons (eBin oIx (fVar 0) (eCon (.str "digits"))) aNil)) (fVar 1)))
  (sSeq (sAsg (eBin oFdiv (eBin oIx (fVar 0) (eCon (.str "digits"))) (fVar 1)) (gSubZ (fVar 0) (eCon (.str "digits"))))
  (sRet (fVar 4)))) sNil
def drawBlend (B C E V : Int) : SF := sSeq (sSet 2 (eBin oAddU (eBin oAddU (eBin oIx (fVar 0) (eCon (.str "fold"))) (eBin oMul (eBin oIx (fVar 0) (eCon (.str "count"))) (eCon (.int B)))) (eCon (.int C))))
  (sRet (eBin oMod (eBin oFdiv (eBlt bInt (aCons (eBin oMod (eBin oPow (fVar 2) (eCon (.int E))) (eCon (.int 2305843009213693951))) aNil)) (eCon (.int V))) (fVar 1)))
def drawF (A MD B C E V : Int) : FF := fnF 2 5 (sSeq drawCnt (sSeq (drawHead A MD) (sSeq drawDig (drawBlend B C E V))))
/-- the pen behind n draws -/
def Pen (n : Int) (c : Cell) : Prop := ∃ (cs : List Int) (a d k f : Int), c = penC (cs.map .int) a d k f ∧ 0 ≤ a ∧ 0 ≤ d ∧ 0 ≤ k ∧ k ≤ n ∧ 0 ≤ f ∧ f < 2147483648
theorem Pen.mono {n n' : Int} {c : Cell} (h : Pen n c) (hn : n ≤ n') : Pen n' c := by
  obtain ⟨cs, a, d, k, f, e, h1, h2, h3, h4, h5⟩ := h
  exact ⟨cs, a, d, k, f, e, h1, h2, h3, by omega, h5⟩
def DrawOk (dr : FF) : Prop := ∀ (n many : Int) (c : Cell) (rest : M), Pen n c → n ≤ 1000000 → 0 < many → many < 1073741824 → ∃ r c', 0 ≤ r ∧ r < many ∧ Pen (n + 1) c' ∧ dr [.ref 0, .int many] (c :: rest) = .ok (.int r) (c' :: rest)
theorem cnt_ok {cs : List D} {a d k f many : Int} {m : M} {x2 x3 x4 : Option D} : drawCnt [some (.ref 0), some (.int many), x2, x3, x4] (penC cs a d k f :: m) = some (.nx [some (.ref 0), some (.int many), x2, x3, x4], penC cs a d (k + 1) f :: m) := by
  simp only [drawCnt, sAsg, eBin, fVar, rget0, eCon, gSubZ, bind_ok, stm_ok, ix_count, addU_int, set_count, Option.map_some]
theorem head_ok {A MD : Int} (hA : small64b A = true) (hM : 0 < MD) (hM2 : MD < 2147483648) {cs : List Int} {a d k f many : Int} {m : M} {x2 x3 x4 : Option D} (ha : 0 ≤ a) (hd : 0 ≤ d) (hf : 0 ≤ f) (hf2 : f < 2147483648) :
    ∃ a' d' f' y3, 0 ≤ a' ∧ 0 ≤ d' ∧ 0 ≤ f' ∧ f' < 2147483648 ∧ drawHead A MD [some (.ref 0), some (.int many), x2, x3, x4] (penC (cs.map .int) a d k f :: m) = some (.nx [some (.ref 0), some (.int many), x2, y3, x4], penC (cs.map .int) a' d' k f' :: m) := by
  have pw : ∀ m : M, oPow (.int 10) (.int 18) m = .ok (.int (10 ^ 18)) m := fun _ => rfl
  have ml : ∀ (x : Int) (m : M), oMul (.int x) (.int A) m = .ok (.int (x * A)) m := fun _ _ => mul_int hA
  have md : ∀ (x : Int) (m : M), oMod (.int x) (.int MD) m = .ok (.int (x % MD)) m := fun _ _ => mod_int hM
  by_cases h1 : d = 0 ∧ a < cs.length
  · obtain ⟨c, hc, hc2⟩ := at_sl ha h1.2
    by_cases h2 : (10 : Int) ^ 18 ≤ c
    · refine ⟨a + 1, c - 10 ^ 18, f, some (.int c), by omega, by omega, hf, hf2, ?_⟩
      simp only [drawHead, sSeq, sAsg, sIf, sSet, tAndF, tVal, eBin, eBlt, aCons, aNil, fVar, rget0, rgetS, eCon, gSubZ, bind_ok, stm_ok, ix_digits, ix_at, ix_cells, ix_fold, eq_int, lt_int, ge_int, len_sl, List.length_map, h1.1, h1.2, decide_true, if_true, ix_sl hc2, addU_int, set_at, Option.map_some, List.set_cons_zero, List.set_cons_succ, pw, h2, sub_int, set_digits]
    · refine ⟨a + 1, d, (f * A + c) % MD, some (.int c), by omega, hd, Int.emod_nonneg _ (by omega), by have := Int.emod_lt_of_pos (f * A + c) hM; omega, ?_⟩
      simp only [drawHead, sSeq, sAsg, sIf, sSet, tAndF, tVal, eBin, eBlt, aCons, aNil, fVar, rget0, rgetS, eCon, gSubZ, bind_ok, stm_ok, ix_digits, ix_at, ix_cells, ix_fold, eq_int, lt_int, ge_int, len_sl, List.length_map, h1.1, h1.2, decide_true, if_true, ix_sl hc2, addU_int, set_at, Option.map_some, List.set_cons_zero, List.set_cons_succ, pw, h2, decide_false, Bool.false_eq_true, if_false, ml, int_int, md, set_fold]
  · refine ⟨a, d, f, x3, ha, hd, hf, hf2, ?_⟩
    by_cases h2 : d = 0
    · have h3 : ¬ (a < (cs.length : Int)) := fun h => h1 ⟨h2, h⟩
      simp only [drawHead, sSeq, sAsg, sIf, sNil, tAndF, tVal, eBin, eBlt, aCons, aNil, fVar, rget0, eCon, bind_ok, stm_ok, ix_digits, ix_at, ix_cells, eq_int, lt_int, len_sl, List.length_map, h2, h3, decide_true, decide_false, if_true, Bool.false_eq_true, if_false]
    · simp only [drawHead, sSeq, sAsg, sIf, sNil, tAndF, tVal, eBin, eBlt, aCons, aNil, fVar, rget0, eCon, bind_ok, stm_ok, ix_digits, eq_int, h2, decide_false, Bool.false_eq_true, if_false]
theorem drawOk {A MD B C E V : Int} (hA : small64b A = true) (hM : 0 < MD) (hM2 : MD < 2147483648) (hB : small64b B = true) (hB1 : 0 ≤ B) (hB2 : B < 1000000) (hC : 0 ≤ C) (hC2 : C < 1000000) (hE : 0 ≤ E) (hE2 : E ≤ 1000000) (hV : 0 < V) (hV2 : V < 1073741824) : DrawOk (drawF A MD B C E V) := by
  intro n many c m hp hn hm hm2
  obtain ⟨cs, a, d, k, f, rfl, ha, hd, hk, hkn, hf, hf2⟩ := hp
  obtain ⟨a1, d1, f1, y3, b1, b2, b3, b4, e⟩ := head_ok (k := k + 1) (m := m) (x2 := none) (x3 := none) (x4 := none) (many := many) (cs := cs) hA hM hM2 ha hd hf hf2
  have pw : ∀ m : M, oPow (.int (f1 + (k + 1) * B + C)) (.int E) m = .ok (.int ((f1 + (k + 1) * B + C) ^ E.toNat)) m := fun m => pow_int hE hE2 (by
    have q1 : 0 ≤ (k + 1) * B := Int.mul_nonneg (by omega) hB1
    have q2 : (k + 1) * B ≤ 1000001 * 1000000 := Int.mul_le_mul (by omega) (by omega) hB1 (by omega)
    omega)
  have ml : ∀ (x : Int) (m : M), oMul (.int x) (.int B) m = .ok (.int (x * B)) m := fun _ _ => mul_int hB
  have md : ∀ (x : Int) (m : M), oMod (.int x) (.int 2305843009213693951) m = .ok (.int (x % 2305843009213693951)) m := fun _ _ => mod_int (by decide)
  have dv : ∀ (x : Int) (m : M), oFdiv (.int x) (.int V) m = .ok (.int (x / V)) m := fun _ _ => div_int hV hV2
  by_cases h : 0 < d1
  · refine ⟨d1 % many, penC (cs.map .int) a1 (d1 / many) (k + 1) f1, Int.emod_nonneg _ (by omega), Int.emod_lt_of_pos _ hm, ⟨cs, a1, d1 / many, k + 1, f1, rfl, b1, Int.ediv_nonneg b2 (by omega), by omega, by omega, b3, b4⟩, ?_⟩
    unfold drawF
    rw [fn2]
    simp only [sSeq, List.replicate_succ, List.replicate_zero, Nat.reduceSub, cnt_ok, e]
    simp only [drawDig, drawBlend, sSeq, sAsg, sIf, sSet, sRet, tVal, eBin, eBlt, aCons, aNil, fVar, rget0, rgetS, eCon, gSubZ, bind_ok, stm_ok, ix_digits, gt_int, h, decide_true, if_true, int_int, mod_int hm, List.set_cons_zero, List.set_cons_succ, div_int hm hm2, set_digits, Option.map_some, fin_rt]
  · refine ⟨(f1 + (k + 1) * B + C) ^ E.toNat % 2305843009213693951 / V % many, penC (cs.map .int) a1 d1 (k + 1) f1, Int.emod_nonneg _ (by omega), Int.emod_lt_of_pos _ hm, ⟨cs, a1, d1, k + 1, f1, rfl, b1, b2, by omega, by omega, b3, b4⟩, ?_⟩
    unfold drawF
    rw [fn2]
    simp only [sSeq, List.replicate_succ, List.replicate_zero, Nat.reduceSub, cnt_ok, e]
    simp only [drawDig, drawBlend, sSeq, sAsg, sIf, sSet, sRet, sNil, tVal, eBin, eBlt, aCons, aNil, fVar, rget0, rgetS, eCon, gSubZ, bind_ok, stm_ok, ix_digits, ix_fold, ix_count, gt_int, h, decide_false, Bool.false_eq_true, if_false, int_int, mod_int hm, List.set_cons_zero, List.set_cons_succ, ml, addU_int, pw, md, dv, fin_rt]
/-! ### the pen made -/
def penB (A MD : Int) : SF := (sSet 1 (eBin oMod (eBlt bInt (aCons (eBin oAddU (eBin oMul (fVar 1) (eCon (.int A))) (fVar 2)) aNil)) (eCon (.int MD))))
def penF (A MD : Int) : FF := fnF 1 3 (sSeq (sSet 1 (eCon (.int 0)))
  (sSeq (fFor (wAny (fVar 0)) (gNm 2) (penB A MD))
  (sRet (eDisp [((eCon (.str "cells")), (eBlt bListS (aCons (fVar 0) aNil))), ((eCon (.str "at")), (eCon (.int 0))), ((eCon (.str "digits")), (eCon (.int 0))), ((eCon (.str "count")), (eCon (.int 0))), ((eCon (.str "fold")), (fVar 1))]))))
theorem fold_ok {A MD : Int} (hA : small64b A = true) (hM : 0 < MD) (hM2 : MD < 2147483648) (x0 : Option D) : ∀ (ns : List Int) (f : Int) (x2 : Option D), 0 ≤ f → f < 2147483648 → ∃ f' x2', 0 ≤ f' ∧ f' < 2147483648 ∧ forL (gNm 2) (penB A MD) (ns.map .int) [x0, some (.int f), x2] [] = some (.nx [x0, some (.int f'), x2'], [])
  | [], f, x2, h1, h2 => ⟨f, x2, h1, h2, rfl⟩
  | n :: ns, f, x2, h1, h2 => by
    obtain ⟨f', x2', a, b, e⟩ := fold_ok hA hM hM2 x0 ns ((f * A + n) % MD) (some (.int n)) (Int.emod_nonneg _ (by omega)) (by have := Int.emod_lt_of_pos (f * A + n) hM; omega)
    refine ⟨f', x2', a, b, ?_⟩
    rw [← e]
    have ml : ∀ (x : Int) (m : M), oMul (.int x) (.int A) m = .ok (.int (x * A)) m := fun _ _ => mul_int hA
    have md : ∀ (x : Int) (m : M), oMod (.int x) (.int MD) m = .ok (.int (x % MD)) m := fun _ _ => mod_int hM
    have q : penB A MD [x0, some (.int f), some (.int n)] [] = some (.nx [x0, some (.int ((f * A + n) % MD)), some (.int n)], []) := by
      simp only [penB, sSet, eBin, eBlt, aCons, aNil, fVar, rget0, rgetS, eCon, bind_ok, stm_ok, ml, addU_int, int_int, md, List.set_cons_zero, List.set_cons_succ]
    show (match penB A MD [x0, some (.int f), some (.int n)] [] with
      | some (.nx ρ1, m1) => forL (gNm 2) (penB A MD) (ns.map .int) ρ1 m1
      | some (.ct ρ1, m1) => forL (gNm 2) (penB A MD) (ns.map .int) ρ1 m1
      | some (.bk ρ1, m1) => some (.nx ρ1, m1)
      | some (.rt d, m1) => some (.rt d, m1)
      | some (.er x ρ1, m1) => some (.er x ρ1, m1)
      | none => none) = _
    rw [q]
theorem penOk {A MD : Int} (hA : small64b A = true) (hM : 0 < MD) (hM2 : MD < 2147483648) (ns : List Int) : ∃ c, Pen 0 c ∧ penF A MD [.fl (ns.map .int)] [] = .ok (.ref 0) [c] := by
  obtain ⟨f', x2', a, b, e⟩ := fold_ok hA hM hM2 (some (.fl (ns.map .int))) ns 0 none (by decide) (by decide)
  refine ⟨penC (ns.map .int) 0 0 0 f', ⟨ns, 0, 0, 0, f', rfl, by decide, by decide, by decide, by decide, a, b⟩, ?_⟩
  unfold penF
  rw [fn1]
  have e1 : ∀ m : M, bListS [.fl (ns.map .int)] m = .ok (.sl (ns.map .int)) m := fun _ => rfl
  have e2 : ∀ (ρ : Rho) (m : M), fFor (wAny (fVar 0)) (gNm 2) (penB A MD) (some (.fl (ns.map .int)) :: ρ) m = forL (gNm 2) (penB A MD) (ns.map .int) (some (.fl (ns.map .int)) :: ρ) m := fun _ _ => rfl
  simp only [sSeq, sSet, eCon, stm_ok, List.set_cons_zero, List.set_cons_succ, List.replicate_succ, List.replicate_zero, Nat.reduceSub, e2, e]
  simp only [sRet, eDisp, aPairs, eCon, fVar, rget0, rgetS, eBlt, aCons, aNil, bind_ok, stm_ok, e1]
  rfl
theorem pickOk {dr : FF} (hd : DrawOk dr) {xs : List D} {n : Int} {c : Cell} {rest : M} (h : Pen n c) (hn : n ≤ 1000000) (h0 : 0 < xs.length) (h1 : xs.length < 1000000) :
    ∃ d c', d ∈ xs ∧ Pen (n + 1) c' ∧ fnF 2 2 (sRet (eBin oIx (fVar 1) (eBlt dr (aCons (fVar 0) (aCons (eBlt bLen (aCons (fVar 1) aNil)) aNil))))) [.ref 0, .sl xs] (c :: rest) = .ok d (c' :: rest) := by
  obtain ⟨r, c', r0, r1, h2, e⟩ := hd n xs.length c rest h hn (by omega) (by omega)
  have hr : r.toNat < xs.length := by omega
  refine ⟨xs[r.toNat], c', List.getElem_mem hr, h2, ?_⟩
  rw [fn2]
  simp only [sRet, eBin, eBlt, aCons, aNil, fVar, rget0, rgetS, bind_ok, stm_ok, len_sl, e, ix_sl (atD_get r0 r1), fin_rt]
end Zn

/-! plain data, logs -/
namespace Zn
open PySem PySem.Spec L2 Z
theorem lineN : line = 16777216 := rfl
theorem le0 : (([] : List D).length ≤ line) = True := eq_true (by show 0 ≤ 16777216; decide)
theorem le1 {x0 : D} : (([x0] : List D).length ≤ line) = True := eq_true (by show 1 ≤ 16777216; decide)
theorem le2 {x0 x1 : D} : (([x0, x1] : List D).length ≤ line) = True := eq_true (by show 2 ≤ 16777216; decide)
theorem le3 {x0 x1 x2 : D} : (([x0, x1, x2] : List D).length ≤ line) = True := eq_true (by show 3 ≤ 16777216; decide)
theorem le4 {x0 x1 x2 x3 : D} : (([x0, x1, x2, x3] : List D).length ≤ line) = True := eq_true (by show 4 ≤ 16777216; decide)
theorem le5 {x0 x1 x2 x3 x4 : D} : (([x0, x1, x2, x3, x4] : List D).length ≤ line) = True := eq_true (by show 5 ≤ 16777216; decide)
theorem le6 {x0 x1 x2 x3 x4 x5 : D} : (([x0, x1, x2, x3, x4, x5] : List D).length ≤ line) = True := eq_true (by show 6 ≤ 16777216; decide)
theorem le7 {x0 x1 x2 x3 x4 x5 x6 : D} : (([x0, x1, x2, x3, x4, x5, x6] : List D).length ≤ line) = True := eq_true (by show 7 ≤ 16777216; decide)
theorem le8 {x0 x1 x2 x3 x4 x5 x6 x7 : D} : (([x0, x1, x2, x3, x4, x5, x6, x7] : List D).length ≤ line) = True := eq_true (by show 8 ≤ 16777216; decide)
theorem le9 {x0 x1 x2 x3 x4 x5 x6 x7 x8 : D} : (([x0, x1, x2, x3, x4, x5, x6, x7, x8] : List D).length ≤ line) = True := eq_true (by show 9 ≤ 16777216; decide)
theorem le10 {x0 x1 x2 x3 x4 x5 x6 x7 x8 x9 : D} : (([x0, x1, x2, x3, x4, x5, x6, x7, x8, x9] : List D).length ≤ line) = True := eq_true (by show 10 ≤ 16777216; decide)
theorem le11 {x0 x1 x2 x3 x4 x5 x6 x7 x8 x9 x10 : D} : (([x0, x1, x2, x3, x4, x5, x6, x7, x8, x9, x10] : List D).length ≤ line) = True := eq_true (by show 11 ≤ 16777216; decide)
theorem toPs_map {α : Type} {f : D → Option PyData} {g : α → D} {h : α → PyData} (H : ∀ x, f (g x) = some (h x)) : ∀ l : List α, toPs f (l.map g) = some (l.map h)
  | [] => rfl
  | x :: l => by
    show (match f (g x), toPs f (l.map g) with | some p, some ps => some (p :: ps) | _, _ => none) = _
    rw [H x, toPs_map H l]
    rfl
/-- a value that is plain data, of depth n at most -/
structure Pl (n : Nat) (d : D) (p : PyData) : Prop where
  to : ∀ m, toP (n + 1) m d = some p
  lay : p.canLay0 = true
  dep : p.depth ≤ n
theorem toP_up : ∀ (n k : Nat) (m : M) (d : D) (p : PyData), toP n m d = some p → toP (n + k) m d = some p
  | 0, _, _, _, _, h => by cases h
  | n + 1, k, m, d, p, h => by
    have hs : ∀ (xs : List D) (ps : List PyData), toPs (toP n m) xs = some ps → toPs (toP (n + k) m) xs = some ps := by
      intro xs
      induction xs with
      | nil => intro ps h; exact h
      | cons x xs ih =>
        intro ps h
        unfold toPs at h ⊢
        cases q : toP n m x with
        | none => rw [q] at h; cases h
        | some y =>
          rw [q] at h
          rw [toP_up n k m x y q]
          cases q2 : toPs (toP n m) xs with
          | none => rw [q2] at h; cases h
          | some ys =>
            rw [q2] at h
            rw [ih ys q2]
            exact h
    rw [show n + 1 + k = (n + k) + 1 by omega]
    have hm : ∀ (xs : List D) (c : List PyData → PyData), (toPs (toP n m) xs).map c = some p → (toPs (toP (n + k) m) xs).map c = some p := by
      intro xs c h
      obtain ⟨ps, h1, h2⟩ := Option.map_eq_some_iff.mp h
      rw [hs xs ps h1, ← h2]
      rfl
    cases d with
    | tup xs => exact hm xs _ h
    | fl xs => exact hm xs _ h
    | sl xs => exact hm xs _ h
    | kt xs => exact hm xs _ h
    | ref a =>
      have h : (match m[a]? with | some (.lst xs) => (toPs (toP n m) xs).map PyData.list | _ => none) = some p := h
      show (match m[a]? with | some (.lst xs) => (toPs (toP (n + k) m) xs).map PyData.list | _ => none) = some p
      split at h
      · exact hm _ _ h
      · cases h
    | _ => exact h
theorem Pl.to24 {n : Nat} {d : D} {p : PyData} (h : Pl n d p) (hn : n ≤ 23) (m : M) : toP deepest m d = some p := by
  have := toP_up (n + 1) (23 - n) m d p (h.to m)
  rw [show n + 1 + (23 - n) = deepest by unfold deepest; omega] at this
  exact this
theorem Pl.up {n k : Nat} {d : D} {p : PyData} (h : Pl n d p) (hk : n ≤ k) : Pl k d p := ⟨fun m => by
  have := toP_up (n + 1) (k - n) m d p (h.to m)
  rw [show n + 1 + (k - n) = k + 1 by omega] at this
  exact this, h.lay, Nat.le_trans h.dep hk⟩
theorem Pl.shaped {n : Nat} {d : D} {p : PyData} (h : Pl n d p) (hn : n ≤ 23) : SeqAt.shaped p = true := by
  unfold SeqAt.shaped
  rw [h.lay, decide_eq_true (by have := h.dep; omega)]
  rfl
theorem pl_non : Pl 0 .non .none := ⟨fun _ => rfl, rfl, Nat.le_refl _⟩
theorem pl_bl (b : Bool) : Pl 0 (.bl b) (.bool b) := ⟨fun _ => rfl, rfl, Nat.le_refl _⟩
theorem pl_int (i : Int) : Pl 0 (.int i) (.int i) := ⟨fun _ => rfl, rfl, Nat.le_refl _⟩
theorem pl_str {s : Str} (h : PyData.strOk s = true) : Pl 0 (.str s) (.str s) := ⟨fun _ => rfl, h, Nat.le_refl _⟩
inductive Pls (n : Nat) : List D → List PyData → Prop
  | nil : Pls n [] []
  | cons {d p ds ps} : Pl n d p → Pls n ds ps → Pls n (d :: ds) (p :: ps)
theorem Pls.to {n : Nat} : ∀ {ds : List D} {ps : List PyData}, Pls n ds ps → (∀ m, toPs (toP (n + 1) m) ds = some ps) ∧ PyData.canLayAll0 ps = true ∧ PyData.depthAll ps ≤ n
  | _, _, .nil => ⟨fun _ => rfl, rfl, Nat.zero_le _⟩
  | _, _, .cons (ds := ds) (ps := ps) h r => by
    obtain ⟨a, b, c⟩ := Pls.to r
    refine ⟨fun m => ?_, ?_, ?_⟩
    · unfold toPs
      rw [h.to m, a m]
    · rw [PyData.canLayAll0, h.lay, b]; rfl
    · rw [PyData.depthAll]
      exact Nat.max_le.mpr ⟨h.dep, c⟩
theorem Pls.app {n : Nat} : ∀ {ds es : List D} {ps qs : List PyData}, Pls n ds ps → Pls n es qs → Pls n (ds ++ es) (ps ++ qs)
  | _, _, _, _, .nil, h => h
  | _, _, _, _, .cons h r, h2 => .cons h (r.app h2)
theorem Pls.map {α : Type} {n : Nat} {g : α → D} {f : α → PyData} (H : ∀ x, Pl n (g x) (f x)) : ∀ l : List α, Pls n (l.map g) (l.map f)
  | [] => .nil
  | x :: l => .cons (H x) (Pls.map H l)
theorem Pls.rep {n : Nat} {d : D} {p : PyData} (h : Pl n d p) : ∀ k, Pls n (List.replicate k d) (List.replicate k p)
  | 0 => .nil
  | k + 1 => .cons h (Pls.rep h k)
theorem pl_tup {n : Nat} {ds : List D} {ps : List PyData} (h : Pls n ds ps) : Pl (n + 1) (.tup ds) (.tuple ps) := by
  obtain ⟨a, b, c⟩ := h.to
  exact ⟨fun m => by
    show (toPs (toP (n + 1) m) ds).map PyData.tuple = _
    rw [a m]; rfl, b, Nat.succ_le_succ c⟩
theorem pl_sl {n : Nat} {ds : List D} {ps : List PyData} (h : Pls n ds ps) : Pl (n + 1) (.sl ds) (.list ps) := by
  obtain ⟨a, b, c⟩ := h.to
  exact ⟨fun m => by
    show (toPs (toP (n + 1) m) ds).map PyData.list = _
    rw [a m]; rfl, b, Nat.succ_le_succ c⟩
section
variable {n k : Nat} {x y : D} {p q : PyData}
theorem eq_pl (hx : Pl n x p) (hy : Pl k y q) (hn : n ≤ 23) (hk : k ≤ 23) (m : M) : oEq x y m = .ok (.bl (PyData.eqv p q)) m := by
  unfold oEq
  rw [hx.to24 hn, hy.to24 hk]
  dsimp only
  rw [hx.shaped hn, hy.shaped hk]
  rfl
theorem ne_pl (hx : Pl n x p) (hy : Pl k y q) (hn : n ≤ 23) (hk : k ≤ 23) (m : M) : oNe x y m = .ok (.bl (!PyData.eqv p q)) m := by
  unfold oNe
  rw [hx.to24 hn, hy.to24 hk]
  dsimp only
  rw [hx.shaped hn, hy.shaped hk]
  rfl
theorem eq_self (hx : Pl n x p) (hn : n ≤ 23) (m : M) : oEq x x m = .ok (.bl true) m := by
  rw [eq_pl hx hx hn hn, PySem.SeqAt.eqv_refl _ hx.lay]
theorem ne_self (hx : Pl n x p) (hn : n ≤ 23) (m : M) : oNe x x m = .ok (.bl false) m := by
  rw [ne_pl hx hx hn hn, PySem.SeqAt.eqv_refl _ hx.lay]
  rfl
/-- a list cell that holds plain data -/
theorem ne_lst {m : M} {a : Nat} {ds es : List D} {ps : List PyData} (h : m[a]? = some (.lst ds)) (hd : Pls n ds ps) (he : ds = es) (hn : n ≤ 22) : oNe (.ref a) (.sl es) m = .ok (.bl false) m := by
  subst he
  have e : toP deepest m (.ref a) = some (.list ps) := by
    obtain ⟨b, c, d⟩ := hd.to
    have q : toP (n + 1 + 1) m (.ref a) = some (.list ps) := by
      show (match m[a]? with | some (.lst xs) => (toPs (toP (n + 1) m) xs).map PyData.list | _ => none) = _
      rw [h]
      dsimp only
      rw [b m]
      rfl
    have := toP_up (n + 1 + 1) (22 - n) m _ _ q
    rw [show n + 1 + 1 + (22 - n) = deepest by unfold deepest; omega] at this
    exact this
  have hp := pl_sl hd
  unfold oNe
  rw [e, hp.to24 (by omega)]
  dsimp only
  rw [hp.shaped (by omega), PySem.SeqAt.eqv_refl _ hp.lay]
  rfl
end
theorem noRefs_map {α : Type} {g : α → D} (h : ∀ x, noRef (g x) = true) : ∀ l : List α, noRefs (l.map g) = true
  | [] => rfl
  | x :: l => by
    show (match noRef (g x) with | true => noRefs (l.map g) | false => false) = true
    rw [h x]
    exact noRefs_map h l
theorem noRefs_c {d : D} {ds : List D} (h : noRef d = true) (h2 : noRefs ds = true) : noRefs (d :: ds) = true := by
  show (match noRef d with | true => noRefs ds | false => false) = true
  rw [h]
  exact h2
theorem noRefs_app : ∀ {ds es : List D}, noRefs ds = true → noRefs es = true → noRefs (ds ++ es) = true
  | [], _, _, h => h
  | d :: ds, es, h, h2 => noRefs_c (noRefs_cons h).1 (noRefs_app (noRefs_cons h).2 h2)
theorem iso_ok {g : FF} {ds : List D} {d : D} {m m1 : M} (h : noRefs ds = true) (e : g ds [] = .ok d m1) (hd : noRef d = true) : fIso g ds m = .ok d m := by
  unfold fIso
  rw [h, e]
  dsimp only
  rw [hd]
theorem iso_err {g : FF} {ds : List D} {x : Xn} {m m1 : M} (h : noRefs ds = true) (e : g ds [] = .err x m1) (hd : noRefF x.fs = true) : fIso g ds m = .err x m := by
  unfold fIso
  rw [h, e]
  dsimp only
  rw [hd]
/-! ### built-ins -/
theorem sub_tt : subTy "tuple" "tuple" = some true := by decide +kernel
theorem sub_lt : subTy "list" "tuple" = some false := by decide +kernel
theorem sub_nt : subTy "NoneType" "tuple" = some false := by decide +kernel
theorem sub_it : subTy "int" "tuple" = some false := by decide +kernel
theorem sub_ii : subTy "int" "int" = some true := by decide +kernel
theorem sub_ib : subTy "int" "bool" = some false := by decide +kernel
theorem isi_tt {xs : List D} {m : M} : bIsi [.tup xs, .ty "tuple"] m = .ok (.bl true) m := by
  show (match subTy "tuple" "tuple" with | some r => R.ok (D.bl r) m | none => .bad) = _
  rw [sub_tt]
theorem isi_lt {xs : List D} {m : M} : bIsi [.sl xs, .ty "tuple"] m = .ok (.bl false) m := by
  show (match subTy "list" "tuple" with | some r => R.ok (D.bl r) m | none => .bad) = _
  rw [sub_lt]
theorem isi_nt {m : M} : bIsi [.non, .ty "tuple"] m = .ok (.bl false) m := by
  show (match subTy "NoneType" "tuple" with | some r => R.ok (D.bl r) m | none => .bad) = _
  rw [sub_nt]
theorem isi_ii {i : Int} {m : M} : bIsi [.int i, .ty "int"] m = .ok (.bl true) m := by
  show (match subTy "int" "int" with | some r => R.ok (D.bl r) m | none => .bad) = _
  rw [sub_ii]
theorem isi_ib {i : Int} {m : M} : bIsi [.int i, .ty "bool"] m = .ok (.bl false) m := by
  show (match subTy "int" "bool" with | some r => R.ok (D.bl r) m | none => .bad) = _
  rw [sub_ib]
end Zn

namespace K01
open PySem PySem.Spec PyProof.Rows L2 Z
def topS (i : Nat) : Stmt := PySem.Challenge.pw_notednames_k01_whole_logs.main.body.getD i (.Pass ⟨0, 0, 0, 0⟩)

abbrev sc_BadText : Stmt := inClass (topS 4) 0
theorem i_BadText : FnScope ["self", "line", "column"] ["self", "line", "column"] (defScope sc_BadText) := ⟨rfl, rfl, rfl, by decide +kernel, rfl, by decide +kernel, by decide +kernel⟩

abbrev sc_BadNumber : Stmt := inClass (topS 5) 0
theorem i_BadNumber : FnScope ["self", "what", "number"] ["self", "what", "number"] (defScope sc_BadNumber) := ⟨rfl, rfl, rfl, by decide +kernel, rfl, by decide +kernel, by decide +kernel⟩

abbrev sc_BadName : Stmt := inClass (topS 6) 0
theorem i_BadName : FnScope ["self", "name"] ["self", "name"] (defScope sc_BadName) := ⟨rfl, rfl, rfl, by decide +kernel, rfl, by decide +kernel, by decide +kernel⟩

abbrev sc_NoName : Stmt := inClass (topS 7) 0
theorem i_NoName : FnScope ["self", "name"] ["self", "name"] (defScope sc_NoName) := ⟨rfl, rfl, rfl, by decide +kernel, rfl, by decide +kernel, by decide +kernel⟩

abbrev sc_BadKinds : Stmt := inClass (topS 8) 0
theorem i_BadKinds : FnScope ["self", "kinds"] ["self", "kinds"] (defScope sc_BadKinds) := ⟨rfl, rfl, rfl, by decide +kernel, rfl, by decide +kernel, by decide +kernel⟩

abbrev sc_BadLog : Stmt := inClass (topS 9) 0
theorem i_BadLog : FnScope ["self", "log"] ["self", "log"] (defScope sc_BadLog) := ⟨rfl, rfl, rfl, by decide +kernel, rfl, by decide +kernel, by decide +kernel⟩

abbrev sc_BadMachine : Stmt := inClass (topS 10) 0
theorem i_BadMachine : FnScope ["self", "machine"] ["self", "machine"] (defScope sc_BadMachine) := ⟨rfl, rfl, rfl, by decide +kernel, rfl, by decide +kernel, by decide +kernel⟩

abbrev sc_BadWriter : Stmt := inClass (topS 11) 0
theorem i_BadWriter : FnScope ["self", "writer"] ["self", "writer"] (defScope sc_BadWriter) := ⟨rfl, rfl, rfl, by decide +kernel, rfl, by decide +kernel, by decide +kernel⟩

abbrev sc_BadJob : Stmt := inClass (topS 12) 0
theorem i_BadJob : FnScope ["self", "job"] ["self", "job"] (defScope sc_BadJob) := ⟨rfl, rfl, rfl, by decide +kernel, rfl, by decide +kernel, by decide +kernel⟩

abbrev sc_BadPaper : Stmt := inClass (topS 13) 0
theorem i_BadPaper : FnScope ["self", "paper"] ["self", "paper"] (defScope sc_BadPaper) := ⟨rfl, rfl, rfl, by decide +kernel, rfl, by decide +kernel, by decide +kernel⟩

abbrev sc_NotKept : Stmt := inClass (topS 14) 0
theorem i_NotKept : FnScope ["self", "promise", "witness"] ["self", "promise", "witness"] (defScope sc_NotKept) := ⟨rfl, rfl, rfl, by decide +kernel, rfl, by decide +kernel, by decide +kernel⟩

abbrev st__law_refused : Stmt := topS 42
abbrev N__law_refused : List Str := ["call", "e"]
theorem n__law_refused : FnScope N__law_refused ["call"] (defScope st__law_refused) := ⟨rfl, rfl, rfl, by decide +kernel, rfl, by decide +kernel, by decide +kernel⟩

def k_SIGNS : D := (.str "abcdefghijklmnopqrstuvwxyz0123456789")

def k_SMALL : D := (.str "abcdefghijklmnopqrstuvwxyz")

def k_TOLD : D := (.kt [(.str "kind"), (.str "named"), (.str "plain"), (.str "machine"), (.str "place"), (.str "good"), (.str "step"), (.str "new"), (.str "it"), (.str "writer"), (.str "write"), (.str "log"), (.str "ask"), (.str "takes"), (.str "alike"), (.str "within"), (.str "comes"), (.str "least"), (.str "through"), (.str "same"), (.str "spare"), (.str "answer"), (.str "event"), (.str "lot"), (.str "pair"), (.str "way"), (.str "rank")])

def k_MOST_KINDS : D := (.int 4)

def kt : KTab := fun _ _ => none

def xkids : List Str := ["BadText", "BadNumber", "BadName", "NoName", "BadKinds", "BadLog", "BadMachine", "BadWriter", "BadPaper", "BadJob", "NotKept"]

def hs__law_refused : List (Str × (Addr → Addr → SF)) := [("BadText", fun a dd => (sRet (eTup (aCons (eCon (.str "text")) (aCons (eFldA a dd "line" (eVar 1)) (aCons (eFldA a dd "column" (eVar 1)) aNil)))))),
  ("BadNumber", fun a dd => (sRet (eTup (aCons (eFldA a dd "what" (eVar 1)) (aCons (eBlt bRepr (aCons (eFldA a dd "number" (eVar 1)) aNil)) aNil))))),
  ("BadName", fun a dd => (sRet (eTup (aCons (eCon (.str "name")) (aCons (eBlt bRepr (aCons (eFldA a dd "name" (eVar 1)) aNil)) aNil))))),
  ("NoName", fun a dd => (sRet (eTup (aCons (eCon (.str "none")) (aCons (eBlt bRepr (aCons (eFldA a dd "name" (eVar 1)) aNil)) aNil))))),
  ("BadKinds", fun a dd => (sRet (eTup (aCons (eCon (.str "kinds")) (aCons (eBlt bRepr (aCons (eFldA a dd "kinds" (eVar 1)) aNil)) aNil))))),
  ("BadLog", fun a dd => (sRet (eTup (aCons (eCon (.str "log")) (aCons (eBlt bRepr (aCons (eFldA a dd "log" (eVar 1)) aNil)) aNil))))),
  ("BadMachine", fun a dd => (sRet (eTup (aCons (eCon (.str "machine")) (aCons (eBlt bRepr (aCons (eFldA a dd "machine" (eVar 1)) aNil)) aNil))))),
  ("BadWriter", fun a dd => (sRet (eTup (aCons (eCon (.str "writer")) (aCons (eBlt bRepr (aCons (eFldA a dd "writer" (eVar 1)) aNil)) aNil))))),
  ("BadPaper", fun a dd => (sRet (eTup (aCons (eCon (.str "paper")) (aCons (eBlt bRepr (aCons (eFldA a dd "paper" (eVar 1)) aNil)) aNil))))),
  ("BadJob", fun a dd => (sRet (eTup (aCons (eCon (.str "job")) (aCons (eBlt bRepr (aCons (eFldA a dd "job" (eVar 1)) aNil)) aNil))))),
  ("NotKept", fun a dd => (sRet (eTup (aCons (eCon (.str "not kept")) (aCons (eFldA a dd "promise" (eVar 1)) (aCons (eBlt bRepr (aCons (eFldA a dd "witness" (eVar 1)) aNil)) aNil))))))]

theorem hin__law_refused : ∀ p ∈ hs__law_refused, p.1 ∈ xkids ∧ Indep 2 1 p.2 := by
  intro p hp
  simp only [hs__law_refused, List.mem_cons, List.not_mem_nil, or_false] at hp
  rcases hp with rfl | rfl | rfl | rfl | rfl | rfl | rfl | rfl | rfl | rfl | rfl
  all_goals
    refine ⟨by decide, indep_ret fun a dd C ns ds m => ?_⟩
    simp only [eTup, eBlt, aCons, aNil, eCon, fldA_cau (show 1 < 2 by decide)]

def s__law_all_e1 : EF := (fVar 5)
def s__law_all_b2 : SF := (sExpr (eMethL mAppend (fVar 4) (aCons (eTup (aCons (eBin oAddU (fVar 5) (eTup (aCons (eTup (aCons (fVar 7) (aCons (fVar 8) aNil))) aNil))) (aCons (eBlt bMax2 (aCons (fVar 6) (aCons (eBin oAddU (fVar 8) (eCon (.int 1))) aNil))) aNil))) aNil)))
def s__law_all_b3 : SF := (sSeq (sIf (tNotF (tVal (eBin oIx (eBin oIx (fVar 0) (fVar 7)) (eCon (.int 1))))) (sSeq (sExpr (eMethL mAppend (fVar 4) (aCons (eTup (aCons (eBin oAddU (fVar 5) (eTup (aCons (eTup (aCons (fVar 7) aNil)) aNil))) (aCons (fVar 6) aNil))) aNil)))
  sCnt) sNil)
  (fFor (wRange (aCons (eBin oAddU (fVar 6) (eCon (.int 1))) aNil)) (gNm 8) s__law_all_b2))
def s__law_all_b4 : SF := (fFor (wRange (aCons (eBlt bLen (aCons (fVar 0) aNil)) aNil)) (gNm 7) s__law_all_b3)
def s__law_all_b5 : SF := (sSeq (sSet 4 (eLst aNil))
  (sSeq (fFor (wAny (fVar 2)) (gTp 2 (gsCons (gNm 5) (gsCons (gNm 6) gsNil))) s__law_all_b4)
  (sSet 2 (fVar 4))))
def s__law_all : FF := fnF 2 9 (sSeq (sSet 2 (eLstS (aCons (eTup (aCons (eTup aNil) (aCons (eCon (.int 0)) aNil))) aNil)))
  (sSeq (fFor (wRange (aCons (fVar 1) aNil)) (gNm 3) s__law_all_b5)
  (sRet (eBlt bTupleA (aCons (fLc (wAny (fVar 2)) [5, 6] (gTp 2 (gsCons (gNm 5) (gsCons (gNm 6) gsNil))) tYesF s__law_all_e1) aNil)))))

def s__law_draw : FF := fnF 2 5 (sSeq (sAsg (eBin oAddU (eBin oIx (fVar 0) (eCon (.str "count"))) (eCon (.int 1))) (gSubZ (fVar 0) (eCon (.str "count"))))
  (sSeq (sIf (tAndF (tVal (eBin oEq (eBin oIx (fVar 0) (eCon (.str "digits"))) (eCon (.int 0)))) (tVal (eBin oLt (eBin oIx (fVar 0) (eCon (.str "at"))) (eBlt bLen (aCons (eBin oIx (fVar 0) (eCon (.str "cells"))) aNil))))) (sSeq (sSet 3 (eBin oIx (eBin oIx (fVar 0) (eCon (.str "cells"))) (eBin oIx (fVar 0) (eCon (.str "at")))))
  (sSeq (sAsg (eBin oAddU (eBin oIx (fVar 0) (eCon (.str "at"))) (eCon (.int 1))) (gSubZ (fVar 0) (eCon (.str "at"))))
  (sIf (tVal (eBin oGe (fVar 3) (eBin oPow (eCon (.int 10)) (eCon (.int 18))))) (sAsg (eBin oSub (fVar 3) (eBin oPow (eCon (.int 10)) (eCon (.int 18)))) (gSubZ (fVar 0) (eCon (.str "digits")))) (sAsg (eBin oMod (eBlt bInt (aCons (eBin oAddU (eBin oMul (eBin oIx (fVar 0) (eCon (.str "fold"))) (eCon (.int 73673))) (fVar 3)) aNil)) (eCon (.int 2147483543))) (gSubZ (fVar 0) (eCon (.str "fold"))))))) sNil)
  (sSeq (sIf (tVal (eBin oGt (eBin oIx (fVar 0) (eCon (.str "digits"))) (eCon (.int 0)))) (sSeq (sSet 4 (eBin oMod (eBlt bInt (aCons (eBin oIx (fVar 0) (eCon (.str "digits"))) aNil)) (fVar 1)))
  (sSeq (sAsg (eBin oFdiv (eBin oIx (fVar 0) (eCon (.str "digits"))) (fVar 1)) (gSubZ (fVar 0) (eCon (.str "digits"))))
  (sRet (fVar 4)))) sNil)
  (sSeq (sSet 2 (eBin oAddU (eBin oAddU (eBin oIx (fVar 0) (eCon (.str "fold"))) (eBin oMul (eBin oIx (fVar 0) (eCon (.str "count"))) (eCon (.int 9743)))) (eCon (.int 179))))
  (sRet (eBin oMod (eBin oFdiv (eBlt bInt (aCons (eBin oMod (eBin oPow (fVar 2) (eCon (.int 23))) (eCon (.int 2305843009213693951))) aNil)) (eCon (.int 128))) (fVar 1)))))))

def s__law_shuffled_b1 : SF := (sExpr (eMethL mAppend (fVar 3) (aCons (eMethL mPopAt (fVar 2) (aCons (eBlt s__law_draw (aCons (fVar 0) (aCons (eBlt bLen (aCons (fVar 2) aNil)) aNil))) aNil)) aNil)))
def s__law_shuffled : FF := fnF 2 5 (sSeq (sPar 2 3 (aCons (eBlt bList (aCons (fVar 1) aNil)) (aCons (eLst aNil) aNil)))
  (sSeq (fFor (wRange (aCons (eBlt bLen (aCons (fVar 1) aNil)) aNil)) (gNm 4) s__law_shuffled_b1)
  (sRet (fVar 3))))

def s__law_kinds_b1 : SF := (sExpr (eMethL mAppend (fVar 1) (aCons (eTup (aCons (fVar 2) (aCons (eBin oEq (eBlt s__law_draw (aCons (fVar 0) (aCons (eCon (.int 2)) aNil))) (eCon (.int 0))) aNil))) aNil)))
def s__law_kinds : FF := fnF 1 3 (sSeq (sSet 1 (eLst (aCons (eTup (aCons (eCon (.str "a")) (aCons (eCon (.bl true)) aNil))) aNil)))
  (sSeq (fFor (wAny (eSl (eLstS (aCons (eCon (.str "b")) (aCons (eCon (.str "c")) (aCons (eCon (.str "d")) aNil)))) oNo (oSome (eBlt s__law_draw (aCons (fVar 0) (aCons (eCon (.int 3)) aNil)))))) (gNm 2) s__law_kinds_b1)
  (sRet (eIf (tVal (eBin oGt (eBlt s__law_draw (aCons (fVar 0) (aCons (eCon (.int 8)) aNil))) (eCon (.int 0)))) (eBlt bTupleA (aCons (eBlt s__law_shuffled (aCons (fVar 0) (aCons (fVar 1) aNil))) aNil)) (eTup (aCons (eTup (aCons (eCon (.str "b")) (aCons (eCon (.bl false)) aNil))) aNil))))))

def s__law_event : FF := fnF 3 4 (sSeq (sSet 3 (eBlt s__law_draw (aCons (fVar 0) (aCons (eBlt bLen (aCons (fVar 1) aNil)) aNil))))
  (sRet (eIf (tVal (eBin oIx (eBin oIx (fVar 1) (fVar 3)) (eCon (.int 1)))) (eTup (aCons (fVar 3) (aCons (eBlt s__law_draw (aCons (fVar 0) (aCons (fVar 2) aNil))) aNil))) (eTup (aCons (fVar 3) aNil)))))

def s__law_log_e1 : EF := (eBlt s__law_event (aCons (fVar 0) (aCons (fVar 1) (aCons (fVar 3) aNil))))
def s__law_log : FF := fnF 4 5 (sRet (eBlt bTupleA (aCons (fLc (wRange (aCons (eBlt s__law_draw (aCons (fVar 0) (aCons (eBin oAddU (fVar 2) (eCon (.int 1))) aNil))) aNil)) [4] (gNm 4) tYesF s__law_log_e1) aNil)))

def s__law_pen_b1 : SF := (sSet 1 (eBin oMod (eBlt bInt (aCons (eBin oAddU (eBin oMul (fVar 1) (eCon (.int 179))) (fVar 2)) aNil)) (eCon (.int 1000000033))))
def s__law_pen : FF := fnF 1 3 (sSeq (sSet 1 (eCon (.int 0)))
  (sSeq (fFor (wAny (fVar 0)) (gNm 2) s__law_pen_b1)
  (sRet (eDisp [((eCon (.str "cells")), (eBlt bListS (aCons (fVar 0) aNil))), ((eCon (.str "at")), (eCon (.int 0))), ((eCon (.str "digits")), (eCon (.int 0))), ((eCon (.str "count")), (eCon (.int 0))), ((eCon (.str "fold")), (fVar 1))]))))

def s__law_pick : FF := fnF 2 2 (sRet (eBin oIx (fVar 1) (eBlt s__law_draw (aCons (fVar 0) (aCons (eBlt bLen (aCons (fVar 1) aNil)) aNil)))))

def s__law_plain_b1 : SF := (sIf (tVal (eBin oEq (eBlt bLen (aCons (fVar 3) aNil)) (eCon (.int 1)))) (sExpr (eMethL mAppend (fVar 2) (aCons (fVar 3) aNil))) (sSeq (sIf (tVal (eBin oNotIn (eBin oIx (fVar 3) (eCon (.int 1))) (fVar 1))) (sAsg (eBlt bLen (aCons (fVar 1) aNil)) (gSubZ (fVar 1) (eBin oIx (fVar 3) (eCon (.int 1))))) sNil)
  (sExpr (eMethL mAppend (fVar 2) (aCons (eTup (aCons (eBin oIx (fVar 3) (eCon (.int 0))) (aCons (eBin oIx (fVar 1) (eBin oIx (fVar 3) (eCon (.int 1)))) aNil))) aNil)))))
def s__law_plain : FF := fnF 1 4 (sSeq (sPar 1 2 (aCons eDic0 (aCons (eLst aNil) aNil)))
  (sSeq (fFor (wAny (fVar 0)) (gNm 3) s__law_plain_b1)
  (sRet (eBlt bTupleA (aCons (fVar 2) aNil)))))

def s__law_wrong_kinds : FF := fnF 2 3 (sSeq (sSet 2 (eLstS (aCons (eCon .non) (aCons (eTup aNil) (aCons (eBlt bListS (aCons (fVar 1) aNil)) (aCons (eBin oMul (fVar 1) (eCon (.int 5))) (aCons (eBin oAddU (fVar 1) (eSl (fVar 1) oNo (oSome (eCon (.int 1))))) (aCons (eBin oAddU (eSl (fVar 1) (oSome (eCon (.int 1))) oNo) (eTup (aCons (eTup (aCons (eCon (.str "A")) (aCons (eCon (.bl true)) aNil))) aNil))) aNil))))))))
  (sSeq (sSet 2 (eBin oAddU (fVar 2) (eLstS (aCons (eBin oAddU (eSl (fVar 1) (oSome (eCon (.int 1))) oNo) (eTup (aCons (eTup (aCons (eCon (.str "new")) (aCons (eCon (.bl true)) aNil))) aNil))) aNil))))
  (sRet (eBlt s__law_pick (aCons (fVar 0) (aCons (eBin oAddU (fVar 2) (eLstS (aCons (eBin oAddU (eSl (fVar 1) (oSome (eCon (.int 1))) oNo) (eTup (aCons (eTup (aCons (eCon (.str "z")) (aCons (eCon (.int 1)) aNil))) aNil))) (aCons (eBin oAddU (eSl (fVar 1) (oSome (eCon (.int 1))) oNo) (eTup (aCons (eTup (aCons (eCon (.str "z")) aNil)) aNil))) (aCons (eBin oAddU (eSl (fVar 1) (oSome (eCon (.int 1))) oNo) (eTup (aCons (eLstS (aCons (eCon (.str "z")) (aCons (eCon (.bl true)) aNil))) aNil))) (aCons (eCon (.int 3)) aNil)))))) aNil))))))

def s__law_wrong_log : FF := fnF 3 6 (sSeq (sSet 3 (eIf (tVal (eBin oIx (eBin oIx (fVar 1) (eCon (.int 0))) (eCon (.int 1)))) (eCon (.int 0)) (eBin oSub (eBlt bLen (aCons (fVar 1) aNil)) (eCon (.int 1)))))
  (sSeq (sSet 4 (eBlt s__law_pick (aCons (fVar 0) (aCons (eLstS (aCons (eCon .non) (aCons (eTup aNil) (aCons (eTup (aCons (eBlt bLen (aCons (fVar 1) aNil)) aNil)) (aCons (eTup (aCons (eBlt bLen (aCons (fVar 1) aNil)) (aCons (eCon (.int 0)) aNil))) (aCons (eTup (aCons (eCon (.int 0)) (aCons (eCon (.int 0)) (aCons (eCon (.int 0)) aNil)))) (aCons (eLstS (aCons (eCon (.int 0)) aNil)) (aCons (eTup (aCons (eUn oNeg (eCon (.int 1))) aNil)) (aCons (eTup (aCons (eCon (.bl true)) aNil)) (aCons (eTup (aCons (eCon (.int 0)) (aCons (eCon (.bl true)) aNil))) (aCons (eTup (aCons (eCon (.int 0)) (aCons (eUn oNeg (eCon (.int 1))) aNil))) (aCons (eCon (.int 0)) aNil)))))))))))) aNil))))
  (sSeq (sSet 5 (eLstS (aCons (eBin oAddU (fVar 2) (eTup (aCons (fVar 4) aNil))) (aCons (eBlt bListS (aCons (fVar 2) aNil)) (aCons (eCon .non) (aCons (eBin oAddU (eTup (aCons (fVar 4) aNil)) (fVar 2)) aNil))))))
  (sRet (eBlt s__law_pick (aCons (fVar 0) (aCons (eBin oAddU (fVar 5) (eLstS (aCons (eBin oAddU (fVar 2) (eTup (aCons (eIf (tVal (eBin oIx (eBin oIx (fVar 1) (fVar 3)) (eCon (.int 1)))) (eTup (aCons (fVar 3) aNil)) (eTup (aCons (fVar 3) (aCons (eCon (.int 0)) aNil)))) aNil))) aNil))) aNil)))))))

def s_is_name_e1 : EF := (eBin oIn (fVar 1) (eCon k_SIGNS))
def s_is_name : FF := fnF 1 2 (sSeq (sIf (tOrF (tNotF (tVal (eBlt bIsi (aCons (fVar 0) (aCons (eCon (.ty "str")) aNil))))) (tOrF (tNotF (tVal (eChain oLe oLe (eCon (.int 1)) (eBlt bLen (aCons (fVar 0) aNil)) (eCon (.int 12))))) (tVal (eBin oNotIn (eBin oIx (fVar 0) (eCon (.int 0))) (eCon k_SMALL))))) (sRet (eCon (.bl false))) sNil)
  (sRet (eBlt bAll (aCons (fLc (wAny (fVar 0)) [1] (gNm 1) tYesF s_is_name_e1) aNil))))

def s_is_free_name : FF := fnF 1 1 (sRet (eAnd (eBlt (fIso s_is_name) (aCons (fVar 0) aNil)) (eBin oNotIn (fVar 0) (eCon k_TOLD))))

def s_are_kinds_b1 : SF := (sIf (tOrF (tNotF (tVal (eBlt bIsi (aCons (fVar 1) (aCons (eCon (.ty "tuple")) aNil))))) (tOrF (tVal (eBin oNe (eBlt bLen (aCons (fVar 1) aNil)) (eCon (.int 2)))) (tOrF (tNotF (tVal (eBlt (fIso s_is_free_name) (aCons (eBin oIx (fVar 1) (eCon (.int 0))) aNil)))) (tNotF (tVal (eBlt bIsi (aCons (eBin oIx (fVar 1) (eCon (.int 1))) (aCons (eCon (.ty "bool")) aNil)))))))) (sRet (eCon (.bl false))) sNil)
def s_are_kinds : FF := fnF 1 2 (sSeq (sIf (tOrF (tNotF (tVal (eBlt bIsi (aCons (fVar 0) (aCons (eCon (.ty "tuple")) aNil))))) (tNotF (tVal (eChain oLe oLe (eCon (.int 1)) (eBlt bLen (aCons (fVar 0) aNil)) (eCon k_MOST_KINDS))))) (sRet (eCon (.bl false))) sNil)
  (sSeq (fFor (wAny (fVar 0)) (gNm 1) s_are_kinds_b1)
  (sRet (eBin oEq (eBlt bLen (aCons (fDc (wAny (fVar 0)) [1] (gNm 1) tYesF (eBin oIx (fVar 1) (eCon (.int 0))) (eCon (.bl true))) aNil)) (eBlt bLen (aCons (fVar 0) aNil))))))

def s_need_kinds : FF := fnF 1 1 (sIf (tNotF (tVal (eBlt (fIso s_are_kinds) (aCons (fVar 0) aNil)))) (sRaise1 "BadKinds" "kinds" (aCons (fVar 0) aNil)) sNil)

def s_is_whole : FF := fnF 1 1 (sRet (eAnd (eBlt bIsi (aCons (fVar 0) (aCons (eCon (.ty "int")) aNil))) (eNot (eBlt bIsi (aCons (fVar 0) (aCons (eCon (.ty "bool")) aNil))))))

def s_is_count : FF := fnF 1 1 (sRet (eAnd (eBlt (fIso s_is_whole) (aCons (fVar 0) aNil)) (eBin oGe (fVar 0) (eCon (.int 0)))))

def s_is_event_in_e1 : EF := (eBlt (fIso s_is_count) (aCons (fVar 2) aNil))
def s_is_event_in : FF := fnF 2 3 (sSeq (sIf (tOrF (tNotF (tVal (eBlt bIsi (aCons (fVar 1) (aCons (eCon (.ty "tuple")) aNil))))) (tOrF (tNotF (tVal (eChain oLe oLe (eCon (.int 1)) (eBlt bLen (aCons (fVar 1) aNil)) (eCon (.int 2))))) (tNotF (tVal (eBlt bAll (aCons (fLc (wAny (fVar 1)) [2] (gNm 2) tYesF s_is_event_in_e1) aNil)))))) (sRet (eCon (.bl false))) sNil)
  (sRet (eAnd (eBin oLt (eBin oIx (fVar 1) (eCon (.int 0))) (eBlt bLen (aCons (fVar 0) aNil))) (eBin oEq (eBlt bLen (aCons (fVar 1) aNil)) (eIf (tVal (eBin oIx (eBin oIx (fVar 0) (eBin oIx (fVar 1) (eCon (.int 0)))) (eCon (.int 1)))) (eCon (.int 2)) (eCon (.int 1)))))))

def s_is_log_in_e1 : EF := (eBlt (fIso s_is_event_in) (aCons (fVar 0) (aCons (fVar 2) aNil)))
def s_is_log_in : FF := fnF 2 3 (sRet (eAnd (eBlt bIsi (aCons (fVar 1) (aCons (eCon (.ty "tuple")) aNil))) (eBlt bAll (aCons (fLc (wAny (fVar 1)) [2] (gNm 2) tYesF s_is_log_in_e1) aNil))))

def s_need_log : FF := fnF 2 2 (sIf (tNotF (tVal (eBlt (fIso s_is_log_in) (aCons (fVar 0) (aCons (fVar 1) aNil))))) (sRaise1 "BadLog" "log" (aCons (fVar 1) aNil)) sNil)

def s_plain_in_b1 : SF := (sIf (tVal (eBin oEq (eBlt bLen (aCons (fVar 3) aNil)) (eCon (.int 1)))) (sExpr (eMethL mAppend (fVar 2) (aCons (fVar 3) aNil))) (sExpr (eMethL mAppend (fVar 2) (aCons (eTup (aCons (eBin oIx (fVar 3) (eCon (.int 0))) (aCons (eSetd (fVar 1) (eBin oIx (fVar 3) (eCon (.int 1))) (eBlt bLen (aCons (fVar 1) aNil))) aNil))) aNil))))
def s_plain_in : FF := fnF 1 4 (sSeq (sPar 1 2 (aCons eDic0 (aCons (eLst aNil) aNil)))
  (sSeq (fFor (wAny (fVar 0)) (gNm 3) s_plain_in_b1)
  (sRet (eBlt bTupleA (aCons (fVar 2) aNil)))))

def s_are_alike : FF := fnF 3 3 (sSeq (sExpr (eBlt (fIso s_need_kinds) (aCons (fVar 0) aNil)))
  (sSeq (sExpr (eBlt (fIso s_need_log) (aCons (fVar 0) (aCons (fVar 1) aNil))))
  (sSeq (sExpr (eBlt (fIso s_need_log) (aCons (fVar 0) (aCons (fVar 2) aNil))))
  (sRet (eBin oEq (eBlt (fIso s_plain_in) (aCons (fVar 1) aNil)) (eBlt (fIso s_plain_in) (aCons (fVar 2) aNil)))))))

def s_is_less_in : FF := fnF 2 2 (sRet (eBin oLt (eTup (aCons (eBlt bLen (aCons (fVar 0) aNil)) (aCons (fVar 0) aNil))) (eTup (aCons (eBlt bLen (aCons (fVar 1) aNil)) (aCons (fVar 1) aNil)))))

def s_is_less_log : FF := fnF 3 3 (sSeq (sExpr (eBlt (fIso s_need_kinds) (aCons (fVar 0) aNil)))
  (sSeq (sExpr (eBlt (fIso s_need_log) (aCons (fVar 0) (aCons (fVar 1) aNil))))
  (sSeq (sExpr (eBlt (fIso s_need_log) (aCons (fVar 0) (aCons (fVar 2) aNil))))
  (sRet (eBlt (fIso s_is_less_in) (aCons (fVar 1) (aCons (fVar 2) aNil)))))))

def s_is_log : FF := fnF 2 2 (sSeq (sExpr (eBlt (fIso s_need_kinds) (aCons (fVar 0) aNil)))
  (sRet (eBlt (fIso s_is_log_in) (aCons (fVar 0) (aCons (fVar 1) aNil)))))

def s_need_count : FF := fnF 2 2 (sIf (tNotF (tVal (eBlt (fIso s_is_count) (aCons (fVar 1) aNil)))) (sRaise2 "BadNumber" "what" "number" (aCons (fVar 0) (aCons (fVar 1) aNil))) sNil)

def s_plain_logs_e1 : EF := (fVar 5)
def s_plain_logs_e2 : EF := (eTup (aCons (eBin oAddU (fVar 5) (eTup (aCons (eTup (aCons (fVar 7) (aCons (fVar 9) aNil))) aNil))) (aCons (eBlt bMax2 (aCons (fVar 6) (aCons (eBin oAddU (fVar 9) (eCon (.int 1))) aNil))) aNil)))
def s_plain_logs_b3 : SF := (sSeq (sIf (tNotF (tVal (eBin oIx (fVar 8) (eCon (.int 1))))) (sSeq (sExpr (eMethL mAppend (fVar 4) (aCons (eTup (aCons (eBin oAddU (fVar 5) (eTup (aCons (eTup (aCons (fVar 7) aNil)) aNil))) (aCons (fVar 6) aNil))) aNil)))
  sCnt) sNil)
  (sExpr (eMethL mExtend (fVar 4) (aCons (fLc (wRange (aCons (eBin oAddU (fVar 6) (eCon (.int 1))) aNil)) [9] (gNm 9) tYesF s_plain_logs_e2) aNil))))
def s_plain_logs_b4 : SF := (fFor (wEnum (fVar 0)) (gTp 2 (gsCons (gNm 7) (gsCons (gNm 8) gsNil))) s_plain_logs_b3)
def s_plain_logs_b5 : SF := (sSeq (sSet 4 (eLst aNil))
  (sSeq (fFor (wAny (fVar 2)) (gTp 2 (gsCons (gNm 5) (gsCons (gNm 6) gsNil))) s_plain_logs_b4)
  (sSet 2 (fVar 4))))
def s_plain_logs : FF := fnF 2 10 (sSeq (sSet 2 (eLstS (aCons (eTup (aCons (eTup aNil) (aCons (eCon (.int 0)) aNil))) aNil)))
  (sSeq (fFor (wRange (aCons (fVar 1) aNil)) (gNm 3) s_plain_logs_b5)
  (sRet (eBlt bTupleA (aCons (fLc (wAny (fVar 2)) [5, 6] (gTp 2 (gsCons (gNm 5) (gsCons (gNm 6) gsNil))) tYesF s_plain_logs_e1) aNil)))))

def s_logs_of_length : FF := fnF 2 2 (sSeq (sExpr (eBlt (fIso s_need_kinds) (aCons (fVar 0) aNil)))
  (sSeq (sExpr (eBlt (fIso s_need_count) (aCons (eCon (.str "n")) (aCons (fVar 1) aNil))))
  (sRet (eBlt (fIso s_plain_logs) (aCons (fVar 0) (aCons (fVar 1) aNil))))))

def s_names_in : FF := fnF 2 3 (sSeq (sExpr (eBlt (fIso s_need_kinds) (aCons (fVar 0) aNil)))
  (sSeq (sExpr (eBlt (fIso s_need_log) (aCons (fVar 0) (aCons (fVar 1) aNil))))
  (sRet (eBlt bTupleA (aCons (fDc (wAny (fVar 1)) [2] (gNm 2) (tVal (eBin oEq (eBlt bLen (aCons (fVar 2) aNil)) (eCon (.int 2)))) (eBin oIx (fVar 2) (eCon (.int 1))) (eCon (.bl true))) aNil)))))

def s_plain_log : FF := fnF 2 2 (sSeq (sExpr (eBlt (fIso s_need_kinds) (aCons (fVar 0) aNil)))
  (sSeq (sExpr (eBlt (fIso s_need_log) (aCons (fVar 0) (aCons (fVar 1) aNil))))
  (sRet (eBlt (fIso s_plain_in) (aCons (fVar 1) aNil)))))

def tab_law : List (Str × FF) := [("are_alike", (fIso s_are_alike)), ("is_less_log", (fIso s_is_less_log)), ("is_log", (fIso s_is_log)), ("plain_log", (fIso s_plain_log)), ("names_in", (fIso s_names_in)), ("logs_of_length", (fIso s_logs_of_length))]
def s_law_e1 : EF := (eIf (tVal (eBin oEq (eBlt bLen (aCons (fVar 10) aNil)) (eCon (.int 1)))) (fVar 10) (eTup (aCons (eBin oIx (fVar 10) (eCon (.int 0))) (aCons (eBin oSub (eCon (.int 9)) (eBin oIx (fVar 10) (eCon (.int 1)))) aNil))))
def s_law_b2 : SF := (sIf (tAndF (tVal (eBin oEq (eBlt bLen (aCons (fVar 10) aNil)) (eCon (.int 2)))) (tVal (eBin oNotIn (eBin oIx (fVar 10) (eCon (.int 1))) (fVar 9)))) (sExpr (eMethL mAppend (fVar 9) (aCons (eBin oIx (fVar 10) (eCon (.int 1))) aNil))) sNil)
def s_law_e3 : EF := (eRef 2 1 hs__law_refused (eCallV tab_law 16 (aCons (fVar 12) (aCons (eCon .non) aNil))))
def s_law_e4 : EF := (eRef 2 1 hs__law_refused (eCallV tab_law 16 (aCons (fVar 12) (aCons (eCon .non) (aCons (eCon .non) aNil)))))
def s_law_e5 : EF := (eRef 2 1 hs__law_refused (eCallV tab_law 16 (aCons (fVar 4) (aCons (fVar 13) aNil))))
def s_law_b6 : SF := (sSeq (sExpr (eMethL mAppend (fVar 15) (aCons (eRef 2 1 hs__law_refused (eCallV tab_law 16 (aCons (fVar 4) (aCons (fVar 13) (aCons (eCon .non) aNil))))) aNil)))
  (sExpr (eMethL mAppend (fVar 15) (aCons (eRef 2 1 hs__law_refused (eCallV tab_law 16 (aCons (fVar 4) (aCons (fVar 5) (aCons (fVar 13) aNil))))) aNil))))
def s_law_b7 : SF := (sSeq (sSet 4 (eBlt s__law_kinds (aCons (fVar 1) aNil)))
  (sSeq (sAsg (eTup (aCons (eBlt s__law_log (aCons (fVar 1) (aCons (fVar 4) (aCons (eCon (.int 8)) (aCons (eCon (.int 5)) aNil))))) (aCons (eBlt s__law_log (aCons (fVar 1) (aCons (fVar 4) (aCons (eCon (.int 8)) (aCons (eCon (.int 5)) aNil))))) aNil))) (gTp 2 (gsCons (gNm 5) (gsCons (gNm 6) gsNil))))
  (sSeq (sIf (tOrF (tVal (eBin oNe (eLstS (aCons (eBlt (fIso s_are_kinds) (aCons (fVar 4) aNil)) (aCons (eBlt (fIso s_is_log) (aCons (fVar 4) (aCons (fVar 5) aNil))) aNil))) (eLstS (aCons (eCon (.bl true)) (aCons (eCon (.bl true)) aNil))))) (tVal (eBin oNe (eBlt (fIso s_plain_log) (aCons (fVar 4) (aCons (fVar 5) aNil))) (eBlt (fIso s__law_plain) (aCons (fVar 5) aNil))))) (sRet (eCon (.bl false))) sNil)
  (sSeq (sSet 7 (eBlt bTupleA (aCons (fLc (wAny (fVar 5)) [10] (gNm 10) tYesF s_law_e1) aNil)))
  (sSeq (sIf (tVal (eBin oNotN (eBlt (fIso s_are_alike) (aCons (fVar 4) (aCons (fVar 5) (aCons (fVar 7) aNil)))) (eCon (.bl true)))) (sRet (eCon (.bl false))) sNil)
  (sSeq (sIf (tVal (eBin oNe (eBlt (fIso s_are_alike) (aCons (fVar 4) (aCons (fVar 5) (aCons (fVar 6) aNil)))) (eBin oEq (eBlt (fIso s__law_plain) (aCons (fVar 5) aNil)) (eBlt (fIso s__law_plain) (aCons (fVar 6) aNil))))) (sRet (eCon (.bl false))) sNil)
  (sSeq (sSet 8 (eOr (eBin oLt (eBlt bLen (aCons (fVar 5) aNil)) (eBlt bLen (aCons (fVar 6) aNil))) (eAnd (eBin oEq (eBlt bLen (aCons (fVar 5) aNil)) (eBlt bLen (aCons (fVar 6) aNil))) (eBin oLt (fVar 5) (fVar 6)))))
  (sSeq (sIf (tOrF (tVal (eBin oNe (eBlt (fIso s_is_less_log) (aCons (fVar 4) (aCons (fVar 5) (aCons (fVar 6) aNil)))) (fVar 8))) (tVal (eBin oNotN (eBlt (fIso s_is_less_log) (aCons (fVar 4) (aCons (fVar 5) (aCons (fVar 5) aNil)))) (eCon (.bl false))))) (sRet (eCon (.bl false))) sNil)
  (sSeq (sSet 9 (eLst aNil))
  (sSeq (fFor (wAny (fVar 5)) (gNm 10) s_law_b2)
  (sSeq (sIf (tVal (eBin oNe (eBlt (fIso s_names_in) (aCons (fVar 4) (aCons (fVar 5) aNil))) (eBlt bTupleA (aCons (fVar 9) aNil)))) (sRet (eCon (.bl false))) sNil)
  (sSeq (sSet 11 (eBlt s__law_draw (aCons (fVar 1) (aCons (eCon (.int 4)) aNil))))
  (sSeq (sIf (tVal (eBin oNe (eBlt (fIso s_logs_of_length) (aCons (fVar 4) (aCons (fVar 11) aNil))) (eBlt (fIso s__law_all) (aCons (fVar 4) (aCons (fVar 11) aNil))))) (sRet (eCon (.bl false))) sNil)
  (sSeq (sAsg (eTup (aCons (eBlt s__law_wrong_kinds (aCons (fVar 1) (aCons (fVar 4) aNil))) (aCons (eBlt s__law_wrong_log (aCons (fVar 1) (aCons (fVar 4) (aCons (fVar 5) aNil)))) (aCons (eBlt s__law_pick (aCons (fVar 1) (aCons (eLstS (aCons (eCon .non) (aCons (eUn oNeg (eCon (.int 1))) (aCons (eCon (.bl true)) aNil)))) aNil))) aNil)))) (gTp 3 (gsCons (gNm 12) (gsCons (gNm 13) (gsCons (gNm 14) gsNil)))))
  (sSeq (sIf (tVal (eBin oNe (eLstS (aCons (eBlt (fIso s_are_kinds) (aCons (fVar 12) aNil)) (aCons (eBlt (fIso s_is_log) (aCons (fVar 4) (aCons (fVar 13) aNil))) aNil))) (eLstS (aCons (eCon (.bl false)) (aCons (eCon (.bl false)) aNil))))) (sRet (eCon (.bl false))) sNil)
  (sSeq (sSet 15 (fLcC (wAny (eLstS (aCons (eCon (.glo "is_log")) (aCons (eCon (.glo "plain_log")) (aCons (eCon (.glo "names_in")) (aCons (eCon (.glo "logs_of_length")) aNil)))))) [16] (gNm 16) tYesF s_law_e3))
  (sSeq (sSet 15 (eBin oAdd (fVar 15) (fLc (wAny (eLstS (aCons (eCon (.glo "are_alike")) (aCons (eCon (.glo "is_less_log")) aNil)))) [16] (gNm 16) tYesF s_law_e4)))
  (sSeq (sSet 15 (eBin oAdd (fVar 15) (fLc (wAny (eLstS (aCons (eCon (.glo "plain_log")) (aCons (eCon (.glo "names_in")) aNil)))) [16] (gNm 16) tYesF s_law_e5)))
  (sSeq (fFor (wAny (eLstS (aCons (eCon (.glo "are_alike")) (aCons (eCon (.glo "is_less_log")) aNil)))) (gNm 16) s_law_b6)
  (sSeq (sExpr (eMethL mAppend (fVar 15) (aCons (eRef 2 1 hs__law_refused (eBlt (fIso s_logs_of_length) (aCons (fVar 4) (aCons (fVar 14) aNil)))) aNil)))
  (sIf (tVal (eBin oNe (fVar 15) (eBin oAddU (eBin oAddU (eBin oMul (eLstS (aCons (eTup (aCons (eCon (.str "kinds")) (aCons (eBlt bRepr (aCons (fVar 12) aNil)) aNil))) aNil)) (eCon (.int 6))) (eBin oMul (eLstS (aCons (eTup (aCons (eCon (.str "log")) (aCons (eBlt bRepr (aCons (fVar 13) aNil)) aNil))) aNil)) (eCon (.int 6)))) (eLstS (aCons (eTup (aCons (eCon (.str "n")) (aCons (eBlt bRepr (aCons (fVar 14) aNil)) aNil))) aNil))))) (sRet (eCon (.bl false))) sNil)))))))))))))))))))))
def s_law_e8 : EF := (eBlt (fIso s_is_free_name) (aCons (fVar 17) aNil))
def s_law : FF := fnF 1 18 (sSeq (sSet 1 (eBlt s__law_pen (aCons (fVar 0) aNil)))
  (sSeq (fFor (wRange (aCons (eCon (.int 6)) aNil)) (gNm 2) s_law_b7)
  (sSeq (sSet 3 (fLc (wAny (eLstS (aCons (eCon (.str "a")) (aCons (eCon (.str "new")) (aCons (eCon (.str "it")) (aCons (eCon (.str "rank")) (aCons (eCon (.str "1a")) (aCons (eCon .non) (aCons (eCon (.str "")) (aCons (eCon (.str "note")) aNil)))))))))) [17] (gNm 17) tYesF s_law_e8))
  (sRet (eBin oEq (fVar 3) (eBin oAddU (eBin oAddU (eLstS (aCons (eCon (.bl true)) aNil)) (eBin oMul (eLstS (aCons (eCon (.bl false)) aNil)) (eCon (.int 6)))) (eLstS (aCons (eCon (.bl true)) aNil))))))))

structure Txt (P : Program) (w : World) (K : PySem.W.Frag) (mg : Str → Option Value) : Prop where
  d__law_all : DefAt K mg "_law_all" (topS 49) ["kinds", "n"]
  d__law_draw : DefAt K mg "_law_draw" (topS 39) ["pen", "many"]
  d__law_shuffled : DefAt K mg "_law_shuffled" (topS 41) ["pen", "items"]
  d__law_kinds : DefAt K mg "_law_kinds" (topS 43) ["pen"]
  d__law_event : DefAt K mg "_law_event" (topS 44) ["pen", "kinds", "most"]
  d__law_log : DefAt K mg "_law_log" (topS 45) ["pen", "kinds", "many", "most"]
  d__law_pen : DefAt K mg "_law_pen" (topS 38) ["script"]
  d__law_pick : DefAt K mg "_law_pick" (topS 40) ["pen", "some"]
  d__law_plain : DefAt K mg "_law_plain" (topS 46) ["log"]
  d__law_wrong_kinds : DefAt K mg "_law_wrong_kinds" (topS 47) ["pen", "kinds"]
  d__law_wrong_log : DefAt K mg "_law_wrong_log" (topS 48) ["pen", "kinds", "log"]
  d_is_name : DefAt K mg "is_name" (topS 18) ["value"]
  d_is_free_name : DefAt K mg "is_free_name" (topS 22) ["value"]
  d_are_kinds : DefAt K mg "are_kinds" (topS 23) ["value"]
  d_need_kinds : DefAt K mg "need_kinds" (topS 24) ["kinds"]
  d_is_whole : DefAt K mg "is_whole" (topS 15) ["value"]
  d_is_count : DefAt K mg "is_count" (topS 16) ["value"]
  d_is_event_in : DefAt K mg "is_event_in" (topS 25) ["kinds", "value"]
  d_is_log_in : DefAt K mg "is_log_in" (topS 26) ["kinds", "value"]
  d_need_log : DefAt K mg "need_log" (topS 28) ["kinds", "log"]
  d_plain_in : DefAt K mg "plain_in" (topS 29) ["log"]
  d_are_alike : DefAt K mg "are_alike" (topS 31) ["kinds", "first", "second"]
  d_is_less_in : DefAt K mg "is_less_in" (topS 32) ["first", "second"]
  d_is_less_log : DefAt K mg "is_less_log" (topS 33) ["kinds", "first", "second"]
  d_is_log : DefAt K mg "is_log" (topS 27) ["kinds", "value"]
  d_need_count : DefAt K mg "need_count" (topS 17) ["what", "value"]
  d_plain_logs : DefAt K mg "plain_logs" (topS 35) ["kinds", "n"]
  d_logs_of_length : DefAt K mg "logs_of_length" (topS 36) ["kinds", "n"]
  d_names_in : DefAt K mg "names_in" (topS 34) ["kinds", "log"]
  d_plain_log : DefAt K mg "plain_log" (topS 30) ["kinds", "log"]
  d_law : DefAt K mg "law" (topS 50) ["script"]
  d__law_refused : DefAt K mg "_law_refused" (topS 42) ["call"]
  c_BadText : Cls2 K mg "BadText" sc_BadText "line" "column"
  c_BadNumber : Cls2 K mg "BadNumber" sc_BadNumber "what" "number"
  c_BadName : Cls1 K mg "BadName" sc_BadName "name"
  c_NoName : Cls1 K mg "NoName" sc_NoName "name"
  c_BadKinds : Cls1 K mg "BadKinds" sc_BadKinds "kinds"
  c_BadLog : Cls1 K mg "BadLog" sc_BadLog "log"
  c_BadMachine : Cls1 K mg "BadMachine" sc_BadMachine "machine"
  c_BadWriter : Cls1 K mg "BadWriter" sc_BadWriter "writer"
  c_BadJob : Cls1 K mg "BadJob" sc_BadJob "job"
  c_BadPaper : Cls1 K mg "BadPaper" sc_BadPaper "paper"
  c_NotKept : Cls2 K mg "NotKept" sc_NotKept "promise" "witness"
  f_all : mg "all" = none
  f_bool : mg "bool" = none
  f_enumerate : mg "enumerate" = none
  f_int : mg "int" = none
  f_isinstance : mg "isinstance" = none
  f_len : mg "len" = none
  f_list : mg "list" = none
  f_max : mg "max" = none
  f_range : mg "range" = none
  f_repr : mg "repr" = none
  f_str : mg "str" = none
  f_tuple : mg "tuple" = none
  k_MOST_KINDS : GCon K mg "MOST_KINDS" k_MOST_KINDS
  k_SIGNS : GCon K mg "SIGNS" k_SIGNS
  k_SMALL : GCon K mg "SMALL" k_SMALL
  k_TOLD : GCon K mg "TOLD" k_TOLD
  kt : KOk K mg kt
  xt : ExTab K mg xkids

section
variable {P : Program} {w : World} {K : PySem.W.Frag} {mg : Str → Option Value} {base : Heap}

theorem hok__law_refused (T : Txt P w K mg) (A : Around) (g : Addr) (cdg : Value) (hr0 : ∀ s : Shared, Room 1 (A.deeper (envOfC "_law_refused" (defScope st__law_refused) s.heap.objs.size g cdg))) (hgd : true = true → A.guards = some []) :
    HsOk K mg N__law_refused.length (fun outer s H => (cxOf C8.CX0 P w K mg base N__law_refused "_law_refused" (defScope st__law_refused) g cdg A outer s H C8.E0).nox) "e" hs__law_refused (tryHds (defBody st__law_refused)) := by
  have hK : ∀ (outer : List Env) (s : Shared) (H : Hp), (cxOf C8.CX0 P w K mg base N__law_refused "_law_refused" (defScope st__law_refused) g cdg A outer s H C8.E0).nox.K = K ∧ (cxOf C8.CX0 P w K mg base N__law_refused "_law_refused" (defScope st__law_refused) g cdg A outer s H C8.E0).nox.mg = mg ∧ (cxOf C8.CX0 P w K mg base N__law_refused "_law_refused" (defScope st__law_refused) g cdg A outer s H C8.E0).nox.N.length = N__law_refused.length := fun _ _ _ => ⟨rfl, rfl, rfl⟩
  exact (hsok_cons hK (T.c_BadText.mg) (fun _ _ _ => by rfl) (fun outer s H CA hm a oe dd pn hz hf => (by
      have hu : (A.deeper (envOfC "_law_refused" (defScope st__law_refused) s.heap.objs.size g cdg)).units + 64 < cLine := by have := (hr0 s).un; omega
      exact (zs_one (z_ret (z_tup (za_cons z_str (za_cons (z_fxa (T.c_BadText.fld1 CA hm).1 (T.c_BadText.fld1 CA hm).2 hz hf (zv 1)) (za_cons (z_fxa (T.c_BadText.fld2 CA hm).1 (T.c_BadText.fld2 CA hm).2 hz hf (zv 1)) za_nil))))))))
    (hsok_cons hK (T.c_BadNumber.mg) (fun _ _ _ => by rfl) (fun outer s H CA hm a oe dd pn hz hf => (by
      have hu : (A.deeper (envOfC "_law_refused" (defScope st__law_refused) s.heap.objs.size g cdg)).units + 64 < cLine := by have := (hr0 s).un; omega
      exact (zs_one (z_ret (z_tup (za_cons (z_fxa (T.c_BadNumber.fld1 CA hm).1 (T.c_BadNumber.fld1 CA hm).2 hz hf (zv 1)) (za_cons (z_blt (cr_repr hu (hgd rfl)) opl_repr (by rfl) T.f_repr rfl (za_cons (z_fxa (T.c_BadNumber.fld2 CA hm).1 (T.c_BadNumber.fld2 CA hm).2 hz hf (zv 1)) za_nil)) za_nil)))))))
    (hsok_cons hK (T.c_BadName.mg) (fun _ _ _ => by rfl) (fun outer s H CA hm a oe dd pn hz hf => (by
      have hu : (A.deeper (envOfC "_law_refused" (defScope st__law_refused) s.heap.objs.size g cdg)).units + 64 < cLine := by have := (hr0 s).un; omega
      exact (zs_one (z_ret (z_tup (za_cons z_str (za_cons (z_blt (cr_repr hu (hgd rfl)) opl_repr (by rfl) T.f_repr rfl (za_cons (z_fxa (T.c_BadName.fld CA hm).1 (T.c_BadName.fld CA hm).2 hz hf (zv 1)) za_nil)) za_nil)))))))
    (hsok_cons hK (T.c_NoName.mg) (fun _ _ _ => by rfl) (fun outer s H CA hm a oe dd pn hz hf => (by
      have hu : (A.deeper (envOfC "_law_refused" (defScope st__law_refused) s.heap.objs.size g cdg)).units + 64 < cLine := by have := (hr0 s).un; omega
      exact (zs_one (z_ret (z_tup (za_cons z_str (za_cons (z_blt (cr_repr hu (hgd rfl)) opl_repr (by rfl) T.f_repr rfl (za_cons (z_fxa (T.c_NoName.fld CA hm).1 (T.c_NoName.fld CA hm).2 hz hf (zv 1)) za_nil)) za_nil)))))))
    (hsok_cons hK (T.c_BadKinds.mg) (fun _ _ _ => by rfl) (fun outer s H CA hm a oe dd pn hz hf => (by
      have hu : (A.deeper (envOfC "_law_refused" (defScope st__law_refused) s.heap.objs.size g cdg)).units + 64 < cLine := by have := (hr0 s).un; omega
      exact (zs_one (z_ret (z_tup (za_cons z_str (za_cons (z_blt (cr_repr hu (hgd rfl)) opl_repr (by rfl) T.f_repr rfl (za_cons (z_fxa (T.c_BadKinds.fld CA hm).1 (T.c_BadKinds.fld CA hm).2 hz hf (zv 1)) za_nil)) za_nil)))))))
    (hsok_cons hK (T.c_BadLog.mg) (fun _ _ _ => by rfl) (fun outer s H CA hm a oe dd pn hz hf => (by
      have hu : (A.deeper (envOfC "_law_refused" (defScope st__law_refused) s.heap.objs.size g cdg)).units + 64 < cLine := by have := (hr0 s).un; omega
      exact (zs_one (z_ret (z_tup (za_cons z_str (za_cons (z_blt (cr_repr hu (hgd rfl)) opl_repr (by rfl) T.f_repr rfl (za_cons (z_fxa (T.c_BadLog.fld CA hm).1 (T.c_BadLog.fld CA hm).2 hz hf (zv 1)) za_nil)) za_nil)))))))
    (hsok_cons hK (T.c_BadMachine.mg) (fun _ _ _ => by rfl) (fun outer s H CA hm a oe dd pn hz hf => (by
      have hu : (A.deeper (envOfC "_law_refused" (defScope st__law_refused) s.heap.objs.size g cdg)).units + 64 < cLine := by have := (hr0 s).un; omega
      exact (zs_one (z_ret (z_tup (za_cons z_str (za_cons (z_blt (cr_repr hu (hgd rfl)) opl_repr (by rfl) T.f_repr rfl (za_cons (z_fxa (T.c_BadMachine.fld CA hm).1 (T.c_BadMachine.fld CA hm).2 hz hf (zv 1)) za_nil)) za_nil)))))))
    (hsok_cons hK (T.c_BadWriter.mg) (fun _ _ _ => by rfl) (fun outer s H CA hm a oe dd pn hz hf => (by
      have hu : (A.deeper (envOfC "_law_refused" (defScope st__law_refused) s.heap.objs.size g cdg)).units + 64 < cLine := by have := (hr0 s).un; omega
      exact (zs_one (z_ret (z_tup (za_cons z_str (za_cons (z_blt (cr_repr hu (hgd rfl)) opl_repr (by rfl) T.f_repr rfl (za_cons (z_fxa (T.c_BadWriter.fld CA hm).1 (T.c_BadWriter.fld CA hm).2 hz hf (zv 1)) za_nil)) za_nil)))))))
    (hsok_cons hK (T.c_BadPaper.mg) (fun _ _ _ => by rfl) (fun outer s H CA hm a oe dd pn hz hf => (by
      have hu : (A.deeper (envOfC "_law_refused" (defScope st__law_refused) s.heap.objs.size g cdg)).units + 64 < cLine := by have := (hr0 s).un; omega
      exact (zs_one (z_ret (z_tup (za_cons z_str (za_cons (z_blt (cr_repr hu (hgd rfl)) opl_repr (by rfl) T.f_repr rfl (za_cons (z_fxa (T.c_BadPaper.fld CA hm).1 (T.c_BadPaper.fld CA hm).2 hz hf (zv 1)) za_nil)) za_nil)))))))
    (hsok_cons hK (T.c_BadJob.mg) (fun _ _ _ => by rfl) (fun outer s H CA hm a oe dd pn hz hf => (by
      have hu : (A.deeper (envOfC "_law_refused" (defScope st__law_refused) s.heap.objs.size g cdg)).units + 64 < cLine := by have := (hr0 s).un; omega
      exact (zs_one (z_ret (z_tup (za_cons z_str (za_cons (z_blt (cr_repr hu (hgd rfl)) opl_repr (by rfl) T.f_repr rfl (za_cons (z_fxa (T.c_BadJob.fld CA hm).1 (T.c_BadJob.fld CA hm).2 hz hf (zv 1)) za_nil)) za_nil)))))))
    (hsok_cons hK (T.c_NotKept.mg) (fun _ _ _ => by rfl) (fun outer s H CA hm a oe dd pn hz hf => (by
      have hu : (A.deeper (envOfC "_law_refused" (defScope st__law_refused) s.heap.objs.size g cdg)).units + 64 < cLine := by have := (hr0 s).un; omega
      exact (zs_one (z_ret (z_tup (za_cons z_str (za_cons (z_fxa (T.c_NotKept.fld1 CA hm).1 (T.c_NotKept.fld1 CA hm).2 hz hf (zv 1)) (za_cons (z_blt (cr_repr hu (hgd rfl)) opl_repr (by rfl) T.f_repr rfl (za_cons (z_fxa (T.c_NotKept.fld2 CA hm).1 (T.c_NotKept.fld2 CA hm).2 hz hf (zv 1)) za_nil)) za_nil))))))))
    hsok_nil)))))))))))
def t__law_refused : Z.TI := ⟨"_law_refused", 2, 1, hs__law_refused⟩
theorem try__law_refused (T : Txt P w K mg) : TryAt P w K mg base t__law_refused :=
  tryat_mk (st := st__law_refused) (a := "call") (n := "e") (Ng := N__law_refused) (cs := xkids) rfl T.d__law_refused n__law_refused rfl (.inl rfl) (by decide +kernel) rfl rfl (fun A g cdg hr hg => hok__law_refused T A g cdg (fun s => hr.deeper _) (fun _ => hg)) T.xt hin__law_refused (by decide) (by decide)

end

def gam (ds : List DI) : Gam := ⟨[t__law_refused], ds, [("BadText", ["line", "column"]), ("BadNumber", ["what", "number"]), ("BadName", ["name"]), ("NoName", ["name"]), ("BadKinds", ["kinds"]), ("BadLog", ["log"]), ("BadMachine", ["machine"]), ("BadWriter", ["writer"]), ("BadJob", ["job"]), ("BadPaper", ["paper"]), ("NotKept", ["promise", "witness"])], [("MOST_KINDS", k_MOST_KINDS), ("SIGNS", k_SIGNS), ("SMALL", k_SMALL), ("TOLD", k_TOLD)], ["all", "bool", "enumerate", "int", "isinstance", "len", "list", "max", "range", "repr", "str", "tuple"], kt⟩

section
variable {P : Program} {w : World} {K : PySem.W.Frag} {mg : Str → Option Value} {base : Heap}

theorem gok (T : Txt P w K mg) (TBs : TabsB K mg base) {ds : List DI} (h : ∀ d ∈ ds, zdOf P w K mg base d) : GOk (gam ds) P w K mg base where
  defs := h
  excs := (all_cons (by exact ⟨sc_BadText, _, _, _, _, _, _, _, _, T.c_BadText, i_BadText, rfl, rfl, rfl, rfl, by decide, by decide, by decide, by decide⟩) (all_cons (by exact ⟨sc_BadNumber, _, _, _, _, _, _, _, _, T.c_BadNumber, i_BadNumber, rfl, rfl, rfl, rfl, by decide, by decide, by decide, by decide⟩) (all_cons (by exact ⟨sc_BadName, _, _, _, _, T.c_BadName, i_BadName, rfl, rfl, rfl, by decide, by decide⟩) (all_cons (by exact ⟨sc_NoName, _, _, _, _, T.c_NoName, i_NoName, rfl, rfl, rfl, by decide, by decide⟩) (all_cons (by exact ⟨sc_BadKinds, _, _, _, _, T.c_BadKinds, i_BadKinds, rfl, rfl, rfl, by decide, by decide⟩) (all_cons (by exact ⟨sc_BadLog, _, _, _, _, T.c_BadLog, i_BadLog, rfl, rfl, rfl, by decide, by decide⟩) (all_cons (by exact ⟨sc_BadMachine, _, _, _, _, T.c_BadMachine, i_BadMachine, rfl, rfl, rfl, by decide, by decide⟩) (all_cons (by exact ⟨sc_BadWriter, _, _, _, _, T.c_BadWriter, i_BadWriter, rfl, rfl, rfl, by decide, by decide⟩) (all_cons (by exact ⟨sc_BadJob, _, _, _, _, T.c_BadJob, i_BadJob, rfl, rfl, rfl, by decide, by decide⟩) (all_cons (by exact ⟨sc_BadPaper, _, _, _, _, T.c_BadPaper, i_BadPaper, rfl, rfl, rfl, by decide, by decide⟩) (all_cons (by exact ⟨sc_NotKept, _, _, _, _, _, _, _, _, T.c_NotKept, i_NotKept, rfl, rfl, rfl, rfl, by decide, by decide, by decide, by decide⟩) all_nil)))))))))))
  cons := (all_cons T.k_MOST_KINDS (all_cons T.k_SIGNS (all_cons T.k_SMALL (all_cons T.k_TOLD all_nil))))
  free := (all_cons T.f_all (all_cons T.f_bool (all_cons T.f_enumerate (all_cons T.f_int (all_cons T.f_isinstance (all_cons T.f_len (all_cons T.f_list (all_cons T.f_max (all_cons T.f_range (all_cons T.f_repr (all_cons T.f_str (all_cons T.f_tuple all_nil))))))))))))
  kt := T.kt
  trys := (all_cons (try__law_refused T) all_nil)

abbrev st__law_all : Stmt := topS 49
abbrev N__law_all : List Str := ["kinds", "n", "found", "lap", "longer", "log", "many", "kind", "name"]
theorem n__law_all : FnScope N__law_all ["kinds", "n"] (defScope st__law_all) := ⟨rfl, rfl, rfl, by decide +kernel, rfl, by decide +kernel, by decide +kernel⟩
def h__law_all : HI := ⟨false, false, 0, [], [(221, 17, 221, 19)]⟩
def d__law_all : DI := ⟨"_law_all", 1, false, ["kinds", "n"], (fIso s__law_all)⟩
def G__law_all : Gam := gam []
theorem c__law_all : cFn G__law_all N__law_all 2 st__law_all h__law_all = some s__law_all := by kernel_rfl
theorem w__law_all (T : Txt P w K mg) (TBs : TabsB K mg base) : zdOf P w K mg base d__law_all := zd_compI (ps := ["kinds", "n"]) (h := h__law_all) T.d__law_all n__law_all (gok T TBs alld_nil) (fun h => nomatch h) (fun h => nomatch h) (fun h => nomatch h) c__law_all

abbrev st__law_draw : Stmt := topS 39
abbrev N__law_draw : List Str := ["pen", "many", "blend", "cell", "digit"]
theorem n__law_draw : FnScope N__law_draw ["pen", "many"] (defScope st__law_draw) := ⟨rfl, rfl, rfl, by decide +kernel, rfl, by decide +kernel, by decide +kernel⟩
def h__law_draw : HI := ⟨false, false, 0, [], []⟩
def d__law_draw : DI := ⟨"_law_draw", 1, false, ["pen", "many"], s__law_draw⟩
def G__law_draw : Gam := gam []
theorem c__law_draw : cFn G__law_draw N__law_draw 2 st__law_draw h__law_draw = some s__law_draw := by kernel_rfl
theorem w__law_draw (T : Txt P w K mg) (TBs : TabsB K mg base) : zdOf P w K mg base d__law_draw := zd_comp (ps := ["pen", "many"]) (h := h__law_draw) T.d__law_draw n__law_draw (gok T TBs alld_nil) (fun h => nomatch h) (fun h => nomatch h) (fun h => nomatch h) c__law_draw

abbrev st__law_shuffled : Stmt := topS 41
abbrev N__law_shuffled : List Str := ["pen", "items", "left", "found", "lap"]
theorem n__law_shuffled : FnScope N__law_shuffled ["pen", "items"] (defScope st__law_shuffled) := ⟨rfl, rfl, rfl, by decide +kernel, rfl, by decide +kernel, by decide +kernel⟩
def h__law_shuffled : HI := ⟨false, false, 1, [], [(159, 19, 159, 30), (159, 32, 159, 34)]⟩
def d__law_shuffled : DI := ⟨"_law_shuffled", 2, false, ["pen", "items"], s__law_shuffled⟩
def G__law_shuffled : Gam := gam [d__law_draw]
theorem c__law_shuffled : cFn G__law_shuffled N__law_shuffled 2 st__law_shuffled h__law_shuffled = some s__law_shuffled := by kernel_rfl
theorem w__law_shuffled (T : Txt P w K mg) (TBs : TabsB K mg base) : zdOf P w K mg base d__law_shuffled := zd_comp (ps := ["pen", "items"]) (h := h__law_shuffled) T.d__law_shuffled n__law_shuffled (gok T TBs (alld_cons (w__law_draw T TBs) alld_nil)) (fun h => nomatch h) (fun h => nomatch h) (fun h => nomatch h) c__law_shuffled

abbrev st__law_kinds : Stmt := topS 43
abbrev N__law_kinds : List Str := ["pen", "found", "name"]
theorem n__law_kinds : FnScope N__law_kinds ["pen"] (defScope st__law_kinds) := ⟨rfl, rfl, rfl, by decide +kernel, rfl, by decide +kernel, by decide +kernel⟩
def h__law_kinds : HI := ⟨false, false, 2, [], [(190, 12, 190, 25)]⟩
def d__law_kinds : DI := ⟨"_law_kinds", 3, false, ["pen"], s__law_kinds⟩
def G__law_kinds : Gam := gam [d__law_draw, d__law_shuffled]
theorem c__law_kinds : cFn G__law_kinds N__law_kinds 1 st__law_kinds h__law_kinds = some s__law_kinds := by kernel_rfl
theorem w__law_kinds (T : Txt P w K mg) (TBs : TabsB K mg base) : zdOf P w K mg base d__law_kinds := zd_comp (ps := ["pen"]) (h := h__law_kinds) T.d__law_kinds n__law_kinds (gok T TBs (alld_cons (w__law_draw T TBs) (alld_cons (w__law_shuffled T TBs) alld_nil))) (fun h => nomatch h) (fun h => nomatch h) (fun h => nomatch h) c__law_kinds

abbrev st__law_event : Stmt := topS 44
abbrev N__law_event : List Str := ["pen", "kinds", "most", "kind"]
theorem n__law_event : FnScope N__law_event ["pen", "kinds", "most"] (defScope st__law_event) := ⟨rfl, rfl, rfl, by decide +kernel, rfl, by decide +kernel, by decide +kernel⟩
def h__law_event : HI := ⟨false, false, 1, [], []⟩
def d__law_event : DI := ⟨"_law_event", 2, false, ["pen", "kinds", "most"], s__law_event⟩
def G__law_event : Gam := gam [d__law_draw]
theorem c__law_event : cFn G__law_event N__law_event 3 st__law_event h__law_event = some s__law_event := by kernel_rfl
theorem w__law_event (T : Txt P w K mg) (TBs : TabsB K mg base) : zdOf P w K mg base d__law_event := zd_comp (ps := ["pen", "kinds", "most"]) (h := h__law_event) T.d__law_event n__law_event (gok T TBs (alld_cons (w__law_draw T TBs) alld_nil)) (fun h => nomatch h) (fun h => nomatch h) (fun h => nomatch h) c__law_event

abbrev st__law_log : Stmt := topS 45
abbrev N__law_log : List Str := ["pen", "kinds", "many", "most", "lap"]
theorem n__law_log : FnScope N__law_log ["pen", "kinds", "many", "most"] (defScope st__law_log) := ⟨rfl, rfl, rfl, by decide +kernel, rfl, by decide +kernel, by decide +kernel⟩
def h__law_log : HI := ⟨false, false, 2, [], []⟩
def d__law_log : DI := ⟨"_law_log", 3, false, ["pen", "kinds", "many", "most"], s__law_log⟩
def G__law_log : Gam := gam [d__law_draw, d__law_event]
theorem c__law_log : cFn G__law_log N__law_log 4 st__law_log h__law_log = some s__law_log := by kernel_rfl
theorem w__law_log (T : Txt P w K mg) (TBs : TabsB K mg base) : zdOf P w K mg base d__law_log := zd_comp (ps := ["pen", "kinds", "many", "most"]) (h := h__law_log) T.d__law_log n__law_log (gok T TBs (alld_cons (w__law_draw T TBs) (alld_cons (w__law_event T TBs) alld_nil))) (fun h => nomatch h) (fun h => nomatch h) (fun h => nomatch h) c__law_log

abbrev st__law_pen : Stmt := topS 38
abbrev N__law_pen : List Str := ["script", "fold", "cell"]
theorem n__law_pen : FnScope N__law_pen ["script"] (defScope st__law_pen) := ⟨rfl, rfl, rfl, by decide +kernel, rfl, by decide +kernel, by decide +kernel⟩
def h__law_pen : HI := ⟨false, false, 0, [], []⟩
def d__law_pen : DI := ⟨"_law_pen", 1, false, ["script"], s__law_pen⟩
def G__law_pen : Gam := gam []
theorem c__law_pen : cFn G__law_pen N__law_pen 1 st__law_pen h__law_pen = some s__law_pen := by kernel_rfl
theorem w__law_pen (T : Txt P w K mg) (TBs : TabsB K mg base) : zdOf P w K mg base d__law_pen := zd_comp (ps := ["script"]) (h := h__law_pen) T.d__law_pen n__law_pen (gok T TBs alld_nil) (fun h => nomatch h) (fun h => nomatch h) (fun h => nomatch h) c__law_pen

abbrev st__law_pick : Stmt := topS 40
abbrev N__law_pick : List Str := ["pen", "some"]
theorem n__law_pick : FnScope N__law_pick ["pen", "some"] (defScope st__law_pick) := ⟨rfl, rfl, rfl, by decide +kernel, rfl, by decide +kernel, by decide +kernel⟩
def h__law_pick : HI := ⟨false, false, 1, [], []⟩
def d__law_pick : DI := ⟨"_law_pick", 2, false, ["pen", "some"], s__law_pick⟩
def G__law_pick : Gam := gam [d__law_draw]
theorem c__law_pick : cFn G__law_pick N__law_pick 2 st__law_pick h__law_pick = some s__law_pick := by kernel_rfl
theorem w__law_pick (T : Txt P w K mg) (TBs : TabsB K mg base) : zdOf P w K mg base d__law_pick := zd_comp (ps := ["pen", "some"]) (h := h__law_pick) T.d__law_pick n__law_pick (gok T TBs (alld_cons (w__law_draw T TBs) alld_nil)) (fun h => nomatch h) (fun h => nomatch h) (fun h => nomatch h) c__law_pick

abbrev st__law_plain : Stmt := topS 46
abbrev N__law_plain : List Str := ["log", "numbers", "found", "event"]
theorem n__law_plain : FnScope N__law_plain ["log"] (defScope st__law_plain) := ⟨rfl, rfl, rfl, by decide +kernel, rfl, by decide +kernel, by decide +kernel⟩
def h__law_plain : HI := ⟨false, false, 0, [], [(200, 26, 200, 28)]⟩
def d__law_plain : DI := ⟨"_law_plain", 1, false, ["log"], (fIso s__law_plain)⟩
def G__law_plain : Gam := gam []
theorem c__law_plain : cFn G__law_plain N__law_plain 1 st__law_plain h__law_plain = some s__law_plain := by kernel_rfl
theorem w__law_plain (T : Txt P w K mg) (TBs : TabsB K mg base) : zdOf P w K mg base d__law_plain := zd_compI (ps := ["log"]) (h := h__law_plain) T.d__law_plain n__law_plain (gok T TBs alld_nil) (fun h => nomatch h) (fun h => nomatch h) (fun h => nomatch h) c__law_plain

abbrev st__law_wrong_kinds : Stmt := topS 47
abbrev N__law_wrong_kinds : List Str := ["pen", "kinds", "some"]
theorem n__law_wrong_kinds : FnScope N__law_wrong_kinds ["pen", "kinds"] (defScope st__law_wrong_kinds) := ⟨rfl, rfl, rfl, by decide +kernel, rfl, by decide +kernel, by decide +kernel⟩
def h__law_wrong_kinds : HI := ⟨false, false, 2, [], []⟩
def d__law_wrong_kinds : DI := ⟨"_law_wrong_kinds", 3, false, ["pen", "kinds"], s__law_wrong_kinds⟩
def G__law_wrong_kinds : Gam := gam [d__law_pick]
theorem c__law_wrong_kinds : cFn G__law_wrong_kinds N__law_wrong_kinds 2 st__law_wrong_kinds h__law_wrong_kinds = some s__law_wrong_kinds := by kernel_rfl
theorem w__law_wrong_kinds (T : Txt P w K mg) (TBs : TabsB K mg base) : zdOf P w K mg base d__law_wrong_kinds := zd_comp (ps := ["pen", "kinds"]) (h := h__law_wrong_kinds) T.d__law_wrong_kinds n__law_wrong_kinds (gok T TBs (alld_cons (w__law_pick T TBs) alld_nil)) (fun h => nomatch h) (fun h => nomatch h) (fun h => nomatch h) c__law_wrong_kinds

abbrev st__law_wrong_log : Stmt := topS 48
abbrev N__law_wrong_log : List Str := ["pen", "kinds", "log", "k", "wrong", "some"]
theorem n__law_wrong_log : FnScope N__law_wrong_log ["pen", "kinds", "log"] (defScope st__law_wrong_log) := ⟨rfl, rfl, rfl, by decide +kernel, rfl, by decide +kernel, by decide +kernel⟩
def h__law_wrong_log : HI := ⟨false, false, 2, [], []⟩
def d__law_wrong_log : DI := ⟨"_law_wrong_log", 3, false, ["pen", "kinds", "log"], s__law_wrong_log⟩
def G__law_wrong_log : Gam := gam [d__law_pick]
theorem c__law_wrong_log : cFn G__law_wrong_log N__law_wrong_log 3 st__law_wrong_log h__law_wrong_log = some s__law_wrong_log := by kernel_rfl
theorem w__law_wrong_log (T : Txt P w K mg) (TBs : TabsB K mg base) : zdOf P w K mg base d__law_wrong_log := zd_comp (ps := ["pen", "kinds", "log"]) (h := h__law_wrong_log) T.d__law_wrong_log n__law_wrong_log (gok T TBs (alld_cons (w__law_pick T TBs) alld_nil)) (fun h => nomatch h) (fun h => nomatch h) (fun h => nomatch h) c__law_wrong_log

abbrev st_is_name : Stmt := topS 18
abbrev N_is_name : List Str := ["value", "sign"]
theorem n_is_name : FnScope N_is_name ["value"] (defScope st_is_name) := ⟨rfl, rfl, rfl, by decide +kernel, rfl, by decide +kernel, by decide +kernel⟩
def h_is_name : HI := ⟨false, false, 0, [], []⟩
def d_is_name : DI := ⟨"is_name", 1, false, ["value"], (fIso s_is_name)⟩
def G_is_name : Gam := gam []
theorem c_is_name : cFn G_is_name N_is_name 1 st_is_name h_is_name = some s_is_name := by kernel_rfl
theorem w_is_name (T : Txt P w K mg) (TBs : TabsB K mg base) : zdOf P w K mg base d_is_name := zd_compI (ps := ["value"]) (h := h_is_name) T.d_is_name n_is_name (gok T TBs alld_nil) (fun h => nomatch h) (fun h => nomatch h) (fun h => nomatch h) c_is_name

abbrev st_is_free_name : Stmt := topS 22
abbrev N_is_free_name : List Str := ["value"]
theorem n_is_free_name : FnScope N_is_free_name ["value"] (defScope st_is_free_name) := ⟨rfl, rfl, rfl, by decide +kernel, rfl, by decide +kernel, by decide +kernel⟩
def h_is_free_name : HI := ⟨false, false, 1, [], []⟩
def d_is_free_name : DI := ⟨"is_free_name", 2, false, ["value"], (fIso s_is_free_name)⟩
def G_is_free_name : Gam := gam [d_is_name]
theorem c_is_free_name : cFn G_is_free_name N_is_free_name 1 st_is_free_name h_is_free_name = some s_is_free_name := by kernel_rfl
theorem w_is_free_name (T : Txt P w K mg) (TBs : TabsB K mg base) : zdOf P w K mg base d_is_free_name := zd_compI (ps := ["value"]) (h := h_is_free_name) T.d_is_free_name n_is_free_name (gok T TBs (alld_cons (w_is_name T TBs) alld_nil)) (fun h => nomatch h) (fun h => nomatch h) (fun h => nomatch h) c_is_free_name

abbrev st_are_kinds : Stmt := topS 23
abbrev N_are_kinds : List Str := ["value", "kind"]
theorem n_are_kinds : FnScope N_are_kinds ["value"] (defScope st_are_kinds) := ⟨rfl, rfl, rfl, by decide +kernel, rfl, by decide +kernel, by decide +kernel⟩
def h_are_kinds : HI := ⟨false, false, 2, [], []⟩
def d_are_kinds : DI := ⟨"are_kinds", 3, false, ["value"], (fIso s_are_kinds)⟩
def G_are_kinds : Gam := gam [d_is_free_name]
theorem c_are_kinds : cFn G_are_kinds N_are_kinds 1 st_are_kinds h_are_kinds = some s_are_kinds := by kernel_rfl
theorem w_are_kinds (T : Txt P w K mg) (TBs : TabsB K mg base) : zdOf P w K mg base d_are_kinds := zd_compI (ps := ["value"]) (h := h_are_kinds) T.d_are_kinds n_are_kinds (gok T TBs (alld_cons (w_is_free_name T TBs) alld_nil)) (fun h => nomatch h) (fun h => nomatch h) (fun h => nomatch h) c_are_kinds

abbrev st_need_kinds : Stmt := topS 24
abbrev N_need_kinds : List Str := ["kinds"]
theorem n_need_kinds : FnScope N_need_kinds ["kinds"] (defScope st_need_kinds) := ⟨rfl, rfl, rfl, by decide +kernel, rfl, by decide +kernel, by decide +kernel⟩
def h_need_kinds : HI := ⟨false, false, 3, [], []⟩
def d_need_kinds : DI := ⟨"need_kinds", 4, false, ["kinds"], (fIso s_need_kinds)⟩
def G_need_kinds : Gam := gam [d_are_kinds]
theorem c_need_kinds : cFn G_need_kinds N_need_kinds 1 st_need_kinds h_need_kinds = some s_need_kinds := by kernel_rfl
theorem w_need_kinds (T : Txt P w K mg) (TBs : TabsB K mg base) : zdOf P w K mg base d_need_kinds := zd_compI (ps := ["kinds"]) (h := h_need_kinds) T.d_need_kinds n_need_kinds (gok T TBs (alld_cons (w_are_kinds T TBs) alld_nil)) (fun h => nomatch h) (fun h => nomatch h) (fun h => nomatch h) c_need_kinds

abbrev st_is_whole : Stmt := topS 15
abbrev N_is_whole : List Str := ["value"]
theorem n_is_whole : FnScope N_is_whole ["value"] (defScope st_is_whole) := ⟨rfl, rfl, rfl, by decide +kernel, rfl, by decide +kernel, by decide +kernel⟩
def h_is_whole : HI := ⟨false, false, 0, [], []⟩
def d_is_whole : DI := ⟨"is_whole", 1, false, ["value"], (fIso s_is_whole)⟩
def G_is_whole : Gam := gam []
theorem c_is_whole : cFn G_is_whole N_is_whole 1 st_is_whole h_is_whole = some s_is_whole := by kernel_rfl
theorem w_is_whole (T : Txt P w K mg) (TBs : TabsB K mg base) : zdOf P w K mg base d_is_whole := zd_compI (ps := ["value"]) (h := h_is_whole) T.d_is_whole n_is_whole (gok T TBs alld_nil) (fun h => nomatch h) (fun h => nomatch h) (fun h => nomatch h) c_is_whole

abbrev st_is_count : Stmt := topS 16
abbrev N_is_count : List Str := ["value"]
theorem n_is_count : FnScope N_is_count ["value"] (defScope st_is_count) := ⟨rfl, rfl, rfl, by decide +kernel, rfl, by decide +kernel, by decide +kernel⟩
def h_is_count : HI := ⟨false, false, 1, [], []⟩
def d_is_count : DI := ⟨"is_count", 2, false, ["value"], (fIso s_is_count)⟩
def G_is_count : Gam := gam [d_is_whole]
theorem c_is_count : cFn G_is_count N_is_count 1 st_is_count h_is_count = some s_is_count := by kernel_rfl
theorem w_is_count (T : Txt P w K mg) (TBs : TabsB K mg base) : zdOf P w K mg base d_is_count := zd_compI (ps := ["value"]) (h := h_is_count) T.d_is_count n_is_count (gok T TBs (alld_cons (w_is_whole T TBs) alld_nil)) (fun h => nomatch h) (fun h => nomatch h) (fun h => nomatch h) c_is_count

abbrev st_is_event_in : Stmt := topS 25
abbrev N_is_event_in : List Str := ["kinds", "value", "item"]
theorem n_is_event_in : FnScope N_is_event_in ["kinds", "value"] (defScope st_is_event_in) := ⟨rfl, rfl, rfl, by decide +kernel, rfl, by decide +kernel, by decide +kernel⟩
def h_is_event_in : HI := ⟨false, false, 2, [], []⟩
def d_is_event_in : DI := ⟨"is_event_in", 3, false, ["kinds", "value"], (fIso s_is_event_in)⟩
def G_is_event_in : Gam := gam [d_is_count]
theorem c_is_event_in : cFn G_is_event_in N_is_event_in 2 st_is_event_in h_is_event_in = some s_is_event_in := by kernel_rfl
theorem w_is_event_in (T : Txt P w K mg) (TBs : TabsB K mg base) : zdOf P w K mg base d_is_event_in := zd_compI (ps := ["kinds", "value"]) (h := h_is_event_in) T.d_is_event_in n_is_event_in (gok T TBs (alld_cons (w_is_count T TBs) alld_nil)) (fun h => nomatch h) (fun h => nomatch h) (fun h => nomatch h) c_is_event_in

abbrev st_is_log_in : Stmt := topS 26
abbrev N_is_log_in : List Str := ["kinds", "value", "event"]
theorem n_is_log_in : FnScope N_is_log_in ["kinds", "value"] (defScope st_is_log_in) := ⟨rfl, rfl, rfl, by decide +kernel, rfl, by decide +kernel, by decide +kernel⟩
def h_is_log_in : HI := ⟨false, false, 3, [], []⟩
def d_is_log_in : DI := ⟨"is_log_in", 4, false, ["kinds", "value"], (fIso s_is_log_in)⟩
def G_is_log_in : Gam := gam [d_is_event_in]
theorem c_is_log_in : cFn G_is_log_in N_is_log_in 2 st_is_log_in h_is_log_in = some s_is_log_in := by kernel_rfl
theorem w_is_log_in (T : Txt P w K mg) (TBs : TabsB K mg base) : zdOf P w K mg base d_is_log_in := zd_compI (ps := ["kinds", "value"]) (h := h_is_log_in) T.d_is_log_in n_is_log_in (gok T TBs (alld_cons (w_is_event_in T TBs) alld_nil)) (fun h => nomatch h) (fun h => nomatch h) (fun h => nomatch h) c_is_log_in

abbrev st_need_log : Stmt := topS 28
abbrev N_need_log : List Str := ["kinds", "log"]
theorem n_need_log : FnScope N_need_log ["kinds", "log"] (defScope st_need_log) := ⟨rfl, rfl, rfl, by decide +kernel, rfl, by decide +kernel, by decide +kernel⟩
def h_need_log : HI := ⟨false, false, 4, [], []⟩
def d_need_log : DI := ⟨"need_log", 5, false, ["kinds", "log"], (fIso s_need_log)⟩
def G_need_log : Gam := gam [d_is_log_in]
theorem c_need_log : cFn G_need_log N_need_log 2 st_need_log h_need_log = some s_need_log := by kernel_rfl
theorem w_need_log (T : Txt P w K mg) (TBs : TabsB K mg base) : zdOf P w K mg base d_need_log := zd_compI (ps := ["kinds", "log"]) (h := h_need_log) T.d_need_log n_need_log (gok T TBs (alld_cons (w_is_log_in T TBs) alld_nil)) (fun h => nomatch h) (fun h => nomatch h) (fun h => nomatch h) c_need_log

abbrev st_plain_in : Stmt := topS 29
abbrev N_plain_in : List Str := ["log", "numbers", "found", "event"]
theorem n_plain_in : FnScope N_plain_in ["log"] (defScope st_plain_in) := ⟨rfl, rfl, rfl, by decide +kernel, rfl, by decide +kernel, by decide +kernel⟩
def h_plain_in : HI := ⟨false, false, 0, [], [(92, 26, 92, 28)]⟩
def d_plain_in : DI := ⟨"plain_in", 1, false, ["log"], (fIso s_plain_in)⟩
def G_plain_in : Gam := gam []
theorem c_plain_in : cFn G_plain_in N_plain_in 1 st_plain_in h_plain_in = some s_plain_in := by kernel_rfl
theorem w_plain_in (T : Txt P w K mg) (TBs : TabsB K mg base) : zdOf P w K mg base d_plain_in := zd_compI (ps := ["log"]) (h := h_plain_in) T.d_plain_in n_plain_in (gok T TBs alld_nil) (fun h => nomatch h) (fun h => nomatch h) (fun h => nomatch h) c_plain_in

abbrev st_are_alike : Stmt := topS 31
abbrev N_are_alike : List Str := ["kinds", "first", "second"]
theorem n_are_alike : FnScope N_are_alike ["kinds", "first", "second"] (defScope st_are_alike) := ⟨rfl, rfl, rfl, by decide +kernel, rfl, by decide +kernel, by decide +kernel⟩
def h_are_alike : HI := ⟨false, false, 5, [], []⟩
def d_are_alike : DI := ⟨"are_alike", 6, false, ["kinds", "first", "second"], (fIso s_are_alike)⟩
def G_are_alike : Gam := gam [d_plain_in, d_need_kinds, d_need_log]
theorem c_are_alike : cFn G_are_alike N_are_alike 3 st_are_alike h_are_alike = some s_are_alike := by kernel_rfl
theorem w_are_alike (T : Txt P w K mg) (TBs : TabsB K mg base) : zdOf P w K mg base d_are_alike := zd_compI (ps := ["kinds", "first", "second"]) (h := h_are_alike) T.d_are_alike n_are_alike (gok T TBs (alld_cons (w_plain_in T TBs) (alld_cons (w_need_kinds T TBs) (alld_cons (w_need_log T TBs) alld_nil)))) (fun h => nomatch h) (fun h => nomatch h) (fun h => nomatch h) c_are_alike

abbrev st_is_less_in : Stmt := topS 32
abbrev N_is_less_in : List Str := ["first", "second"]
theorem n_is_less_in : FnScope N_is_less_in ["first", "second"] (defScope st_is_less_in) := ⟨rfl, rfl, rfl, by decide +kernel, rfl, by decide +kernel, by decide +kernel⟩
def h_is_less_in : HI := ⟨false, false, 0, [], []⟩
def d_is_less_in : DI := ⟨"is_less_in", 1, false, ["first", "second"], (fIso s_is_less_in)⟩
def G_is_less_in : Gam := gam []
theorem c_is_less_in : cFn G_is_less_in N_is_less_in 2 st_is_less_in h_is_less_in = some s_is_less_in := by kernel_rfl
theorem w_is_less_in (T : Txt P w K mg) (TBs : TabsB K mg base) : zdOf P w K mg base d_is_less_in := zd_compI (ps := ["first", "second"]) (h := h_is_less_in) T.d_is_less_in n_is_less_in (gok T TBs alld_nil) (fun h => nomatch h) (fun h => nomatch h) (fun h => nomatch h) c_is_less_in

abbrev st_is_less_log : Stmt := topS 33
abbrev N_is_less_log : List Str := ["kinds", "first", "second"]
theorem n_is_less_log : FnScope N_is_less_log ["kinds", "first", "second"] (defScope st_is_less_log) := ⟨rfl, rfl, rfl, by decide +kernel, rfl, by decide +kernel, by decide +kernel⟩
def h_is_less_log : HI := ⟨false, false, 5, [], []⟩
def d_is_less_log : DI := ⟨"is_less_log", 6, false, ["kinds", "first", "second"], (fIso s_is_less_log)⟩
def G_is_less_log : Gam := gam [d_is_less_in, d_need_kinds, d_need_log]
theorem c_is_less_log : cFn G_is_less_log N_is_less_log 3 st_is_less_log h_is_less_log = some s_is_less_log := by kernel_rfl
theorem w_is_less_log (T : Txt P w K mg) (TBs : TabsB K mg base) : zdOf P w K mg base d_is_less_log := zd_compI (ps := ["kinds", "first", "second"]) (h := h_is_less_log) T.d_is_less_log n_is_less_log (gok T TBs (alld_cons (w_is_less_in T TBs) (alld_cons (w_need_kinds T TBs) (alld_cons (w_need_log T TBs) alld_nil)))) (fun h => nomatch h) (fun h => nomatch h) (fun h => nomatch h) c_is_less_log

abbrev st_is_log : Stmt := topS 27
abbrev N_is_log : List Str := ["kinds", "value"]
theorem n_is_log : FnScope N_is_log ["kinds", "value"] (defScope st_is_log) := ⟨rfl, rfl, rfl, by decide +kernel, rfl, by decide +kernel, by decide +kernel⟩
def h_is_log : HI := ⟨false, false, 4, [], []⟩
def d_is_log : DI := ⟨"is_log", 5, false, ["kinds", "value"], (fIso s_is_log)⟩
def G_is_log : Gam := gam [d_is_log_in, d_need_kinds]
theorem c_is_log : cFn G_is_log N_is_log 2 st_is_log h_is_log = some s_is_log := by kernel_rfl
theorem w_is_log (T : Txt P w K mg) (TBs : TabsB K mg base) : zdOf P w K mg base d_is_log := zd_compI (ps := ["kinds", "value"]) (h := h_is_log) T.d_is_log n_is_log (gok T TBs (alld_cons (w_is_log_in T TBs) (alld_cons (w_need_kinds T TBs) alld_nil))) (fun h => nomatch h) (fun h => nomatch h) (fun h => nomatch h) c_is_log

abbrev st_need_count : Stmt := topS 17
abbrev N_need_count : List Str := ["what", "value"]
theorem n_need_count : FnScope N_need_count ["what", "value"] (defScope st_need_count) := ⟨rfl, rfl, rfl, by decide +kernel, rfl, by decide +kernel, by decide +kernel⟩
def h_need_count : HI := ⟨false, false, 2, [], []⟩
def d_need_count : DI := ⟨"need_count", 3, false, ["what", "value"], (fIso s_need_count)⟩
def G_need_count : Gam := gam [d_is_count]
theorem c_need_count : cFn G_need_count N_need_count 2 st_need_count h_need_count = some s_need_count := by kernel_rfl
theorem w_need_count (T : Txt P w K mg) (TBs : TabsB K mg base) : zdOf P w K mg base d_need_count := zd_compI (ps := ["what", "value"]) (h := h_need_count) T.d_need_count n_need_count (gok T TBs (alld_cons (w_is_count T TBs) alld_nil)) (fun h => nomatch h) (fun h => nomatch h) (fun h => nomatch h) c_need_count

abbrev st_plain_logs : Stmt := topS 35
abbrev N_plain_logs : List Str := ["kinds", "n", "found", "lap", "longer", "log", "many", "k", "kind", "name"]
theorem n_plain_logs : FnScope N_plain_logs ["kinds", "n"] (defScope st_plain_logs) := ⟨rfl, rfl, rfl, by decide +kernel, rfl, by decide +kernel, by decide +kernel⟩
def h_plain_logs : HI := ⟨false, false, 0, [], [(122, 17, 122, 19)]⟩
def d_plain_logs : DI := ⟨"plain_logs", 1, false, ["kinds", "n"], (fIso s_plain_logs)⟩
def G_plain_logs : Gam := gam []
theorem c_plain_logs : cFn G_plain_logs N_plain_logs 2 st_plain_logs h_plain_logs = some s_plain_logs := by kernel_rfl
theorem w_plain_logs (T : Txt P w K mg) (TBs : TabsB K mg base) : zdOf P w K mg base d_plain_logs := zd_compI (ps := ["kinds", "n"]) (h := h_plain_logs) T.d_plain_logs n_plain_logs (gok T TBs alld_nil) (fun h => nomatch h) (fun h => nomatch h) (fun h => nomatch h) c_plain_logs

abbrev st_logs_of_length : Stmt := topS 36
abbrev N_logs_of_length : List Str := ["kinds", "n"]
theorem n_logs_of_length : FnScope N_logs_of_length ["kinds", "n"] (defScope st_logs_of_length) := ⟨rfl, rfl, rfl, by decide +kernel, rfl, by decide +kernel, by decide +kernel⟩
def h_logs_of_length : HI := ⟨false, false, 4, [], []⟩
def d_logs_of_length : DI := ⟨"logs_of_length", 5, false, ["kinds", "n"], (fIso s_logs_of_length)⟩
def G_logs_of_length : Gam := gam [d_plain_logs, d_need_kinds, d_need_count]
theorem c_logs_of_length : cFn G_logs_of_length N_logs_of_length 2 st_logs_of_length h_logs_of_length = some s_logs_of_length := by kernel_rfl
theorem w_logs_of_length (T : Txt P w K mg) (TBs : TabsB K mg base) : zdOf P w K mg base d_logs_of_length := zd_compI (ps := ["kinds", "n"]) (h := h_logs_of_length) T.d_logs_of_length n_logs_of_length (gok T TBs (alld_cons (w_plain_logs T TBs) (alld_cons (w_need_kinds T TBs) (alld_cons (w_need_count T TBs) alld_nil)))) (fun h => nomatch h) (fun h => nomatch h) (fun h => nomatch h) c_logs_of_length

abbrev st_names_in : Stmt := topS 34
abbrev N_names_in : List Str := ["kinds", "log", "event"]
theorem n_names_in : FnScope N_names_in ["kinds", "log"] (defScope st_names_in) := ⟨rfl, rfl, rfl, by decide +kernel, rfl, by decide +kernel, by decide +kernel⟩
def h_names_in : HI := ⟨false, false, 5, [], []⟩
def d_names_in : DI := ⟨"names_in", 6, false, ["kinds", "log"], (fIso s_names_in)⟩
def G_names_in : Gam := gam [d_need_kinds, d_need_log]
theorem c_names_in : cFn G_names_in N_names_in 2 st_names_in h_names_in = some s_names_in := by kernel_rfl
theorem w_names_in (T : Txt P w K mg) (TBs : TabsB K mg base) : zdOf P w K mg base d_names_in := zd_compI (ps := ["kinds", "log"]) (h := h_names_in) T.d_names_in n_names_in (gok T TBs (alld_cons (w_need_kinds T TBs) (alld_cons (w_need_log T TBs) alld_nil))) (fun h => nomatch h) (fun h => nomatch h) (fun h => nomatch h) c_names_in

abbrev st_plain_log : Stmt := topS 30
abbrev N_plain_log : List Str := ["kinds", "log"]
theorem n_plain_log : FnScope N_plain_log ["kinds", "log"] (defScope st_plain_log) := ⟨rfl, rfl, rfl, by decide +kernel, rfl, by decide +kernel, by decide +kernel⟩
def h_plain_log : HI := ⟨false, false, 5, [], []⟩
def d_plain_log : DI := ⟨"plain_log", 6, false, ["kinds", "log"], (fIso s_plain_log)⟩
def G_plain_log : Gam := gam [d_plain_in, d_need_kinds, d_need_log]
theorem c_plain_log : cFn G_plain_log N_plain_log 2 st_plain_log h_plain_log = some s_plain_log := by kernel_rfl
theorem w_plain_log (T : Txt P w K mg) (TBs : TabsB K mg base) : zdOf P w K mg base d_plain_log := zd_compI (ps := ["kinds", "log"]) (h := h_plain_log) T.d_plain_log n_plain_log (gok T TBs (alld_cons (w_plain_in T TBs) (alld_cons (w_need_kinds T TBs) (alld_cons (w_need_log T TBs) alld_nil)))) (fun h => nomatch h) (fun h => nomatch h) (fun h => nomatch h) c_plain_log

abbrev st_law : Stmt := topS 50
abbrev N_law : List Str := ["script", "pen", "lap", "told", "kinds", "log", "other", "turned", "due", "names", "event", "n", "none", "odd", "bad", "found", "call", "word"]
theorem n_law : FnScope N_law ["script"] (defScope st_law) := ⟨rfl, rfl, rfl, by decide +kernel, rfl, by decide +kernel, by decide +kernel⟩
def h_law : HI := ⟨true, true, 8, ["are_alike", "is_less_log", "is_log", "plain_log", "names_in", "logs_of_length"], [(246, 16, 246, 18), (258, 16, 258, 114), (259, 16, 259, 107), (260, 16, 260, 98)]⟩
def d_law : DI := ⟨"law", 9, true, ["script"], s_law⟩
def G_law : Gam := gam [d__law_pen, d__law_kinds, d__law_log, d_plain_log, d__law_plain, d_is_log, d_are_kinds, d_are_alike, d_is_less_log, d_names_in, d__law_draw, d_logs_of_length, d__law_all, d__law_pick, d__law_wrong_log, d__law_wrong_kinds, d_is_free_name]
theorem c_law : cFn G_law N_law 1 st_law h_law = some s_law := by kernel_rfl
theorem w_law (T : Txt P w K mg) (TBs : TabsB K mg base) : zdOf P w K mg base d_law := zd_comp (ps := ["script"]) (h := h_law) T.d_law n_law (gok T TBs (alld_cons (w__law_pen T TBs) (alld_cons (w__law_kinds T TBs) (alld_cons (w__law_log T TBs) (alld_cons (w_plain_log T TBs) (alld_cons (w__law_plain T TBs) (alld_cons (w_is_log T TBs) (alld_cons (w_are_kinds T TBs) (alld_cons (w_are_alike T TBs) (alld_cons (w_is_less_log T TBs) (alld_cons (w_names_in T TBs) (alld_cons (w__law_draw T TBs) (alld_cons (w_logs_of_length T TBs) (alld_cons (w__law_all T TBs) (alld_cons (w__law_pick T TBs) (alld_cons (w__law_wrong_log T TBs) (alld_cons (w__law_wrong_kinds T TBs) (alld_cons (w_is_free_name T TBs) alld_nil)))))))))))))))))) (fun _ => TBs) (fun _ => by decide +kernel) (fun _ _ _ _ => rfl) c_law

end

theorem b__law_all {K : PySem.W.Frag} {f : Addr} (fd : FuncData) (F : Fun K "_law_all" "_law_all" st__law_all f fd) : Binds K fd ["kinds", "n"] [] := F.binds (ps := ["kinds", "n"]) fun _ _ _ _ _ _ us hl => match us, hl with | [_, _], _ => rfl

theorem b__law_draw {K : PySem.W.Frag} {f : Addr} (fd : FuncData) (F : Fun K "_law_draw" "_law_draw" st__law_draw f fd) : Binds K fd ["pen", "many"] [] := F.binds (ps := ["pen", "many"]) fun _ _ _ _ _ _ us hl => match us, hl with | [_, _], _ => rfl

theorem b__law_shuffled {K : PySem.W.Frag} {f : Addr} (fd : FuncData) (F : Fun K "_law_shuffled" "_law_shuffled" st__law_shuffled f fd) : Binds K fd ["pen", "items"] [] := F.binds (ps := ["pen", "items"]) fun _ _ _ _ _ _ us hl => match us, hl with | [_, _], _ => rfl

theorem b__law_kinds {K : PySem.W.Frag} {f : Addr} (fd : FuncData) (F : Fun K "_law_kinds" "_law_kinds" st__law_kinds f fd) : Binds K fd ["pen"] [] := F.binds (ps := ["pen"]) fun _ _ _ _ _ _ us hl => match us, hl with | [_], _ => rfl

theorem b__law_event {K : PySem.W.Frag} {f : Addr} (fd : FuncData) (F : Fun K "_law_event" "_law_event" st__law_event f fd) : Binds K fd ["pen", "kinds", "most"] [] := F.binds (ps := ["pen", "kinds", "most"]) fun _ _ _ _ _ _ us hl => match us, hl with | [_, _, _], _ => rfl

theorem b__law_log {K : PySem.W.Frag} {f : Addr} (fd : FuncData) (F : Fun K "_law_log" "_law_log" st__law_log f fd) : Binds K fd ["pen", "kinds", "many", "most"] [] := F.binds (ps := ["pen", "kinds", "many", "most"]) fun _ _ _ _ _ _ us hl => match us, hl with | [_, _, _, _], _ => rfl

theorem b__law_pen {K : PySem.W.Frag} {f : Addr} (fd : FuncData) (F : Fun K "_law_pen" "_law_pen" st__law_pen f fd) : Binds K fd ["script"] [] := F.binds (ps := ["script"]) fun _ _ _ _ _ _ us hl => match us, hl with | [_], _ => rfl

theorem b__law_pick {K : PySem.W.Frag} {f : Addr} (fd : FuncData) (F : Fun K "_law_pick" "_law_pick" st__law_pick f fd) : Binds K fd ["pen", "some"] [] := F.binds (ps := ["pen", "some"]) fun _ _ _ _ _ _ us hl => match us, hl with | [_, _], _ => rfl

theorem b__law_plain {K : PySem.W.Frag} {f : Addr} (fd : FuncData) (F : Fun K "_law_plain" "_law_plain" st__law_plain f fd) : Binds K fd ["log"] [] := F.binds (ps := ["log"]) fun _ _ _ _ _ _ us hl => match us, hl with | [_], _ => rfl

theorem b__law_wrong_kinds {K : PySem.W.Frag} {f : Addr} (fd : FuncData) (F : Fun K "_law_wrong_kinds" "_law_wrong_kinds" st__law_wrong_kinds f fd) : Binds K fd ["pen", "kinds"] [] := F.binds (ps := ["pen", "kinds"]) fun _ _ _ _ _ _ us hl => match us, hl with | [_, _], _ => rfl

theorem b__law_wrong_log {K : PySem.W.Frag} {f : Addr} (fd : FuncData) (F : Fun K "_law_wrong_log" "_law_wrong_log" st__law_wrong_log f fd) : Binds K fd ["pen", "kinds", "log"] [] := F.binds (ps := ["pen", "kinds", "log"]) fun _ _ _ _ _ _ us hl => match us, hl with | [_, _, _], _ => rfl

theorem b_is_name {K : PySem.W.Frag} {f : Addr} (fd : FuncData) (F : Fun K "is_name" "is_name" st_is_name f fd) : Binds K fd ["value"] [] := F.binds (ps := ["value"]) fun _ _ _ _ _ _ us hl => match us, hl with | [_], _ => rfl

theorem b_is_free_name {K : PySem.W.Frag} {f : Addr} (fd : FuncData) (F : Fun K "is_free_name" "is_free_name" st_is_free_name f fd) : Binds K fd ["value"] [] := F.binds (ps := ["value"]) fun _ _ _ _ _ _ us hl => match us, hl with | [_], _ => rfl

theorem b_are_kinds {K : PySem.W.Frag} {f : Addr} (fd : FuncData) (F : Fun K "are_kinds" "are_kinds" st_are_kinds f fd) : Binds K fd ["value"] [] := F.binds (ps := ["value"]) fun _ _ _ _ _ _ us hl => match us, hl with | [_], _ => rfl

theorem b_need_kinds {K : PySem.W.Frag} {f : Addr} (fd : FuncData) (F : Fun K "need_kinds" "need_kinds" st_need_kinds f fd) : Binds K fd ["kinds"] [] := F.binds (ps := ["kinds"]) fun _ _ _ _ _ _ us hl => match us, hl with | [_], _ => rfl

theorem b_is_whole {K : PySem.W.Frag} {f : Addr} (fd : FuncData) (F : Fun K "is_whole" "is_whole" st_is_whole f fd) : Binds K fd ["value"] [] := F.binds (ps := ["value"]) fun _ _ _ _ _ _ us hl => match us, hl with | [_], _ => rfl

theorem b_is_count {K : PySem.W.Frag} {f : Addr} (fd : FuncData) (F : Fun K "is_count" "is_count" st_is_count f fd) : Binds K fd ["value"] [] := F.binds (ps := ["value"]) fun _ _ _ _ _ _ us hl => match us, hl with | [_], _ => rfl

theorem b_is_event_in {K : PySem.W.Frag} {f : Addr} (fd : FuncData) (F : Fun K "is_event_in" "is_event_in" st_is_event_in f fd) : Binds K fd ["kinds", "value"] [] := F.binds (ps := ["kinds", "value"]) fun _ _ _ _ _ _ us hl => match us, hl with | [_, _], _ => rfl

theorem b_is_log_in {K : PySem.W.Frag} {f : Addr} (fd : FuncData) (F : Fun K "is_log_in" "is_log_in" st_is_log_in f fd) : Binds K fd ["kinds", "value"] [] := F.binds (ps := ["kinds", "value"]) fun _ _ _ _ _ _ us hl => match us, hl with | [_, _], _ => rfl

theorem b_need_log {K : PySem.W.Frag} {f : Addr} (fd : FuncData) (F : Fun K "need_log" "need_log" st_need_log f fd) : Binds K fd ["kinds", "log"] [] := F.binds (ps := ["kinds", "log"]) fun _ _ _ _ _ _ us hl => match us, hl with | [_, _], _ => rfl

theorem b_plain_in {K : PySem.W.Frag} {f : Addr} (fd : FuncData) (F : Fun K "plain_in" "plain_in" st_plain_in f fd) : Binds K fd ["log"] [] := F.binds (ps := ["log"]) fun _ _ _ _ _ _ us hl => match us, hl with | [_], _ => rfl

theorem b_are_alike {K : PySem.W.Frag} {f : Addr} (fd : FuncData) (F : Fun K "are_alike" "are_alike" st_are_alike f fd) : Binds K fd ["kinds", "first", "second"] [] := F.binds (ps := ["kinds", "first", "second"]) fun _ _ _ _ _ _ us hl => match us, hl with | [_, _, _], _ => rfl

theorem b_is_less_in {K : PySem.W.Frag} {f : Addr} (fd : FuncData) (F : Fun K "is_less_in" "is_less_in" st_is_less_in f fd) : Binds K fd ["first", "second"] [] := F.binds (ps := ["first", "second"]) fun _ _ _ _ _ _ us hl => match us, hl with | [_, _], _ => rfl

theorem b_is_less_log {K : PySem.W.Frag} {f : Addr} (fd : FuncData) (F : Fun K "is_less_log" "is_less_log" st_is_less_log f fd) : Binds K fd ["kinds", "first", "second"] [] := F.binds (ps := ["kinds", "first", "second"]) fun _ _ _ _ _ _ us hl => match us, hl with | [_, _, _], _ => rfl

theorem b_is_log {K : PySem.W.Frag} {f : Addr} (fd : FuncData) (F : Fun K "is_log" "is_log" st_is_log f fd) : Binds K fd ["kinds", "value"] [] := F.binds (ps := ["kinds", "value"]) fun _ _ _ _ _ _ us hl => match us, hl with | [_, _], _ => rfl

theorem b_need_count {K : PySem.W.Frag} {f : Addr} (fd : FuncData) (F : Fun K "need_count" "need_count" st_need_count f fd) : Binds K fd ["what", "value"] [] := F.binds (ps := ["what", "value"]) fun _ _ _ _ _ _ us hl => match us, hl with | [_, _], _ => rfl

theorem b_plain_logs {K : PySem.W.Frag} {f : Addr} (fd : FuncData) (F : Fun K "plain_logs" "plain_logs" st_plain_logs f fd) : Binds K fd ["kinds", "n"] [] := F.binds (ps := ["kinds", "n"]) fun _ _ _ _ _ _ us hl => match us, hl with | [_, _], _ => rfl

theorem b_logs_of_length {K : PySem.W.Frag} {f : Addr} (fd : FuncData) (F : Fun K "logs_of_length" "logs_of_length" st_logs_of_length f fd) : Binds K fd ["kinds", "n"] [] := F.binds (ps := ["kinds", "n"]) fun _ _ _ _ _ _ us hl => match us, hl with | [_, _], _ => rfl

theorem b_names_in {K : PySem.W.Frag} {f : Addr} (fd : FuncData) (F : Fun K "names_in" "names_in" st_names_in f fd) : Binds K fd ["kinds", "log"] [] := F.binds (ps := ["kinds", "log"]) fun _ _ _ _ _ _ us hl => match us, hl with | [_, _], _ => rfl

theorem b_plain_log {K : PySem.W.Frag} {f : Addr} (fd : FuncData) (F : Fun K "plain_log" "plain_log" st_plain_log f fd) : Binds K fd ["kinds", "log"] [] := F.binds (ps := ["kinds", "log"]) fun _ _ _ _ _ _ us hl => match us, hl with | [_, _], _ => rfl

theorem b_law {K : PySem.W.Frag} {f : Addr} (fd : FuncData) (F : Fun K "law" "law" st_law f fd) : Binds K fd ["script"] [] := F.binds (ps := ["script"]) fun _ _ _ _ _ _ us hl => match us, hl with | [_], _ => rfl

theorem b__law_refused {K : PySem.W.Frag} {f : Addr} (fd : FuncData) (F : Fun K "_law_refused" "_law_refused" st__law_refused f fd) : Binds K fd ["call"] [] := F.binds (ps := ["call"]) fun _ _ _ _ _ _ us hl => match us, hl with | [_], _ => rfl

theorem b_BadText {K : PySem.W.Frag} {f : Addr} (fd : FuncData) (F : Fun K "__init__" ("BadText" ++ ".__init__") sc_BadText f fd) : Binds K fd ["self", "line", "column"] [] := F.binds (ps := ["self", "line", "column"]) fun _ _ _ _ _ _ us hl => match us, hl with | [_, _, _], _ => rfl

theorem b_BadNumber {K : PySem.W.Frag} {f : Addr} (fd : FuncData) (F : Fun K "__init__" ("BadNumber" ++ ".__init__") sc_BadNumber f fd) : Binds K fd ["self", "what", "number"] [] := F.binds (ps := ["self", "what", "number"]) fun _ _ _ _ _ _ us hl => match us, hl with | [_, _, _], _ => rfl

theorem b_BadName {K : PySem.W.Frag} {f : Addr} (fd : FuncData) (F : Fun K "__init__" ("BadName" ++ ".__init__") sc_BadName f fd) : Binds K fd ["self", "name"] [] := F.binds (ps := ["self", "name"]) fun _ _ _ _ _ _ us hl => match us, hl with | [_, _], _ => rfl

theorem b_NoName {K : PySem.W.Frag} {f : Addr} (fd : FuncData) (F : Fun K "__init__" ("NoName" ++ ".__init__") sc_NoName f fd) : Binds K fd ["self", "name"] [] := F.binds (ps := ["self", "name"]) fun _ _ _ _ _ _ us hl => match us, hl with | [_, _], _ => rfl

theorem b_BadKinds {K : PySem.W.Frag} {f : Addr} (fd : FuncData) (F : Fun K "__init__" ("BadKinds" ++ ".__init__") sc_BadKinds f fd) : Binds K fd ["self", "kinds"] [] := F.binds (ps := ["self", "kinds"]) fun _ _ _ _ _ _ us hl => match us, hl with | [_, _], _ => rfl

theorem b_BadLog {K : PySem.W.Frag} {f : Addr} (fd : FuncData) (F : Fun K "__init__" ("BadLog" ++ ".__init__") sc_BadLog f fd) : Binds K fd ["self", "log"] [] := F.binds (ps := ["self", "log"]) fun _ _ _ _ _ _ us hl => match us, hl with | [_, _], _ => rfl

theorem b_BadMachine {K : PySem.W.Frag} {f : Addr} (fd : FuncData) (F : Fun K "__init__" ("BadMachine" ++ ".__init__") sc_BadMachine f fd) : Binds K fd ["self", "machine"] [] := F.binds (ps := ["self", "machine"]) fun _ _ _ _ _ _ us hl => match us, hl with | [_, _], _ => rfl

theorem b_BadWriter {K : PySem.W.Frag} {f : Addr} (fd : FuncData) (F : Fun K "__init__" ("BadWriter" ++ ".__init__") sc_BadWriter f fd) : Binds K fd ["self", "writer"] [] := F.binds (ps := ["self", "writer"]) fun _ _ _ _ _ _ us hl => match us, hl with | [_, _], _ => rfl

theorem b_BadJob {K : PySem.W.Frag} {f : Addr} (fd : FuncData) (F : Fun K "__init__" ("BadJob" ++ ".__init__") sc_BadJob f fd) : Binds K fd ["self", "job"] [] := F.binds (ps := ["self", "job"]) fun _ _ _ _ _ _ us hl => match us, hl with | [_, _], _ => rfl

theorem b_BadPaper {K : PySem.W.Frag} {f : Addr} (fd : FuncData) (F : Fun K "__init__" ("BadPaper" ++ ".__init__") sc_BadPaper f fd) : Binds K fd ["self", "paper"] [] := F.binds (ps := ["self", "paper"]) fun _ _ _ _ _ _ us hl => match us, hl with | [_, _], _ => rfl

theorem b_NotKept {K : PySem.W.Frag} {f : Addr} (fd : FuncData) (F : Fun K "__init__" ("NotKept" ++ ".__init__") sc_NotKept f fd) : Binds K fd ["self", "promise", "witness"] [] := F.binds (ps := ["self", "promise", "witness"]) fun _ _ _ _ _ _ us hl => match us, hl with | [_, _, _], _ => rfl

end K01

/-! kinds and logs in the text of k01 -/
namespace Zn
open PySem PySem.Spec L2 Z
/-- a comprehension whose element is plain -/
theorem lcL_map {i : Nat} {f : EF} {ρ : Rho} {m : M} {h : D → D} : ∀ {ds : List D}, (∀ d ∈ ds, f (ρ.set i (some d)) m = .ok (h d) m) → lcL (gNm i) tYesF f ρ ds m = .ok (ds.map h) m
  | [], _ => rfl
  | d :: ds, H => by
    have ih := lcL_map (ds := ds) (ρ := ρ) fun x hx => H x (List.mem_cons_of_mem _ hx)
    show (match f (ρ.set i (some d)) m with
      | .ok x m3 => match lcL (gNm i) tYesF f ρ ds m3 with
        | .ok xs m4 => R.ok (x :: xs) m4
        | _ => .bad
      | _ => .bad) = _
    rw [H d List.mem_cons_self]
    dsimp only
    rw [ih]
    rfl
theorem flc_any {i : Nat} {f fe : EF} {ρ : Rho} {m : M} {h : D → D} {ds : List D} (e : wAny fe ρ m = .ok (.list ds) m) (hl : ds.length ≤ 1000) (H : ∀ d ∈ ds, f ((ρ.set i none).set i (some d)) m = .ok (h d) m) : fLc (wAny fe) [i] (gNm i) tYesF f ρ m = .ok (.sl (ds.map h)) m := by
  unfold fLc
  rw [e, bind_ok]
  show (match lcL (gNm i) tYesF f (ρ.set i none) ds m with
    | .ok xs m2 => match Nat.ble xs.length 16777216 with
      | true => (R.ok xs m2 : R (List D))
      | false => .bad
    | _ => .bad).bind _ = _
  rw [lcL_map H]
  dsimp only
  rw [show Nat.ble (ds.map h).length 16777216 = true from Nat.ble_eq_true_of_le (by rw [List.length_map]; omega)]
  rfl
theorem wAny_tup {fe : EF} {ρ : Rho} {m : M} {ds : List D} (h : fe ρ m = .ok (.tup ds) m) : wAny fe ρ m = .ok (.list ds) m := by
  unfold wAny
  rw [h]
  rfl
theorem wAny_sl {fe : EF} {ρ : Rho} {m : M} {ds : List D} (h : fe ρ m = .ok (.sl ds) m) : wAny fe ρ m = .ok (.list ds) m := by
  unfold wAny
  rw [h]
  rfl
theorem bls_map {α : Type} (b : α → Bool) : ∀ l : List α, blsD (l.map fun x => D.bl (b x)) = some (l.map b)
  | [] => rfl
  | x :: l => by
    show (blsD (l.map fun x => D.bl (b x))).map (b x :: ·) = _
    rw [bls_map b l]
    rfl
theorem all_sl {α : Type} (b : α → Bool) (l : List α) (m : M) : bAll [.sl (l.map fun x => D.bl (b x))] m = .ok (.bl (l.all b)) m := by
  show (match blsD (l.map fun x => D.bl (b x)) with | some bs => R.ok (D.bl (bs.all id)) m | none => .bad) = _
  rw [bls_map]
  dsimp only
  rw [List.all_map]
  rfl
theorem atD0 (x : D) (xs : List D) : atD (x :: xs) 0 = some x := by
  unfold atD ixD
  rw [if_pos (by decide), if_pos (by rw [List.length_cons]; omega)]
  rfl
theorem atD1 (x y : D) (xs : List D) : atD (x :: y :: xs) 1 = some y := by
  unfold atD ixD
  rw [if_pos (by decide), if_pos (by rw [List.length_cons, List.length_cons]; omega)]
  rfl
/-! ### logs -/
abbrev Ev := Nat × Option Nat
def evD : Ev → D
  | (k, none) => .tup [.int k]
  | (k, some n) => .tup [.int k, .int n]
def evP : Ev → PyData
  | (k, none) => .tuple [.int k]
  | (k, some n) => .tuple [.int k, .int n]
abbrev logD (l : List Ev) : D := .tup (l.map evD)
abbrev logP (l : List Ev) : PyData := .tuple (l.map evP)
theorem pl_ev : ∀ e : Ev, Pl 1 (evD e) (evP e)
  | (k, none) => pl_tup (.cons (pl_int _) .nil)
  | (k, some n) => pl_tup (.cons (pl_int _) (.cons (pl_int _) .nil))
theorem pl_log (l : List Ev) : Pl 2 (logD l) (logP l) := pl_tup (Pls.map pl_ev l)
theorem nr_ev : ∀ e : Ev, noRef (evD e) = true
  | (k, none) => rfl
  | (k, some n) => rfl
theorem nr_log (l : List Ev) : noRef (logD l) = true := noRefs_map nr_ev l
/-! ### kinds -/
abbrev Kd := Str × Bool
def kdD (p : Kd) : D := .tup [.str p.1, .bl p.2]
abbrev kindsD (ks : List Kd) : D := .tup (ks.map kdD)
theorem nr_kinds (ks : List Kd) : noRef (kindsD ks) = true := noRefs_map (g := kdD) (fun _ => rfl) ks
theorem at_kd {ks : List Kd} {k : Nat} {p : Kd} (h : ks[k]? = some p) : atD (ks.map kdD) (k : Int) = some (kdD p) := by
  have hk := (List.getElem?_eq_some_iff.mp h).1
  unfold atD ixD
  rw [if_pos (by omega), if_pos (by rw [List.length_map]; omega)]
  show (ks.map kdD)[(k : Int).toNat]? = _
  rw [Int.toNat_natCast, List.getElem?_map, h]
  rfl
/-- an event of these kinds -/
def okE (ks : List Kd) (e : Ev) : Prop := (ks[e.1]?).map (·.2) = some e.2.isSome
end Zn
namespace K01
open PySem PySem.Spec L2 Z Zn
theorem whole_int (i : Int) (m : M) : fIso s_is_whole [.int i] m = .ok (.bl true) m := by
  refine iso_ok (m1 := []) rfl ?_ rfl
  unfold s_is_whole
  rw [fn1]
  simp only [sSeq, sAsg, sIf, sSet, sRet, sNil, sExpr, sPar, tOrF, tAndF, tNotF, tVal, tYesF, eBin, eUn, eBlt, eTup, eLstS, eIf, eAnd, eOr, eNot, eChain, eSl, oNo, oSome, aCons, aNil, fVar, Zn.rget0, Zn.rgetS, eCon, gNm, wipeR, Zn.bind_ok, Zn.bind_err, Zn.stm_ok, Zn.fin_rt, Zn.fin_nx, List.set_cons_zero, List.set_cons_succ, if_true, decide_true, decide_false, Bool.false_eq_true, if_false, Bool.not_true, Bool.not_false, List.replicate_succ, List.replicate_zero, Nat.reduceSub, Zn.le0, Zn.le1, Zn.le2, Zn.le3, Zn.le4, Zn.le5, Zn.le6, Zn.le7, Zn.le8, Zn.le9, Zn.le10, Zn.le11, isi_ii, isi_ib]
theorem count_int {i : Int} (h : 0 ≤ i) (m : M) : fIso s_is_count [.int i] m = .ok (.bl true) m := by
  refine iso_ok (m1 := []) rfl ?_ rfl
  unfold s_is_count
  rw [fn1]
  simp only [sSeq, sAsg, sIf, sSet, sRet, sNil, sExpr, sPar, tOrF, tAndF, tNotF, tVal, tYesF, eBin, eUn, eBlt, eTup, eLstS, eIf, eAnd, eOr, eNot, eChain, eSl, oNo, oSome, aCons, aNil, fVar, Zn.rget0, Zn.rgetS, eCon, gNm, wipeR, Zn.bind_ok, Zn.bind_err, Zn.stm_ok, Zn.fin_rt, Zn.fin_nx, List.set_cons_zero, List.set_cons_succ, if_true, decide_true, decide_false, Bool.false_eq_true, if_false, Bool.not_true, Bool.not_false, List.replicate_succ, List.replicate_zero, Nat.reduceSub, Zn.le0, Zn.le1, Zn.le2, Zn.le3, Zn.le4, Zn.le5, Zn.le6, Zn.le7, Zn.le8, Zn.le9, Zn.le10, Zn.le11, whole_int, ge_int, h, decide_true]
theorem event_ok {ks : List Kd} {e : Ev} (h : okE ks e) (m : M) : fIso s_is_event_in [kindsD ks, evD e] m = .ok (.bl true) m := by
  refine iso_ok (m1 := []) (noRefs_c (nr_kinds ks) (noRefs_c (nr_ev e) rfl)) ?_ rfl
  unfold okE at h
  obtain ⟨p, hp, he⟩ := Option.map_eq_some_iff.mp h
  have hk := (List.getElem?_eq_some_iff.mp hp).1
  have hx := at_kd hp
  obtain ⟨k, o⟩ := e
  have h0 : (0 : Int) ≤ (k : Int) := by omega
  have hlt : (k : Int) < ((ks.map kdD).length : Int) := by rw [List.length_map]; simp only at hk; omega
  have i1 : ∀ (m : M) (j : Nat) (x y : D), oIx (.tup [x, y]) (.int 1) m = .ok y m := fun m j x y => ix_tup (atD1 x y [])
  have i0 : ∀ (m : M) (x : D) (xs : List D), oIx (.tup (x :: xs)) (.int 0) m = .ok x m := fun m x xs => ix_tup (atD0 x xs)
  have ik : ∀ (m : M), oIx (.tup (ks.map kdD)) (.int (k : Int)) m = .ok (kdD p) m := fun m => ix_tup hx
  have ikd : ∀ (m : M), oIx (kdD p) (.int 1) m = .ok (.bl p.2) m := fun m => ix_tup (atD1 _ _ [])
  unfold s_is_event_in
  rw [fn2]
  cases o with
  | none =>
    have hc : ∀ (x : Option D) (ρ : Rho) (m : M), fLc (wAny (fVar 1)) [2] (gNm 2) tYesF s_is_event_in_e1 (some (kindsD ks) :: some (.tup [.int k]) :: x :: ρ) m = .ok (.sl [.bl true]) m := fun x ρ m =>
      flc_any (ds := [.int k]) (h := fun _ => .bl true) rfl (by simp) fun d hd => by
        rw [List.mem_singleton] at hd
        subst hd
        unfold s_is_event_in_e1
        simp only [sSeq, sAsg, sIf, sSet, sRet, sNil, sExpr, sPar, tOrF, tAndF, tNotF, tVal, tYesF, eBin, eUn, eBlt, eTup, eLstS, eIf, eAnd, eOr, eNot, eChain, eSl, oNo, oSome, aCons, aNil, fVar, Zn.rget0, Zn.rgetS, eCon, gNm, wipeR, Zn.bind_ok, Zn.bind_err, Zn.stm_ok, Zn.fin_rt, Zn.fin_nx, List.set_cons_zero, List.set_cons_succ, if_true, decide_true, decide_false, Bool.false_eq_true, if_false, Bool.not_true, Bool.not_false, List.replicate_succ, List.replicate_zero, Nat.reduceSub, Zn.le0, Zn.le1, Zn.le2, Zn.le3, Zn.le4, Zn.le5, Zn.le6, Zn.le7, Zn.le8, Zn.le9, Zn.le10, Zn.le11, count_int h0]
    have ha : ∀ m : M, bAll [.sl [.bl true]] m = .ok (.bl true) m := fun _ => rfl
    have l1 : ∀ m : M, bLen [.tup [.int (k : Int)]] m = .ok (.int 1) m := fun _ => rfl
    have c1 : decide ((1 : Int) ≤ 1) = true := rfl
    have c2 : decide ((1 : Int) ≤ 2) = true := rfl
    have c3 : decide ((1 : Int) = 1) = true := rfl
    have hp2 : p.2 = false := he
    simp only [sSeq, sAsg, sIf, sSet, sRet, sNil, sExpr, sPar, tOrF, tAndF, tNotF, tVal, tYesF, eBin, eUn, eBlt, eTup, eLstS, eIf, eAnd, eOr, eNot, eChain, eSl, oNo, oSome, aCons, aNil, fVar, Zn.rget0, Zn.rgetS, eCon, gNm, wipeR, Zn.bind_ok, Zn.bind_err, Zn.stm_ok, Zn.fin_rt, Zn.fin_nx, List.set_cons_zero, List.set_cons_succ, if_true, decide_true, decide_false, Bool.false_eq_true, if_false, Bool.not_true, Bool.not_false, List.replicate_succ, List.replicate_zero, Nat.reduceSub, Zn.le0, Zn.le1, Zn.le2, Zn.le3, Zn.le4, Zn.le5, Zn.le6, Zn.le7, Zn.le8, Zn.le9, Zn.le10, Zn.le11, evD, isi_tt, l1, le_int, c1, c2, hc, ha, i0, len_tup, lt_int, hlt, decide_true, ik, ikd, hp2, eq_int, c3]
  | some n =>
    have hn : (0 : Int) ≤ (n : Int) := by omega
    have hc : ∀ (x : Option D) (ρ : Rho) (m : M), fLc (wAny (fVar 1)) [2] (gNm 2) tYesF s_is_event_in_e1 (some (kindsD ks) :: some (.tup [.int k, .int n]) :: x :: ρ) m = .ok (.sl [.bl true, .bl true]) m := fun x ρ m =>
      flc_any (ds := [.int k, .int n]) (h := fun _ => .bl true) rfl (by simp) fun d hd => by
        rw [List.mem_cons, List.mem_singleton] at hd
        rcases hd with hd | hd
        · subst hd
          unfold s_is_event_in_e1
          simp only [sSeq, sAsg, sIf, sSet, sRet, sNil, sExpr, sPar, tOrF, tAndF, tNotF, tVal, tYesF, eBin, eUn, eBlt, eTup, eLstS, eIf, eAnd, eOr, eNot, eChain, eSl, oNo, oSome, aCons, aNil, fVar, Zn.rget0, Zn.rgetS, eCon, gNm, wipeR, Zn.bind_ok, Zn.bind_err, Zn.stm_ok, Zn.fin_rt, Zn.fin_nx, List.set_cons_zero, List.set_cons_succ, if_true, decide_true, decide_false, Bool.false_eq_true, if_false, Bool.not_true, Bool.not_false, List.replicate_succ, List.replicate_zero, Nat.reduceSub, Zn.le0, Zn.le1, Zn.le2, Zn.le3, Zn.le4, Zn.le5, Zn.le6, Zn.le7, Zn.le8, Zn.le9, Zn.le10, Zn.le11, count_int h0]
        · subst hd
          unfold s_is_event_in_e1
          simp only [sSeq, sAsg, sIf, sSet, sRet, sNil, sExpr, sPar, tOrF, tAndF, tNotF, tVal, tYesF, eBin, eUn, eBlt, eTup, eLstS, eIf, eAnd, eOr, eNot, eChain, eSl, oNo, oSome, aCons, aNil, fVar, Zn.rget0, Zn.rgetS, eCon, gNm, wipeR, Zn.bind_ok, Zn.bind_err, Zn.stm_ok, Zn.fin_rt, Zn.fin_nx, List.set_cons_zero, List.set_cons_succ, if_true, decide_true, decide_false, Bool.false_eq_true, if_false, Bool.not_true, Bool.not_false, List.replicate_succ, List.replicate_zero, Nat.reduceSub, Zn.le0, Zn.le1, Zn.le2, Zn.le3, Zn.le4, Zn.le5, Zn.le6, Zn.le7, Zn.le8, Zn.le9, Zn.le10, Zn.le11, count_int hn]
    have ha : ∀ m : M, bAll [.sl [.bl true, .bl true]] m = .ok (.bl true) m := fun _ => rfl
    have l1 : ∀ m : M, bLen [.tup [.int (k : Int), .int (n : Int)]] m = .ok (.int 2) m := fun _ => rfl
    have c1 : decide ((1 : Int) ≤ 2) = true := rfl
    have c2 : decide ((2 : Int) ≤ 2) = true := rfl
    have c3 : decide ((2 : Int) = 2) = true := rfl
    have hp2 : p.2 = true := he
    simp only [sSeq, sAsg, sIf, sSet, sRet, sNil, sExpr, sPar, tOrF, tAndF, tNotF, tVal, tYesF, eBin, eUn, eBlt, eTup, eLstS, eIf, eAnd, eOr, eNot, eChain, eSl, oNo, oSome, aCons, aNil, fVar, Zn.rget0, Zn.rgetS, eCon, gNm, wipeR, Zn.bind_ok, Zn.bind_err, Zn.stm_ok, Zn.fin_rt, Zn.fin_nx, List.set_cons_zero, List.set_cons_succ, if_true, decide_true, decide_false, Bool.false_eq_true, if_false, Bool.not_true, Bool.not_false, List.replicate_succ, List.replicate_zero, Nat.reduceSub, Zn.le0, Zn.le1, Zn.le2, Zn.le3, Zn.le4, Zn.le5, Zn.le6, Zn.le7, Zn.le8, Zn.le9, Zn.le10, Zn.le11, evD, isi_tt, l1, le_int, c1, c2, hc, ha, i0, len_tup, lt_int, hlt, decide_true, ik, ikd, hp2, eq_int, c3]
end K01

namespace Zn
open PySem PySem.Spec L2 Z
/-! ### numbers of names, in the order of their first coming -/
def idx : List Nat → Nat → Nat → Option Nat
  | [], _, _ => none
  | x :: r, i, n => if x = n then some i else idx r (i + 1) n
def numD : List Nat → Nat → List (D × D)
  | [], _ => []
  | x :: r, i => (.int (x : Nat), .int (i : Nat)) :: numD r (i + 1)
theorem keyB_int (a b : Int) : keyB (.int a) (.int b) = decide (a = b) := by
  unfold keyB
  refine decide_eq_decide.mpr ⟨fun h => ?_, fun h => by rw [h]⟩
  have h : (some (.inl (.inl a)) : Option KeyU) = some (.inl (.inl b)) := h
  injection h with h
  injection h with h
  injection h with h
theorem keyB_nat (a b : Nat) : keyB (.int (a : Nat)) (.int (b : Nat)) = decide (a = b) := by
  rw [keyB_int]
  exact decide_eq_decide.mpr (by omega)
theorem val_num : ∀ (ns : List Nat) (i n : Nat), valD (numD ns i) (.int (n : Nat)) = (idx ns i n).map fun j => .int (j : Nat)
  | [], _, _ => rfl
  | x :: r, i, n => by
    have ih := val_num r (i + 1) n
    unfold valD at ih ⊢
    unfold numD idx
    rw [List.find?_cons, keyB_nat]
    by_cases h : x = n
    · rw [decide_eq_true h, if_pos h]
      rfl
    · rw [decide_eq_false h, if_neg h]
      exact ih
theorem any_num : ∀ (ns : List Nat) (i n : Nat), (numD ns i).any (fun p => keyB p.1 (.int (n : Nat))) = (idx ns i n).isSome
  | [], _, _ => rfl
  | x :: r, i, n => by
    have ih := any_num r (i + 1) n
    unfold numD idx
    rw [List.any_cons, keyB_nat]
    by_cases h : x = n
    · rw [decide_eq_true h, if_pos h]
      rfl
    · rw [decide_eq_false h, if_neg h]
      exact ih
theorem num_app : ∀ (ns : List Nat) (i n : Nat), numD (ns ++ [n]) i = numD ns i ++ [(.int (n : Nat), .int ((i + ns.length : Nat) : Int))]
  | [], i, n => rfl
  | x :: r, i, n => by
    show (D.int (x : Nat), D.int (i : Nat)) :: numD (r ++ [n]) (i + 1) = _
    rw [num_app r (i + 1) n, show i + 1 + r.length = i + (x :: r).length by rw [List.length_cons]; omega]
    rfl
theorem put_num {ns : List Nat} {n : Nat} (h : idx ns 0 n = none) : putD (numD ns 0) (.int (n : Nat)) (.int ((ns.length : Nat) : Int)) = numD (ns ++ [n]) 0 := by
  unfold putD
  rw [any_num, h, num_app, Nat.zero_add]
  rfl
theorem num_len : ∀ (ns : List Nat) (i : Nat), (numD ns i).length = ns.length
  | [], _ => rfl
  | x :: r, i => by unfold numD; rw [List.length_cons, List.length_cons, num_len]
theorem fits_num (ns : List Nat) (n : Nat) : keyFits (numD ns 0) (.int (n : Nat)) = true := by
  cases ns <;> rfl
def plainL : List Nat → List Ev → List Ev
  | _, [] => []
  | ns, (k, none) :: r => (k, none) :: plainL ns r
  | ns, (k, some n) :: r => match idx ns 0 n with
    | some i => (k, some i) :: plainL ns r
    | none => (k, some ns.length) :: plainL (ns ++ [n]) r
theorem plainL_len : ∀ (l : List Ev) (ns : List Nat), (plainL ns l).length = l.length
  | [], _ => rfl
  | (k, none) :: r, ns => by
    show (plainL ns r).length + 1 = _
    rw [plainL_len r]; rfl
  | (k, some n) :: r, ns => by
    unfold plainL
    split
    · rw [List.length_cons, plainL_len r]; rfl
    · rw [List.length_cons, plainL_len r]; rfl
theorem idx_map {f : Nat → Nat} {ns : List Nat} {n : Nat} (h : ∀ x ∈ ns, f x = f n → x = n) : ∀ i, idx (ns.map f) i (f n) = idx ns i n := by
  induction ns with
  | nil => intro i; rfl
  | cons x r ih =>
    intro i
    unfold idx
    rw [List.map_cons]
    dsimp only
    by_cases q : x = n
    · rw [if_pos (by rw [q]), if_pos q]
    · rw [if_neg (fun e => q (h x List.mem_cons_self e)), if_neg q]
      exact ih (fun y hy => h y (List.mem_cons_of_mem _ hy)) (i + 1)
def evMap (f : Nat → Nat) : Ev → Ev := fun e => (e.1, e.2.map f)
theorem plainL_map {f : Nat → Nat} {S : Nat → Prop} (hf : ∀ a b, S a → S b → f a = f b → a = b) : ∀ (l : List Ev) (ns : List Nat), (∀ x ∈ ns, S x) → (∀ e ∈ l, ∀ n, e.2 = some n → S n) → plainL (ns.map f) (l.map (evMap f)) = plainL ns l
  | [], _, _, _ => rfl
  | (k, none) :: r, ns, h1, h2 => by
    show (k, none) :: plainL (ns.map f) (r.map (evMap f)) = (k, none) :: plainL ns r
    rw [plainL_map hf r ns h1 fun e he => h2 e (List.mem_cons_of_mem _ he)]
  | (k, some n) :: r, ns, h1, h2 => by
    have hn := h2 (k, some n) List.mem_cons_self n rfl
    have hr : ∀ e ∈ r, ∀ n, e.2 = some n → S n := fun e he => h2 e (List.mem_cons_of_mem _ he)
    show plainL (ns.map f) ((k, some (f n)) :: r.map (evMap f)) = _
    unfold plainL
    rw [idx_map (fun x hx e => hf x n (h1 x hx) hn e)]
    cases idx ns 0 n with
    | some i => dsimp only; rw [plainL_map hf r ns h1 hr]
    | none =>
      dsimp only
      have := plainL_map hf r (ns ++ [n]) (fun x hx => by
        rcases List.mem_append.mp hx with q | q
        · exact h1 x q
        · rw [List.mem_singleton.mp q]; exact hn) hr
      rw [List.map_append] at this
      rw [List.length_map, ← this]
      rfl
/-- the names, each once -/
def namesL : List Nat → List Ev → List Nat
  | ns, [] => ns
  | ns, (_, none) :: r => namesL ns r
  | ns, (_, some n) :: r => match idx ns 0 n with
    | some _ => namesL ns r
    | none => namesL (ns ++ [n]) r
theorem forL_nx {g : GF} {b : SF} {d : D} {ds : List D} {ρ ρ1 ρ2 : Rho} {m m1 m2 : M} (hg : g d ρ m = some (ρ1, m1)) (hb : b ρ1 m1 = some (.nx ρ2, m2)) : forL g b (d :: ds) ρ m = forL g b ds ρ2 m2 := by
  rw [forL, hg]
  dsimp only
  rw [hb]
theorem forL_ct {g : GF} {b : SF} {d : D} {ds : List D} {ρ ρ1 ρ2 : Rho} {m m1 m2 : M} (hg : g d ρ m = some (ρ1, m1)) (hb : b ρ1 m1 = some (.ct ρ2, m2)) : forL g b (d :: ds) ρ m = forL g b ds ρ2 m2 := by
  rw [forL, hg]
  dsimp only
  rw [hb]
theorem append_at {m : M} {a : Nat} {xs : List D} (h : m[a]? = some (.lst xs)) (hl : xs.length < line) (d : D) : mAppend (.ref a) [d] m = .ok .non (m.set a (.lst (xs ++ [d]))) := by
  unfold mAppend
  simp only [h, if_pos hl]
theorem lst_at {m : M} {a : Nat} {xs : List D} (h : m[a]? = some (.lst xs)) : lstIs m (.ref a) = true := by
  unfold lstIs
  simp only [h]
end Zn
namespace K01
open PySem PySem.Spec L2 Z Zn
/-! ### plain_in -/
theorem len_dic {m : M} {a : Nat} {kvs : List (D × D)} (h : m[a]? = some (.dic kvs)) : bLen [.ref a] m = .ok (.int kvs.length) m := by
  show (match lenD m (.ref a) with | some n => R.ok (D.int n) m | none => .bad) = _
  rw [show lenD m (.ref a) = some kvs.length by simp only [lenD, h]]
theorem plain_loop : ∀ (l : List Ev) (ns : List Nat) (fs : List D) (x0 x3 : Option D), ns.length + l.length ≤ 1000 → fs.length + l.length ≤ 1000 →
    ∃ x3' ns', forL (gNm 3) s_plain_in_b1 (l.map evD) [x0, some (.ref 0), some (.ref 1), x3] [.dic (numD ns 0), .lst fs] = some (.nx [x0, some (.ref 0), some (.ref 1), x3'], [.dic (numD ns' 0), .lst (fs ++ (plainL ns l).map evD)])
  | [], ns, fs, x0, x3, _, _ => ⟨x3, ns, by rw [show plainL ns [] = [] from rfl, List.map_nil, List.append_nil]; rfl⟩
  | (k, none) :: r, ns, fs, x0, x3, h1, h2 => by
    rw [List.length_cons] at h1 h2
    obtain ⟨x3', ns', e⟩ := plain_loop r ns (fs ++ [evD (k, none)]) x0 (some (evD (k, none))) (by omega) (by rw [List.length_append, List.length_cons, List.length_nil]; omega)
    refine ⟨x3', ns', ?_⟩
    have hl : fs.length < line := by rw [lineN]; omega
    have q : s_plain_in_b1 [x0, some (.ref 0), some (.ref 1), some (evD (k, none))] [.dic (numD ns 0), .lst fs] = some (.nx [x0, some (.ref 0), some (.ref 1), some (evD (k, none))], [.dic (numD ns 0), .lst (fs ++ [evD (k, none)])]) := by
      have l1 : ∀ m : M, bLen [evD (k, none)] m = .ok (.int 1) m := fun _ => rfl
      have c3 : decide ((1 : Int) = 1) = true := rfl
      have e1 : ∀ d : D, mAppend (.ref 1) [d] [.dic (numD ns 0), .lst fs] = .ok .non [.dic (numD ns 0), .lst (fs ++ [d])] := fun d => append_at rfl hl d
      have e2 : lstIs [.dic (numD ns 0), .lst fs] (.ref 1) = true := rfl
      unfold s_plain_in_b1
      simp only [sSeq, sAsg, sIf, sSet, sRet, sNil, sExpr, sPar, tOrF, tAndF, tNotF, tVal, tYesF, eBin, eUn, eBlt, eTup, eLstS, eIf, eAnd, eOr, eNot, eChain, eSl, oNo, oSome, aCons, aNil, fVar, Zn.rget0, Zn.rgetS, eCon, gNm, wipeR, Zn.bind_ok, Zn.bind_err, Zn.stm_ok, Zn.fin_rt, Zn.fin_nx, List.set_cons_zero, List.set_cons_succ, if_true, decide_true, decide_false, Bool.false_eq_true, if_false, Bool.not_true, Bool.not_false, List.replicate_succ, List.replicate_zero, Nat.reduceSub, Zn.le0, Zn.le1, Zn.le2, Zn.le3, Zn.le4, Zn.le5, Zn.le6, Zn.le7, Zn.le8, Zn.le9, Zn.le10, Zn.le11, l1, eq_int, c3, eMethL, e1, e2]
    have : forL (gNm 3) s_plain_in_b1 (((k, none) :: r).map evD) [x0, some (.ref 0), some (.ref 1), x3] [.dic (numD ns 0), .lst fs] = forL (gNm 3) s_plain_in_b1 (r.map evD) [x0, some (.ref 0), some (.ref 1), some (evD (k, none))] [.dic (numD ns 0), .lst (fs ++ [evD (k, none)])] := by
      exact forL_nx rfl q
    rw [this, e]
    show _ = some (Fl.nx _, [Cell.dic _, Cell.lst (fs ++ ((k, none) :: plainL ns r).map evD)])
    rw [List.map_cons, List.append_assoc]
    rfl
  | (k, some n) :: r, ns, fs, x0, x3, h1, h2 => by
    rw [List.length_cons] at h1 h2
    have hl : fs.length < line := by rw [lineN]; omega
    have l1 : ∀ m : M, bLen [evD (k, some n)] m = .ok (.int 2) m := fun _ => rfl
    have c3 : decide ((2 : Int) = 1) = false := rfl
    have e2 : ∀ ns2, lstIs [.dic (numD ns2 0), .lst fs] (.ref 1) = true := fun _ => rfl
    have e3 : dicIs [.dic (numD ns 0), .lst fs] (.ref 0) = true := rfl
    have i0 : ∀ m : M, oIx (evD (k, some n)) (.int 0) m = .ok (.int (k : Nat)) m := fun m => ix_tup (atD0 _ _)
    have i1 : ∀ m : M, oIx (evD (k, some n)) (.int 1) m = .ok (.int (n : Nat)) m := fun m => ix_tup (atD1 _ _ _)
    have ld : bLen [.ref 0] [.dic (numD ns 0), .lst fs] = .ok (.int ns.length) [.dic (numD ns 0), .lst fs] := by
      rw [len_dic (kvs := numD ns 0) rfl, num_len]
    have hk : ((keyOf (.int (n : Nat))).isSome && keyFits (numD ns 0) (.int (n : Nat)) && decide ((numD ns 0).length < line)) = true := by
      rw [fits_num, decide_eq_true (by rw [num_len, lineN]; omega)]
      rfl
    cases hi : idx ns 0 n with
    | some i =>
      obtain ⟨x3', ns', e⟩ := plain_loop r ns (fs ++ [evD (k, some i)]) x0 (some (evD (k, some n))) (by omega) (by rw [List.length_append, List.length_cons, List.length_nil]; omega)
      refine ⟨x3', ns', ?_⟩
      have q : s_plain_in_b1 [x0, some (.ref 0), some (.ref 1), some (evD (k, some n))] [.dic (numD ns 0), .lst fs] = some (.nx [x0, some (.ref 0), some (.ref 1), some (evD (k, some n))], [.dic (numD ns 0), .lst (fs ++ [evD (k, some i)])]) := by
        have e1 : ∀ d : D, mAppend (.ref 1) [d] [.dic (numD ns 0), .lst fs] = .ok .non [.dic (numD ns 0), .lst (fs ++ [d])] := fun d => append_at rfl hl d
        have es : oSetd (.ref 0) (.int (n : Nat)) (.int ns.length) [.dic (numD ns 0), .lst fs] = .ok (.int (i : Nat)) [.dic (numD ns 0), .lst fs] := by
          show (if ((keyOf (.int (n : Nat))).isSome && keyFits (numD ns 0) (.int (n : Nat)) && decide ((numD ns 0).length < line)) = true then (match valD (numD ns 0) (.int (n : Nat)) with
            | some v => R.ok v [.dic (numD ns 0), .lst fs]
            | none => _) else _) = _
          rw [if_pos hk, val_num, hi]
          rfl
        unfold s_plain_in_b1
        simp only [sSeq, sAsg, sIf, sSet, sRet, sNil, sExpr, sPar, tOrF, tAndF, tNotF, tVal, tYesF, eBin, eUn, eBlt, eTup, eLstS, eIf, eAnd, eOr, eNot, eChain, eSl, oNo, oSome, aCons, aNil, fVar, Zn.rget0, Zn.rgetS, eCon, gNm, wipeR, Zn.bind_ok, Zn.bind_err, Zn.stm_ok, Zn.fin_rt, Zn.fin_nx, List.set_cons_zero, List.set_cons_succ, if_true, decide_true, decide_false, Bool.false_eq_true, if_false, Bool.not_true, Bool.not_false, List.replicate_succ, List.replicate_zero, Nat.reduceSub, Zn.le0, Zn.le1, Zn.le2, Zn.le3, Zn.le4, Zn.le5, Zn.le6, Zn.le7, Zn.le8, Zn.le9, Zn.le10, Zn.le11, l1, eq_int, c3, eMethL, e1, e2, e3, eSetd, i0, i1, ld, es]
        rfl
      have : forL (gNm 3) s_plain_in_b1 (((k, some n) :: r).map evD) [x0, some (.ref 0), some (.ref 1), x3] [.dic (numD ns 0), .lst fs] = forL (gNm 3) s_plain_in_b1 (r.map evD) [x0, some (.ref 0), some (.ref 1), some (evD (k, some n))] [.dic (numD ns 0), .lst (fs ++ [evD (k, some i)])] := by
        exact forL_nx rfl q
      rw [this, e, show plainL ns ((k, some n) :: r) = (k, some i) :: plainL ns r by
        show (match idx ns 0 n with | some i => (k, some i) :: plainL ns r | none => (k, some ns.length) :: plainL (ns ++ [n]) r) = _
        rw [hi]]
      rw [List.map_cons, List.append_assoc]
      rfl
    | none =>
      obtain ⟨x3', ns', e⟩ := plain_loop r (ns ++ [n]) (fs ++ [evD (k, some ns.length)]) x0 (some (evD (k, some n))) (by rw [List.length_append, List.length_cons, List.length_nil]; omega) (by rw [List.length_append, List.length_cons, List.length_nil]; omega)
      refine ⟨x3', ns', ?_⟩
      have q : s_plain_in_b1 [x0, some (.ref 0), some (.ref 1), some (evD (k, some n))] [.dic (numD ns 0), .lst fs] = some (.nx [x0, some (.ref 0), some (.ref 1), some (evD (k, some n))], [.dic (numD (ns ++ [n]) 0), .lst (fs ++ [evD (k, some ns.length)])]) := by
        have e1 : ∀ d : D, mAppend (.ref 1) [d] [.dic (numD (ns ++ [n]) 0), .lst fs] = .ok .non [.dic (numD (ns ++ [n]) 0), .lst (fs ++ [d])] := fun d => append_at rfl hl d
        have es : oSetd (.ref 0) (.int (n : Nat)) (.int ns.length) [.dic (numD ns 0), .lst fs] = .ok (.int ns.length) [.dic (numD (ns ++ [n]) 0), .lst fs] := by
          show (if ((keyOf (.int (n : Nat))).isSome && keyFits (numD ns 0) (.int (n : Nat)) && decide ((numD ns 0).length < line)) = true then (match valD (numD ns 0) (.int (n : Nat)) with
            | some v => R.ok v [.dic (numD ns 0), .lst fs]
            | none => R.ok (D.int ns.length) [.dic (putD (numD ns 0) (.int (n : Nat)) (.int ns.length)), .lst fs]) else _) = _
          rw [if_pos hk, val_num, hi, put_num hi]
          rfl
        unfold s_plain_in_b1
        simp only [sSeq, sAsg, sIf, sSet, sRet, sNil, sExpr, sPar, tOrF, tAndF, tNotF, tVal, tYesF, eBin, eUn, eBlt, eTup, eLstS, eIf, eAnd, eOr, eNot, eChain, eSl, oNo, oSome, aCons, aNil, fVar, Zn.rget0, Zn.rgetS, eCon, gNm, wipeR, Zn.bind_ok, Zn.bind_err, Zn.stm_ok, Zn.fin_rt, Zn.fin_nx, List.set_cons_zero, List.set_cons_succ, if_true, decide_true, decide_false, Bool.false_eq_true, if_false, Bool.not_true, Bool.not_false, List.replicate_succ, List.replicate_zero, Nat.reduceSub, Zn.le0, Zn.le1, Zn.le2, Zn.le3, Zn.le4, Zn.le5, Zn.le6, Zn.le7, Zn.le8, Zn.le9, Zn.le10, Zn.le11, l1, eq_int, c3, eMethL, e1, e2, e3, eSetd, i0, i1, ld, es]
        rfl
      have : forL (gNm 3) s_plain_in_b1 (((k, some n) :: r).map evD) [x0, some (.ref 0), some (.ref 1), x3] [.dic (numD ns 0), .lst fs] = forL (gNm 3) s_plain_in_b1 (r.map evD) [x0, some (.ref 0), some (.ref 1), some (evD (k, some n))] [.dic (numD (ns ++ [n]) 0), .lst (fs ++ [evD (k, some ns.length)])] := by
        exact forL_nx rfl q
      rw [this, e, show plainL ns ((k, some n) :: r) = (k, some ns.length) :: plainL (ns ++ [n]) r by
        show (match idx ns 0 n with | some i => (k, some i) :: plainL ns r | none => (k, some ns.length) :: plainL (ns ++ [n]) r) = _
        rw [hi]]
      rw [List.map_cons, List.append_assoc]
      rfl
theorem tup_lst {m : M} {a : Nat} {xs : List D} (h : m[a]? = some (.lst xs)) : bTupleA [.ref a] m = .ok (.tup xs) m := by
  unfold bTupleA
  simp only [h]
  unfold bTuple
  simp only [h]
theorem plain_in_ok (l : List Ev) (hl : l.length ≤ 100) (m : M) : fIso s_plain_in [logD l] m = .ok (logD (plainL [] l)) m := by
  obtain ⟨x3', ns', e⟩ := plain_loop l [] [] (some (logD l)) none (by rw [List.length_nil]; omega) (by rw [List.length_nil]; omega)
  refine iso_ok (m1 := [.dic (numD ns' 0), .lst ((plainL [] l).map evD)]) (noRefs_c (nr_log l) rfl) ?_ (nr_log _)
  unfold s_plain_in
  rw [fn1]
  have e2 : ∀ (ρ : Rho) (m : M), fFor (wAny (fVar 0)) (gNm 3) s_plain_in_b1 (some (logD l) :: ρ) m = forL (gNm 3) s_plain_in_b1 (l.map evD) (some (logD l) :: ρ) m := fun _ _ => rfl
  have e3 : ∀ (ρ : Rho) (m : M), eDic0 ρ m = .ok (.ref m.length) (m ++ [.dic []]) := fun _ _ => rfl
  have e4 : ∀ (ρ : Rho) (m : M), eLst aNil ρ m = .ok (.ref m.length) (m ++ [.lst []]) := fun _ _ => rfl
  rw [List.nil_append] at e
  have e5 : bTupleA [.ref 1] [.dic (numD ns' 0), .lst ((plainL [] l).map evD)] = .ok (.tup ((plainL [] l).map evD)) [.dic (numD ns' 0), .lst ((plainL [] l).map evD)] := tup_lst rfl
  simp only [sSeq, sAsg, sIf, sSet, sRet, sNil, sExpr, sPar, tOrF, tAndF, tNotF, tVal, tYesF, eBin, eUn, eBlt, eTup, eLstS, eIf, eAnd, eOr, eNot, eChain, eSl, oNo, oSome, aCons, aNil, fVar, Zn.rget0, Zn.rgetS, eCon, gNm, wipeR, Zn.bind_ok, Zn.bind_err, Zn.stm_ok, Zn.fin_rt, Zn.fin_nx, List.set_cons_zero, List.set_cons_succ, if_true, decide_true, decide_false, Bool.false_eq_true, if_false, Bool.not_true, Bool.not_false, List.replicate_succ, List.replicate_zero, Nat.reduceSub, Zn.le0, Zn.le1, Zn.le2, Zn.le3, Zn.le4, Zn.le5, Zn.le6, Zn.le7, Zn.le8, Zn.le9, Zn.le10, Zn.le11, e2, e3, e4, List.length_nil, List.nil_append, List.cons_append, List.length_cons, Nat.reduceAdd]
  rw [show ([Cell.dic [], Cell.lst []] : M) = [.dic (numD [] 0), .lst []] from rfl, e]
  simp only [sSeq, sAsg, sIf, sSet, sRet, sNil, sExpr, sPar, tOrF, tAndF, tNotF, tVal, tYesF, eBin, eUn, eBlt, eTup, eLstS, eIf, eAnd, eOr, eNot, eChain, eSl, oNo, oSome, aCons, aNil, fVar, Zn.rget0, Zn.rgetS, eCon, gNm, wipeR, Zn.bind_ok, Zn.bind_err, Zn.stm_ok, Zn.fin_rt, Zn.fin_nx, List.set_cons_zero, List.set_cons_succ, if_true, decide_true, decide_false, Bool.false_eq_true, if_false, Bool.not_true, Bool.not_false, List.replicate_succ, List.replicate_zero, Nat.reduceSub, Zn.le0, Zn.le1, Zn.le2, Zn.le3, Zn.le4, Zn.le5, Zn.le6, Zn.le7, Zn.le8, Zn.le9, Zn.le10, Zn.le11, e5]
end K01

namespace K01
open PySem PySem.Spec L2 Z Zn
theorem not_in_dic {m : M} {a : Nat} {kvs : List (D × D)} {k : D} (h : m[a]? = some (.dic kvs)) (hf : keyFits kvs k = true) : oNotIn k (.ref a) m = .ok (.bl (!(valD kvs k).isSome)) m := by
  unfold oNotIn
  rw [show inB k (.ref a) m = some (valD kvs k).isSome by simp only [inB, h, hf, if_true]]
theorem lplain_loop : ∀ (l : List Ev) (ns : List Nat) (fs : List D) (x0 x3 : Option D), ns.length + l.length ≤ 1000 → fs.length + l.length ≤ 1000 →
    ∃ x3' ns', forL (gNm 3) s__law_plain_b1 (l.map evD) [x0, some (.ref 0), some (.ref 1), x3] [.dic (numD ns 0), .lst fs] = some (.nx [x0, some (.ref 0), some (.ref 1), x3'], [.dic (numD ns' 0), .lst (fs ++ (plainL ns l).map evD)])
  | [], ns, fs, x0, x3, _, _ => ⟨x3, ns, by rw [show plainL ns [] = [] from rfl, List.map_nil, List.append_nil]; rfl⟩
  | (k, none) :: r, ns, fs, x0, x3, h1, h2 => by
    rw [List.length_cons] at h1 h2
    obtain ⟨x3', ns', e⟩ := lplain_loop r ns (fs ++ [evD (k, none)]) x0 (some (evD (k, none))) (by omega) (by rw [List.length_append, List.length_cons, List.length_nil]; omega)
    refine ⟨x3', ns', ?_⟩
    have hl : fs.length < line := by rw [lineN]; omega
    have q : s__law_plain_b1 [x0, some (.ref 0), some (.ref 1), some (evD (k, none))] [.dic (numD ns 0), .lst fs] = some (.nx [x0, some (.ref 0), some (.ref 1), some (evD (k, none))], [.dic (numD ns 0), .lst (fs ++ [evD (k, none)])]) := by
      have l1 : ∀ m : M, bLen [evD (k, none)] m = .ok (.int 1) m := fun _ => rfl
      have e1 : ∀ d : D, mAppend (.ref 1) [d] [.dic (numD ns 0), .lst fs] = .ok .non [.dic (numD ns 0), .lst (fs ++ [d])] := fun d => append_at rfl hl d
      have e2 : lstIs [.dic (numD ns 0), .lst fs] (.ref 1) = true := rfl
      unfold s__law_plain_b1
      simp only [sSeq, sAsg, sIf, sSet, sRet, sNil, sExpr, sPar, tOrF, tAndF, tNotF, tVal, tYesF, eBin, eUn, eBlt, eTup, eLstS, eIf, eAnd, eOr, eNot, eChain, eSl, oNo, oSome, aCons, aNil, fVar, Zn.rget0, Zn.rgetS, eCon, gNm, wipeR, Zn.bind_ok, Zn.bind_err, Zn.stm_ok, Zn.fin_rt, Zn.fin_nx, List.set_cons_zero, List.set_cons_succ, if_true, decide_true, decide_false, Bool.false_eq_true, if_false, Bool.not_true, Bool.not_false, List.replicate_succ, List.replicate_zero, Nat.reduceSub, Zn.le0, Zn.le1, Zn.le2, Zn.le3, Zn.le4, Zn.le5, Zn.le6, Zn.le7, Zn.le8, Zn.le9, Zn.le10, Zn.le11, l1, eq_int, eMethL, e1, e2]
    have : forL (gNm 3) s__law_plain_b1 (((k, none) :: r).map evD) [x0, some (.ref 0), some (.ref 1), x3] [.dic (numD ns 0), .lst fs] = forL (gNm 3) s__law_plain_b1 (r.map evD) [x0, some (.ref 0), some (.ref 1), some (evD (k, none))] [.dic (numD ns 0), .lst (fs ++ [evD (k, none)])] := by
      exact forL_nx rfl q
    rw [this, e]
    show _ = some (Fl.nx _, [Cell.dic _, Cell.lst (fs ++ ((k, none) :: plainL ns r).map evD)])
    rw [List.map_cons, List.append_assoc]
    rfl
  | (k, some n) :: r, ns, fs, x0, x3, h1, h2 => by
    rw [List.length_cons] at h1 h2
    have hl : fs.length < line := by rw [lineN]; omega
    have hn : ns.length < line := by rw [lineN]; omega
    have l1 : ∀ m : M, bLen [evD (k, some n)] m = .ok (.int 2) m := fun _ => rfl
    have c3 : decide ((2 : Int) = 1) = false := rfl
    have e2 : ∀ ns2, lstIs [.dic (numD ns2 0), .lst fs] (.ref 1) = true := fun _ => rfl
    have i0 : ∀ m : M, oIx (evD (k, some n)) (.int 0) m = .ok (.int (k : Nat)) m := fun m => ix_tup (atD0 _ _)
    have i1 : ∀ m : M, oIx (evD (k, some n)) (.int 1) m = .ok (.int (n : Nat)) m := fun m => ix_tup (atD1 _ _ _)
    have ld : bLen [.ref 0] [.dic (numD ns 0), .lst fs] = .ok (.int ns.length) [.dic (numD ns 0), .lst fs] := by
      rw [len_dic (kvs := numD ns 0) rfl, num_len]
    have ni : oNotIn (.int (n : Nat)) (.ref 0) [.dic (numD ns 0), .lst fs] = .ok (.bl (!(idx ns 0 n).isSome)) [.dic (numD ns 0), .lst fs] := by
      rw [not_in_dic (kvs := numD ns 0) rfl (fits_num ns n), val_num]
      cases idx ns 0 n <;> rfl
    cases hi : idx ns 0 n with
    | some i =>
      obtain ⟨x3', ns', e⟩ := lplain_loop r ns (fs ++ [evD (k, some i)]) x0 (some (evD (k, some n))) (by omega) (by rw [List.length_append, List.length_cons, List.length_nil]; omega)
      refine ⟨x3', ns', ?_⟩
      have q : s__law_plain_b1 [x0, some (.ref 0), some (.ref 1), some (evD (k, some n))] [.dic (numD ns 0), .lst fs] = some (.nx [x0, some (.ref 0), some (.ref 1), some (evD (k, some n))], [.dic (numD ns 0), .lst (fs ++ [evD (k, some i)])]) := by
        have e1 : ∀ d : D, mAppend (.ref 1) [d] [.dic (numD ns 0), .lst fs] = .ok .non [.dic (numD ns 0), .lst (fs ++ [d])] := fun d => append_at rfl hl d
        have ix : oIx (.ref 0) (.int (n : Nat)) [.dic (numD ns 0), .lst fs] = .ok (.int (i : Nat)) [.dic (numD ns 0), .lst fs] := ix_dic (kvs := numD ns 0) rfl (fits_num ns n) (by rw [val_num, hi]; rfl)
        rw [hi] at ni
        unfold s__law_plain_b1
        simp only [sSeq, sAsg, sIf, sSet, sRet, sNil, sExpr, sPar, tOrF, tAndF, tNotF, tVal, tYesF, eBin, eUn, eBlt, eTup, eLstS, eIf, eAnd, eOr, eNot, eChain, eSl, oNo, oSome, aCons, aNil, fVar, Zn.rget0, Zn.rgetS, eCon, gNm, wipeR, Zn.bind_ok, Zn.bind_err, Zn.stm_ok, Zn.fin_rt, Zn.fin_nx, List.set_cons_zero, List.set_cons_succ, if_true, decide_true, decide_false, Bool.false_eq_true, if_false, Bool.not_true, Bool.not_false, List.replicate_succ, List.replicate_zero, Nat.reduceSub, Zn.le0, Zn.le1, Zn.le2, Zn.le3, Zn.le4, Zn.le5, Zn.le6, Zn.le7, Zn.le8, Zn.le9, Zn.le10, Zn.le11, l1, eq_int, c3, eMethL, e1, e2, i0, i1, ni, Option.isSome_some, ix]
        rfl
      have : forL (gNm 3) s__law_plain_b1 (((k, some n) :: r).map evD) [x0, some (.ref 0), some (.ref 1), x3] [.dic (numD ns 0), .lst fs] = forL (gNm 3) s__law_plain_b1 (r.map evD) [x0, some (.ref 0), some (.ref 1), some (evD (k, some n))] [.dic (numD ns 0), .lst (fs ++ [evD (k, some i)])] := by
        exact forL_nx rfl q
      rw [this, e, show plainL ns ((k, some n) :: r) = (k, some i) :: plainL ns r by
        show (match idx ns 0 n with | some i => (k, some i) :: plainL ns r | none => (k, some ns.length) :: plainL (ns ++ [n]) r) = _
        rw [hi]]
      rw [List.map_cons, List.append_assoc]
      rfl
    | none =>
      obtain ⟨x3', ns', e⟩ := lplain_loop r (ns ++ [n]) (fs ++ [evD (k, some ns.length)]) x0 (some (evD (k, some n))) (by rw [List.length_append, List.length_cons, List.length_nil]; omega) (by rw [List.length_append, List.length_cons, List.length_nil]; omega)
      refine ⟨x3', ns', ?_⟩
      have q : s__law_plain_b1 [x0, some (.ref 0), some (.ref 1), some (evD (k, some n))] [.dic (numD ns 0), .lst fs] = some (.nx [x0, some (.ref 0), some (.ref 1), some (evD (k, some n))], [.dic (numD (ns ++ [n]) 0), .lst (fs ++ [evD (k, some ns.length)])]) := by
        have e1 : ∀ d : D, mAppend (.ref 1) [d] [.dic (numD (ns ++ [n]) 0), .lst fs] = .ok .non [.dic (numD (ns ++ [n]) 0), .lst (fs ++ [d])] := fun d => append_at rfl hl d
        have hf : (idx (ns ++ [n]) 0 n) = some ns.length := by
          have h1 : valD (putD (numD ns 0) (.int (n : Nat)) (.int ((ns.length : Nat) : Int))) (.int (n : Nat)) = (idx (ns ++ [n]) 0 n).map fun j => .int (j : Nat) := by rw [put_num hi, val_num]
          have go : ∀ (ns : List Nat) (i : Nat), idx ns i n = none → idx (ns ++ [n]) i n = some (i + ns.length) := by
            intro ns
            induction ns with
            | nil => intro i _; show (if n = n then some i else none) = _; rw [if_pos rfl]; rfl
            | cons x r ih =>
              intro i h
              have h : (if x = n then some i else idx r (i + 1) n) = none := h
              by_cases q : x = n
              · rw [if_pos q] at h; cases h
              · rw [if_neg q] at h
                show (if x = n then some i else idx (r ++ [n]) (i + 1) n) = _
                rw [if_neg q, ih (i + 1) h, List.length_cons, show i + 1 + r.length = i + (r.length + 1) by omega]
          rw [go ns 0 hi, Nat.zero_add]
        have ix : oIx (.ref 0) (.int (n : Nat)) [.dic (numD (ns ++ [n]) 0), .lst fs] = .ok (.int (ns.length : Nat)) [.dic (numD (ns ++ [n]) 0), .lst fs] := ix_dic (kvs := numD (ns ++ [n]) 0) rfl (fits_num _ n) (by rw [val_num, hf]; rfl)
        have st : oSet (.ref 0) (.int (n : Nat)) (.int ns.length) [.dic (numD ns 0), .lst fs] = some [.dic (numD (ns ++ [n]) 0), .lst fs] := by
          rw [st_dic (kvs := numD ns 0) rfl (fits_num ns n) (by rw [num_len]; exact hn), put_num hi]
          rfl
        rw [hi] at ni
        unfold s__law_plain_b1
        simp only [sSeq, sAsg, sIf, sSet, sRet, sNil, sExpr, sPar, tOrF, tAndF, tNotF, tVal, tYesF, eBin, eUn, eBlt, eTup, eLstS, eIf, eAnd, eOr, eNot, eChain, eSl, oNo, oSome, aCons, aNil, fVar, Zn.rget0, Zn.rgetS, eCon, gNm, wipeR, Zn.bind_ok, Zn.bind_err, Zn.stm_ok, Zn.fin_rt, Zn.fin_nx, List.set_cons_zero, List.set_cons_succ, if_true, decide_true, decide_false, Bool.false_eq_true, if_false, Bool.not_true, Bool.not_false, List.replicate_succ, List.replicate_zero, Nat.reduceSub, Zn.le0, Zn.le1, Zn.le2, Zn.le3, Zn.le4, Zn.le5, Zn.le6, Zn.le7, Zn.le8, Zn.le9, Zn.le10, Zn.le11, l1, eq_int, c3, eMethL, e1, e2, i0, i1, ni, Option.isSome_none, ix, ld, gSubZ, st, Option.map_some]
        rfl
      have : forL (gNm 3) s__law_plain_b1 (((k, some n) :: r).map evD) [x0, some (.ref 0), some (.ref 1), x3] [.dic (numD ns 0), .lst fs] = forL (gNm 3) s__law_plain_b1 (r.map evD) [x0, some (.ref 0), some (.ref 1), some (evD (k, some n))] [.dic (numD (ns ++ [n]) 0), .lst (fs ++ [evD (k, some ns.length)])] := by
        exact forL_nx rfl q
      rw [this, e, show plainL ns ((k, some n) :: r) = (k, some ns.length) :: plainL (ns ++ [n]) r by
        show (match idx ns 0 n with | some i => (k, some i) :: plainL ns r | none => (k, some ns.length) :: plainL (ns ++ [n]) r) = _
        rw [hi]]
      rw [List.map_cons, List.append_assoc]
      rfl
theorem law_plain_ok (l : List Ev) (hl : l.length ≤ 100) (m : M) : fIso s__law_plain [logD l] m = .ok (logD (plainL [] l)) m := by
  obtain ⟨x3', ns', e⟩ := lplain_loop l [] [] (some (logD l)) none (by rw [List.length_nil]; omega) (by rw [List.length_nil]; omega)
  refine iso_ok (m1 := [.dic (numD ns' 0), .lst ((plainL [] l).map evD)]) (noRefs_c (nr_log l) rfl) ?_ (nr_log _)
  unfold s__law_plain
  rw [fn1]
  have e2 : ∀ (ρ : Rho) (m : M), fFor (wAny (fVar 0)) (gNm 3) s__law_plain_b1 (some (logD l) :: ρ) m = forL (gNm 3) s__law_plain_b1 (l.map evD) (some (logD l) :: ρ) m := fun _ _ => rfl
  have e3 : ∀ (ρ : Rho) (m : M), eDic0 ρ m = .ok (.ref m.length) (m ++ [.dic []]) := fun _ _ => rfl
  have e4 : ∀ (ρ : Rho) (m : M), eLst aNil ρ m = .ok (.ref m.length) (m ++ [.lst []]) := fun _ _ => rfl
  rw [List.nil_append] at e
  have e5 : bTupleA [.ref 1] [.dic (numD ns' 0), .lst ((plainL [] l).map evD)] = .ok (.tup ((plainL [] l).map evD)) [.dic (numD ns' 0), .lst ((plainL [] l).map evD)] := tup_lst rfl
  simp only [sSeq, sAsg, sIf, sSet, sRet, sNil, sExpr, sPar, tOrF, tAndF, tNotF, tVal, tYesF, eBin, eUn, eBlt, eTup, eLstS, eIf, eAnd, eOr, eNot, eChain, eSl, oNo, oSome, aCons, aNil, fVar, Zn.rget0, Zn.rgetS, eCon, gNm, wipeR, Zn.bind_ok, Zn.bind_err, Zn.stm_ok, Zn.fin_rt, Zn.fin_nx, List.set_cons_zero, List.set_cons_succ, if_true, decide_true, decide_false, Bool.false_eq_true, if_false, Bool.not_true, Bool.not_false, List.replicate_succ, List.replicate_zero, Nat.reduceSub, Zn.le0, Zn.le1, Zn.le2, Zn.le3, Zn.le4, Zn.le5, Zn.le6, Zn.le7, Zn.le8, Zn.le9, Zn.le10, Zn.le11, e2, e3, e4, List.length_nil, List.nil_append, List.cons_append, List.length_cons, Nat.reduceAdd]
  rw [show ([Cell.dic [], Cell.lst []] : M) = [.dic (numD [] 0), .lst []] from rfl, e]
  simp only [sSeq, sAsg, sIf, sSet, sRet, sNil, sExpr, sPar, tOrF, tAndF, tNotF, tVal, tYesF, eBin, eUn, eBlt, eTup, eLstS, eIf, eAnd, eOr, eNot, eChain, eSl, oNo, oSome, aCons, aNil, fVar, Zn.rget0, Zn.rgetS, eCon, gNm, wipeR, Zn.bind_ok, Zn.bind_err, Zn.stm_ok, Zn.fin_rt, Zn.fin_nx, List.set_cons_zero, List.set_cons_succ, if_true, decide_true, decide_false, Bool.false_eq_true, if_false, Bool.not_true, Bool.not_false, List.replicate_succ, List.replicate_zero, Nat.reduceSub, Zn.le0, Zn.le1, Zn.le2, Zn.le3, Zn.le4, Zn.le5, Zn.le6, Zn.le7, Zn.le8, Zn.le9, Zn.le10, Zn.le11, e5]
/-! ### logs judged -/
theorem log_in {ks : List Kd} {ds : List D} {b : D → Bool} (hn : noRefs ds = true) (hl : ds.length ≤ 1000) (h : ∀ d ∈ ds, ∀ m, fIso s_is_event_in [kindsD ks, d] m = .ok (.bl (b d)) m) (m : M) : fIso s_is_log_in [kindsD ks, .tup ds] m = .ok (.bl (ds.all b)) m := by
  refine iso_ok (m1 := []) (noRefs_c (nr_kinds ks) (noRefs_c hn rfl)) ?_ rfl
  unfold s_is_log_in
  rw [fn2]
  have hc : ∀ (x : Option D) (ρ : Rho) (m : M), fLc (wAny (fVar 1)) [2] (gNm 2) tYesF s_is_log_in_e1 (some (kindsD ks) :: some (.tup ds) :: x :: ρ) m = .ok (.sl (ds.map fun d => .bl (b d))) m := fun x ρ m =>
    flc_any rfl hl fun d hd => by
      unfold s_is_log_in_e1
      simp only [sSeq, sAsg, sIf, sSet, sRet, sNil, sExpr, sPar, tOrF, tAndF, tNotF, tVal, tYesF, eBin, eUn, eBlt, eTup, eLstS, eIf, eAnd, eOr, eNot, eChain, eSl, oNo, oSome, aCons, aNil, fVar, Zn.rget0, Zn.rgetS, eCon, gNm, wipeR, Zn.bind_ok, Zn.bind_err, Zn.stm_ok, Zn.fin_rt, Zn.fin_nx, List.set_cons_zero, List.set_cons_succ, if_true, decide_true, decide_false, Bool.false_eq_true, if_false, Bool.not_true, Bool.not_false, List.replicate_succ, List.replicate_zero, Nat.reduceSub, Zn.le0, Zn.le1, Zn.le2, Zn.le3, Zn.le4, Zn.le5, Zn.le6, Zn.le7, Zn.le8, Zn.le9, Zn.le10, Zn.le11, h d hd]
  simp only [sSeq, sAsg, sIf, sSet, sRet, sNil, sExpr, sPar, tOrF, tAndF, tNotF, tVal, tYesF, eBin, eUn, eBlt, eTup, eLstS, eIf, eAnd, eOr, eNot, eChain, eSl, oNo, oSome, aCons, aNil, fVar, Zn.rget0, Zn.rgetS, eCon, gNm, wipeR, Zn.bind_ok, Zn.bind_err, Zn.stm_ok, Zn.fin_rt, Zn.fin_nx, List.set_cons_zero, List.set_cons_succ, if_true, decide_true, decide_false, Bool.false_eq_true, if_false, Bool.not_true, Bool.not_false, List.replicate_succ, List.replicate_zero, Nat.reduceSub, Zn.le0, Zn.le1, Zn.le2, Zn.le3, Zn.le4, Zn.le5, Zn.le6, Zn.le7, Zn.le8, Zn.le9, Zn.le10, Zn.le11, isi_tt, hc, all_sl]
theorem log_ok {ks : List Kd} {l : List Ev} (h : ∀ e ∈ l, okE ks e) (hl : l.length ≤ 1000) (m : M) : fIso s_is_log_in [kindsD ks, logD l] m = .ok (.bl true) m := by
  have := log_in (ks := ks) (b := fun _ => true) (ds := l.map evD) (noRefs_map nr_ev l) (by rw [List.length_map]; exact hl) (fun d hd m => by
    obtain ⟨e, he, rfl⟩ := List.mem_map.mp hd
    exact event_ok (h e he) m) m
  rw [show (l.map evD).all (fun _ => true) = true by simp] at this
  exact this
theorem log_not {ks : List Kd} {d : D} (hn : noRef d = true) (h : ∀ m, bIsi [d, .ty "tuple"] m = .ok (.bl false) m) (m : M) : fIso s_is_log_in [kindsD ks, d] m = .ok (.bl false) m := by
  refine iso_ok (m1 := []) (noRefs_c (nr_kinds ks) (noRefs_c hn rfl)) ?_ rfl
  unfold s_is_log_in
  rw [fn2]
  simp only [sSeq, sAsg, sIf, sSet, sRet, sNil, sExpr, sPar, tOrF, tAndF, tNotF, tVal, tYesF, eBin, eUn, eBlt, eTup, eLstS, eIf, eAnd, eOr, eNot, eChain, eSl, oNo, oSome, aCons, aNil, fVar, Zn.rget0, Zn.rgetS, eCon, gNm, wipeR, Zn.bind_ok, Zn.bind_err, Zn.stm_ok, Zn.fin_rt, Zn.fin_nx, List.set_cons_zero, List.set_cons_succ, if_true, decide_true, decide_false, Bool.false_eq_true, if_false, Bool.not_true, Bool.not_false, List.replicate_succ, List.replicate_zero, Nat.reduceSub, Zn.le0, Zn.le1, Zn.le2, Zn.le3, Zn.le4, Zn.le5, Zn.le6, Zn.le7, Zn.le8, Zn.le9, Zn.le10, Zn.le11, h]
/-! ### a kinds value that is judged right -/
structure KOk (ks : List Kd) : Prop where
  are : ∀ m, fIso s_are_kinds [kindsD ks] m = .ok (.bl true) m
section
variable {ks : List Kd}
theorem need_kinds (K : KOk ks) (m : M) : fIso s_need_kinds [kindsD ks] m = .ok .non m := by
  refine iso_ok (m1 := []) (noRefs_c (nr_kinds ks) rfl) ?_ rfl
  unfold s_need_kinds
  rw [fn1]
  simp only [sSeq, sAsg, sIf, sSet, sRet, sNil, sExpr, sPar, tOrF, tAndF, tNotF, tVal, tYesF, eBin, eUn, eBlt, eTup, eLstS, eIf, eAnd, eOr, eNot, eChain, eSl, oNo, oSome, aCons, aNil, fVar, Zn.rget0, Zn.rgetS, eCon, gNm, wipeR, Zn.bind_ok, Zn.bind_err, Zn.stm_ok, Zn.fin_rt, Zn.fin_nx, List.set_cons_zero, List.set_cons_succ, if_true, decide_true, decide_false, Bool.false_eq_true, if_false, Bool.not_true, Bool.not_false, List.replicate_succ, List.replicate_zero, Nat.reduceSub, Zn.le0, Zn.le1, Zn.le2, Zn.le3, Zn.le4, Zn.le5, Zn.le6, Zn.le7, Zn.le8, Zn.le9, Zn.le10, Zn.le11, K.are]
theorem need_log {d : D} (hn : noRef d = true) (h : ∀ m, fIso s_is_log_in [kindsD ks, d] m = .ok (.bl true) m) (m : M) : fIso s_need_log [kindsD ks, d] m = .ok .non m := by
  refine iso_ok (m1 := []) (noRefs_c (nr_kinds ks) (noRefs_c hn rfl)) ?_ rfl
  unfold s_need_log
  rw [fn2]
  simp only [sSeq, sAsg, sIf, sSet, sRet, sNil, sExpr, sPar, tOrF, tAndF, tNotF, tVal, tYesF, eBin, eUn, eBlt, eTup, eLstS, eIf, eAnd, eOr, eNot, eChain, eSl, oNo, oSome, aCons, aNil, fVar, Zn.rget0, Zn.rgetS, eCon, gNm, wipeR, Zn.bind_ok, Zn.bind_err, Zn.stm_ok, Zn.fin_rt, Zn.fin_nx, List.set_cons_zero, List.set_cons_succ, if_true, decide_true, decide_false, Bool.false_eq_true, if_false, Bool.not_true, Bool.not_false, List.replicate_succ, List.replicate_zero, Nat.reduceSub, Zn.le0, Zn.le1, Zn.le2, Zn.le3, Zn.le4, Zn.le5, Zn.le6, Zn.le7, Zn.le8, Zn.le9, Zn.le10, Zn.le11, h]
theorem is_log_eq (K : KOk ks) {d : D} (hn : noRef d = true) {b : Bool} (h : ∀ m, fIso s_is_log_in [kindsD ks, d] m = .ok (.bl b) m) (m : M) : fIso s_is_log [kindsD ks, d] m = .ok (.bl b) m := by
  refine iso_ok (m1 := []) (noRefs_c (nr_kinds ks) (noRefs_c hn rfl)) ?_ rfl
  unfold s_is_log
  rw [fn2]
  simp only [sSeq, sAsg, sIf, sSet, sRet, sNil, sExpr, sPar, tOrF, tAndF, tNotF, tVal, tYesF, eBin, eUn, eBlt, eTup, eLstS, eIf, eAnd, eOr, eNot, eChain, eSl, oNo, oSome, aCons, aNil, fVar, Zn.rget0, Zn.rgetS, eCon, gNm, wipeR, Zn.bind_ok, Zn.bind_err, Zn.stm_ok, Zn.fin_rt, Zn.fin_nx, List.set_cons_zero, List.set_cons_succ, if_true, decide_true, decide_false, Bool.false_eq_true, if_false, Bool.not_true, Bool.not_false, List.replicate_succ, List.replicate_zero, Nat.reduceSub, Zn.le0, Zn.le1, Zn.le2, Zn.le3, Zn.le4, Zn.le5, Zn.le6, Zn.le7, Zn.le8, Zn.le9, Zn.le10, Zn.le11, need_kinds K, h]
variable {l : List Ev}
theorem plain_log_ok (K : KOk ks) (h : ∀ e ∈ l, okE ks e) (hl : l.length ≤ 100) (m : M) : fIso s_plain_log [kindsD ks, logD l] m = .ok (logD (plainL [] l)) m := by
  refine iso_ok (m1 := []) (noRefs_c (nr_kinds ks) (noRefs_c (nr_log l) rfl)) ?_ (nr_log _)
  unfold s_plain_log
  rw [fn2]
  simp only [sSeq, sAsg, sIf, sSet, sRet, sNil, sExpr, sPar, tOrF, tAndF, tNotF, tVal, tYesF, eBin, eUn, eBlt, eTup, eLstS, eIf, eAnd, eOr, eNot, eChain, eSl, oNo, oSome, aCons, aNil, fVar, Zn.rget0, Zn.rgetS, eCon, gNm, wipeR, Zn.bind_ok, Zn.bind_err, Zn.stm_ok, Zn.fin_rt, Zn.fin_nx, List.set_cons_zero, List.set_cons_succ, if_true, decide_true, decide_false, Bool.false_eq_true, if_false, Bool.not_true, Bool.not_false, List.replicate_succ, List.replicate_zero, Nat.reduceSub, Zn.le0, Zn.le1, Zn.le2, Zn.le3, Zn.le4, Zn.le5, Zn.le6, Zn.le7, Zn.le8, Zn.le9, Zn.le10, Zn.le11, need_kinds K, need_log (nr_log l) (log_ok h (Nat.le_trans hl (by decide))), plain_in_ok l hl]
variable {l2 : List Ev}
theorem alike_ok (K : KOk ks) (h : ∀ e ∈ l, okE ks e) (hl : l.length ≤ 100) (h2 : ∀ e ∈ l2, okE ks e) (hl2 : l2.length ≤ 100) (m : M) : fIso s_are_alike [kindsD ks, logD l, logD l2] m = .ok (.bl (PyData.eqv (logP (plainL [] l)) (logP (plainL [] l2)))) m := by
  refine iso_ok (m1 := []) (noRefs_c (nr_kinds ks) (noRefs_c (nr_log l) (noRefs_c (nr_log l2) rfl))) ?_ rfl
  unfold s_are_alike
  rw [fn3]
  simp only [sSeq, sAsg, sIf, sSet, sRet, sNil, sExpr, sPar, tOrF, tAndF, tNotF, tVal, tYesF, eBin, eUn, eBlt, eTup, eLstS, eIf, eAnd, eOr, eNot, eChain, eSl, oNo, oSome, aCons, aNil, fVar, Zn.rget0, Zn.rgetS, eCon, gNm, wipeR, Zn.bind_ok, Zn.bind_err, Zn.stm_ok, Zn.fin_rt, Zn.fin_nx, List.set_cons_zero, List.set_cons_succ, if_true, decide_true, decide_false, Bool.false_eq_true, if_false, Bool.not_true, Bool.not_false, List.replicate_succ, List.replicate_zero, Nat.reduceSub, Zn.le0, Zn.le1, Zn.le2, Zn.le3, Zn.le4, Zn.le5, Zn.le6, Zn.le7, Zn.le8, Zn.le9, Zn.le10, Zn.le11, need_kinds K, need_log (nr_log l) (log_ok h (Nat.le_trans hl (by decide))), need_log (nr_log l2) (log_ok h2 (Nat.le_trans hl2 (by decide))), plain_in_ok l hl, plain_in_ok l2 hl2, eq_pl (pl_log (plainL [] l)) (pl_log (plainL [] l2)) (by decide) (by decide)]
end
end K01

namespace Zn
open PySem PySem.Spec L2 Z
theorem alike_ev : ∀ a b : Ev, PySem.W.alike (evP a) (evP b) = true
  | (_, none), (_, none) => rfl
  | (_, none), (_, some _) => rfl
  | (_, some _), (_, none) => rfl
  | (_, some _), (_, some _) => rfl
theorem alike_evs : ∀ a b : List Ev, PySem.W.alikeAll (a.map evP) (b.map evP) = true
  | [], b => by cases b <;> rfl
  | x :: a, [] => rfl
  | x :: a, y :: b => by
    show PySem.W.alikeAll (evP x :: a.map evP) (evP y :: b.map evP) = true
    rw [PySem.W.alikeAll, alike_ev, alike_evs a b]
    rfl
theorem alike_log (a b : List Ev) : PySem.W.alike (logP a) (logP b) = true := by
  show PySem.W.alike (.tuple (a.map evP)) (.tuple (b.map evP)) = true
  rw [PySem.W.alike]
  exact alike_evs a b
theorem ord_pl {n k : Nat} {xs : List D} {y : D} {p q : PyData} {g : PyData → PyData → Bool} {i : Int → Int → Bool} (hx : Pl n (.tup xs) p) (hy : Pl k y q) (hn : n ≤ 23) (hk : k ≤ 23) (ha : PySem.W.alike p q = true) (h0 : notNone p = true) (m : M) : oOrd i g (.tup xs) y m = .ok (.bl (g p q)) m := by
  show oOrdP g (.tup xs) y m = _
  unfold oOrdP
  rw [hx.to24 hn, hy.to24 hk]
  dsimp only
  rw [ha, h0, decide_eq_true (by have := hx.dep; omega)]
  rfl
theorem lt_eqv {p q : PyData} (ha : PySem.W.alike p q = true) (e : PyData.eqv p q = true) : PySem.W.dataLt p q = false := by
  have := (PySem.W.toks_eqv p q ha).1 e
  unfold PySem.W.dataLt
  rw [this]
  exact PySem.W.dataLt_self q
/-- the order of logs -/
def lessB (a b : List Ev) : Bool := if a.length < b.length then true else if a.length = b.length then PySem.W.dataLt (logP a) (logP b) else false
theorem less_pair (a b : List Ev) : PySem.W.dataLt (.tuple [.int a.length, logP a]) (.tuple [.int b.length, logP b]) = lessB a b := by
  rw [PySem.W.dataLt_pair (by rfl) (alike_log a b)]
  have e1 : PyData.eqv (.int (a.length : Nat)) (.int (b.length : Nat)) = decide (a.length = b.length) := by
    rw [PyData.eqv]
    exact decide_eq_decide.mpr (by omega)
  rw [e1, PySem.W.dataLt_int]
  unfold lessB
  by_cases h : a.length = b.length
  · rw [decide_eq_true h, if_pos rfl, if_neg (show ¬ a.length < b.length by omega), if_pos h]
    by_cases q : PyData.eqv (logP a) (logP b) = true
    · rw [if_pos q, lt_eqv (alike_log a b) q]
    · rw [if_neg q]
  · rw [decide_eq_false h, if_neg (by simp), if_neg h]
    by_cases q : a.length < b.length
    · rw [if_pos q, decide_eq_true (by omega)]
    · rw [if_neg q, decide_eq_false (by omega)]
theorem less_self (a : List Ev) : lessB a a = false := by
  unfold lessB
  rw [if_neg (by omega), if_pos rfl]
  exact PySem.W.dataLt_self _
/-! ### names, each once -/
def truD (ns : List Nat) : List (D × D) := ns.map fun n => (.int (n : Nat), .bl true)
theorem tru_any (n : Nat) : ∀ ns i, (truD ns).any (fun p => keyB p.1 (.int (n : Nat))) = (idx ns i n).isSome
  | [], _ => rfl
  | x :: r, i => by
    unfold truD
    rw [List.map_cons, List.any_cons, keyB_nat]
    unfold idx
    by_cases h : x = n
    · rw [decide_eq_true h, if_pos h]
      rfl
    · rw [decide_eq_false h, if_neg h]
      exact tru_any n r (i + 1)
theorem tru_put (ns : List Nat) (n : Nat) : putD (truD ns) (.int (n : Nat)) (.bl true) = truD (match idx ns 0 n with | some _ => ns | none => ns ++ [n]) := by
  unfold putD
  rw [tru_any n ns 0]
  cases idx ns 0 n with
  | none =>
    rw [if_neg (by simp)]
    unfold truD
    rw [List.map_append]
    rfl
  | some i =>
    rw [if_pos (by rfl)]
    dsimp only
    unfold truD
    rw [List.map_map]
    refine List.map_congr_left fun x _ => ?_
    show (if _ then _ else _) = _
    split <;> rfl
theorem nat_any (n : Nat) : ∀ (ns : List Nat) i, (ns.map fun x => D.int (x : Nat)).any (fun y => eqF y (.int (n : Nat))) = (idx ns i n).isSome
  | [], _ => rfl
  | x :: r, i => by
    rw [List.map_cons, List.any_cons]
    unfold idx
    have e : eqF (.int (x : Nat)) (.int (n : Nat)) = decide (x = n) := by
      show ((x : Int) == (n : Int)) = _
      rw [Bool.eq_iff_iff]
      simp
      omega
    rw [e]
    by_cases h : x = n
    · rw [decide_eq_true h, if_pos h]
      rfl
    · rw [decide_eq_false h, if_neg h]
      exact nat_any n r (i + 1)
theorem names_len : ∀ (l : List Ev) (ns : List Nat), (namesL ns l).length ≤ ns.length + l.length
  | [], ns => by show ns.length ≤ _; omega
  | (k, none) :: r, ns => by
    show (namesL ns r).length ≤ _
    have := names_len r ns
    rw [List.length_cons]
    omega
  | (k, some n) :: r, ns => by
    unfold namesL
    rw [List.length_cons]
    cases idx ns 0 n with
    | some i => have := names_len r ns; dsimp only; omega
    | none => have := names_len r (ns ++ [n]); rw [List.length_append] at this; dsimp only; simp at this; omega
theorem not_in_lst {m : M} {a : Nat} {ns : List Nat} (h : m[a]? = some (.lst (ns.map fun x => D.int (x : Nat)))) (n : Nat) : oNotIn (.int (n : Nat)) (.ref a) m = .ok (.bl (!(idx ns 0 n).isSome)) m := by
  unfold oNotIn
  have hf : (flatD (.int (n : Nat)) && (ns.map fun x => D.int (x : Nat)).all flatD) = true := by
    rw [List.all_map]
    show (true && ns.all (fun _ => true)) = true
    simp
  rw [show inB (.int (n : Nat)) (.ref a) m = some ((ns.map fun x => D.int (x : Nat)).any fun y => eqF y (.int (n : Nat))) by
    simp only [inB, h, hf, if_true]]
  rw [nat_any n ns 0]
end Zn
namespace K01
open PySem PySem.Spec L2 Z Zn
section
variable {ks : List Kd} {l l2 : List Ev}
theorem less_in_ok (m : M) : fIso s_is_less_in [logD l, logD l2] m = .ok (.bl (lessB l l2)) m := by
  refine iso_ok (m1 := []) (noRefs_c (nr_log l) (noRefs_c (nr_log l2) rfl)) ?_ rfl
  unfold s_is_less_in
  rw [fn2]
  have e : ∀ m : M, oLt (.tup [.int (l.map evD).length, logD l]) (.tup [.int (l2.map evD).length, logD l2]) m = .ok (.bl (lessB l l2)) m := fun m => by
    rw [List.length_map, List.length_map, ← less_pair]
    exact ord_pl (pl_tup (.cons ((pl_int _).up (by decide)) (.cons (pl_log l) .nil))) (pl_tup (.cons ((pl_int _).up (by decide)) (.cons (pl_log l2) .nil))) (by decide) (by decide) (by
      rw [PySem.W.alike, PySem.W.alikeAll, PySem.W.alikeAll, alike_log]; rfl) rfl m
  simp only [sSeq, sAsg, sIf, sSet, sRet, sNil, sExpr, sPar, tOrF, tAndF, tNotF, tVal, tYesF, eBin, eUn, eBlt, eTup, eLstS, eIf, eAnd, eOr, eNot, eChain, eSl, oNo, oSome, aCons, aNil, fVar, Zn.rget0, Zn.rgetS, eCon, gNm, wipeR, Zn.bind_ok, Zn.bind_err, Zn.stm_ok, Zn.fin_rt, Zn.fin_nx, List.set_cons_zero, List.set_cons_succ, if_true, decide_true, decide_false, Bool.false_eq_true, if_false, Bool.not_true, Bool.not_false, List.replicate_succ, List.replicate_zero, Nat.reduceSub, Zn.le0, Zn.le1, Zn.le2, Zn.le3, Zn.le4, Zn.le5, Zn.le6, Zn.le7, Zn.le8, Zn.le9, Zn.le10, Zn.le11, len_tup, e]
theorem less_log_ok (K : KOk ks) (h : ∀ e ∈ l, okE ks e) (hl : l.length ≤ 100) (h2 : ∀ e ∈ l2, okE ks e) (hl2 : l2.length ≤ 100) (m : M) : fIso s_is_less_log [kindsD ks, logD l, logD l2] m = .ok (.bl (lessB l l2)) m := by
  refine iso_ok (m1 := []) (noRefs_c (nr_kinds ks) (noRefs_c (nr_log l) (noRefs_c (nr_log l2) rfl))) ?_ rfl
  unfold s_is_less_log
  rw [fn3]
  simp only [sSeq, sAsg, sIf, sSet, sRet, sNil, sExpr, sPar, tOrF, tAndF, tNotF, tVal, tYesF, eBin, eUn, eBlt, eTup, eLstS, eIf, eAnd, eOr, eNot, eChain, eSl, oNo, oSome, aCons, aNil, fVar, Zn.rget0, Zn.rgetS, eCon, gNm, wipeR, Zn.bind_ok, Zn.bind_err, Zn.stm_ok, Zn.fin_rt, Zn.fin_nx, List.set_cons_zero, List.set_cons_succ, if_true, decide_true, decide_false, Bool.false_eq_true, if_false, Bool.not_true, Bool.not_false, List.replicate_succ, List.replicate_zero, Nat.reduceSub, Zn.le0, Zn.le1, Zn.le2, Zn.le3, Zn.le4, Zn.le5, Zn.le6, Zn.le7, Zn.le8, Zn.le9, Zn.le10, Zn.le11, need_kinds K, need_log (nr_log l) (log_ok h (Nat.le_trans hl (by decide))), need_log (nr_log l2) (log_ok h2 (Nat.le_trans hl2 (by decide))), less_in_ok]
theorem names_loop (x0 x1 : Option D) (m : M) : ∀ (l : List Ev) (ns : List Nat), ns.length + l.length ≤ 1000 → dcL (gNm 2) (tVal (eBin oEq (eBlt bLen (aCons (fVar 2) aNil)) (eCon (.int 2)))) (eBin oIx (fVar 2) (eCon (.int 1))) (eCon (.bl true)) [x0, x1, none] (l.map evD) (truD ns) m = .ok (truD (namesL ns l)) m
  | [], ns, _ => rfl
  | (k, none) :: r, ns, hl => by
    rw [List.length_cons] at hl
    have ih := names_loop x0 x1 m r ns (by omega)
    have l1 : ∀ m : M, bLen [evD (k, none)] m = .ok (.int 1) m := fun _ => rfl
    have c3 : decide ((1 : Int) = 2) = false := rfl
    rw [List.map_cons, dcL]
    simp only [sSeq, sAsg, sIf, sSet, sRet, sNil, sExpr, sPar, tOrF, tAndF, tNotF, tVal, tYesF, eBin, eUn, eBlt, eTup, eLstS, eIf, eAnd, eOr, eNot, eChain, eSl, oNo, oSome, aCons, aNil, fVar, Zn.rget0, Zn.rgetS, eCon, gNm, wipeR, Zn.bind_ok, Zn.bind_err, Zn.stm_ok, Zn.fin_rt, Zn.fin_nx, List.set_cons_zero, List.set_cons_succ, if_true, decide_true, decide_false, Bool.false_eq_true, if_false, Bool.not_true, Bool.not_false, List.replicate_succ, List.replicate_zero, Nat.reduceSub, Zn.le0, Zn.le1, Zn.le2, Zn.le3, Zn.le4, Zn.le5, Zn.le6, Zn.le7, Zn.le8, Zn.le9, Zn.le10, Zn.le11, l1, eq_int, c3, ih]
    rfl
  | (k, some n) :: r, ns, hl => by
    rw [List.length_cons] at hl
    have l1 : ∀ m : M, bLen [evD (k, some n)] m = .ok (.int 2) m := fun _ => rfl
    have i1 : ∀ m : M, oIx (evD (k, some n)) (.int 1) m = .ok (.int (n : Nat)) m := fun m => ix_tup (atD1 _ _ _)
    have q : ((keyOf (.int (n : Nat))).isSome && Nat.blt (truD ns).length 16777216) = true := by
      show (true && Nat.ble ((truD ns).length + 1) 16777216) = true
      rw [Nat.ble_eq_true_of_le (by unfold truD; rw [List.length_map]; omega)]
      rfl
    have ih : dcL (gNm 2) (tVal (eBin oEq (eBlt bLen (aCons (fVar 2) aNil)) (eCon (.int 2)))) (eBin oIx (fVar 2) (eCon (.int 1))) (eCon (.bl true)) [x0, x1, none] (r.map evD) (truD (match idx ns 0 n with | some _ => ns | none => ns ++ [n])) m = .ok (truD (namesL ns ((k, some n) :: r))) m := by
      rw [names_loop x0 x1 m r _ (by
        cases idx ns 0 n with
        | some i => dsimp only; omega
        | none => dsimp only; rw [List.length_append, List.length_cons, List.length_nil]; omega)]
      rw [show namesL ns ((k, some n) :: r) = (match idx ns 0 n with | some _ => namesL ns r | none => namesL (ns ++ [n]) r) from rfl]
      cases idx ns 0 n <;> rfl
    rw [List.map_cons, dcL]
    simp only [tVal, eBin, eBlt, aCons, aNil, fVar, rget0, rgetS, eCon, gNm, bind_ok, List.set_cons_zero, List.set_cons_succ, l1, eq_int, decide_true, i1, q, tru_put, ih]
theorem names_ok (K : KOk ks) (h : ∀ e ∈ l, okE ks e) (hl : l.length ≤ 100) (m : M) : fIso s_names_in [kindsD ks, logD l] m = .ok (.tup ((namesL [] l).map fun n => .int (n : Nat))) m := by
  refine iso_ok (m1 := [Cell.dic (truD (namesL [] l))]) (noRefs_c (nr_kinds ks) (noRefs_c (nr_log l) rfl)) ?_ (noRefs_map (fun _ => rfl) _)
  unfold s_names_in
  rw [fn2]
  have hc : ∀ (m : M), fDc (wAny (fVar 1)) [2] (gNm 2) (tVal (eBin oEq (eBlt bLen (aCons (fVar 2) aNil)) (eCon (.int 2)))) (eBin oIx (fVar 2) (eCon (.int 1))) (eCon (.bl true)) [some (kindsD ks), some (logD l), none] m = .ok (.ref m.length) (m ++ [.dic (truD (namesL [] l))]) := fun m => by
    have := names_loop (some (kindsD ks)) (some (logD l)) m l [] (by rw [List.length_nil]; omega)
    show (match dcL (gNm 2) _ _ _ [some (kindsD ks), some (logD l), none] (l.map evD) [] m with
      | .ok kvs m2 => R.ok (D.ref m2.length) (m2 ++ [Cell.dic kvs])
      | _ => .bad) = _
    rw [show ([] : List (D × D)) = truD [] from rfl, this]
  have ht : bTupleA [.ref 0] [Cell.dic (truD (namesL [] l))] = .ok (.tup ((namesL [] l).map fun n => .int (n : Nat))) [Cell.dic (truD (namesL [] l))] := by
    show (if (truD (namesL [] l)).all (fun p => (Z.keyOf p.1).isSome) = true then R.ok (D.tup ((truD (namesL [] l)).map (·.1))) _ else .bad) = _
    rw [if_pos (by unfold truD; rw [List.all_map]; simp [Z.keyOf])]
    unfold truD
    rw [List.map_map]
    rfl
  simp only [sSeq, sAsg, sIf, sSet, sRet, sNil, sExpr, sPar, tOrF, tAndF, tNotF, tVal, tYesF, eBin, eUn, eBlt, eTup, eLstS, eIf, eAnd, eOr, eNot, eChain, eSl, oNo, oSome, aCons, aNil, fVar, Zn.rget0, Zn.rgetS, eCon, gNm, wipeR, Zn.bind_ok, Zn.bind_err, Zn.stm_ok, Zn.fin_rt, Zn.fin_nx, List.set_cons_zero, List.set_cons_succ, if_true, decide_true, decide_false, Bool.false_eq_true, if_false, Bool.not_true, Bool.not_false, List.replicate_succ, List.replicate_zero, Nat.reduceSub, Zn.le0, Zn.le1, Zn.le2, Zn.le3, Zn.le4, Zn.le5, Zn.le6, Zn.le7, Zn.le8, Zn.le9, Zn.le10, Zn.le11, need_kinds K, need_log (nr_log l) (log_ok h (Nat.le_trans hl (by decide))), hc, List.length_nil, List.nil_append, ht]
end
/-! ### the law's own names -/
theorem law_names {x0 x1 x2 x3 x4 x5 x6 x7 x8 x11 x12 x13 x14 x15 x16 x17 : Option D} {a : Nat} : ∀ (l : List Ev) (ns : List Nat) (x10 : Option D) (m : M), a < m.length → m[a]? = some (.lst (ns.map fun n => .int (n : Nat))) → ns.length + l.length ≤ 1000 →
    ∃ x10', forL (gNm 10) s_law_b2 (l.map evD) [x0, x1, x2, x3, x4, x5, x6, x7, x8, some (.ref a), x10, x11, x12, x13, x14, x15, x16, x17] m = some (.nx [x0, x1, x2, x3, x4, x5, x6, x7, x8, some (.ref a), x10', x11, x12, x13, x14, x15, x16, x17], m.set a (.lst ((namesL ns l).map fun n => .int (n : Nat))))
  | [], ns, x10, m, ha, h, _ => ⟨x10, by
    show some (Fl.nx _, m) = _
    rw [show m.set a (.lst ((namesL ns []).map fun n => .int (n : Nat))) = m by
      obtain ⟨q, e⟩ := List.getElem?_eq_some_iff.mp h
      rw [show namesL ns [] = ns from rfl, ← e]
      exact List.set_getElem_self q]⟩
  | (k, none) :: r, ns, x10, m, ha, h, hl => by
    rw [List.length_cons] at hl
    obtain ⟨x', e⟩ := law_names r ns (some (evD (k, none))) m ha h (by omega)
    refine ⟨x', ?_⟩
    have l1 : ∀ m : M, bLen [evD (k, none)] m = .ok (.int 1) m := fun _ => rfl
    have c3 : decide ((1 : Int) = 2) = false := rfl
    have q : s_law_b2 [x0, x1, x2, x3, x4, x5, x6, x7, x8, some (.ref a), some (evD (k, none)), x11, x12, x13, x14, x15, x16, x17] m = some (.nx [x0, x1, x2, x3, x4, x5, x6, x7, x8, some (.ref a), some (evD (k, none)), x11, x12, x13, x14, x15, x16, x17], m) := by
      unfold s_law_b2
      simp only [sSeq, sAsg, sIf, sSet, sRet, sNil, sExpr, sPar, tOrF, tAndF, tNotF, tVal, tYesF, eBin, eUn, eBlt, eTup, eLstS, eIf, eAnd, eOr, eNot, eChain, eSl, oNo, oSome, aCons, aNil, fVar, Zn.rget0, Zn.rgetS, eCon, gNm, wipeR, Zn.bind_ok, Zn.bind_err, Zn.stm_ok, Zn.fin_rt, Zn.fin_nx, List.set_cons_zero, List.set_cons_succ, if_true, decide_true, decide_false, Bool.false_eq_true, if_false, Bool.not_true, Bool.not_false, List.replicate_succ, List.replicate_zero, Nat.reduceSub, Zn.le0, Zn.le1, Zn.le2, Zn.le3, Zn.le4, Zn.le5, Zn.le6, Zn.le7, Zn.le8, Zn.le9, Zn.le10, Zn.le11, l1, eq_int, c3]
    rw [List.map_cons, forL_nx rfl q, e]
    rfl
  | (k, some n) :: r, ns, x10, m, ha, h, hl => by
    rw [List.length_cons] at hl
    have l1 : ∀ m : M, bLen [evD (k, some n)] m = .ok (.int 2) m := fun _ => rfl
    have i1 : ∀ m : M, oIx (evD (k, some n)) (.int 1) m = .ok (.int (n : Nat)) m := fun m => ix_tup (atD1 _ _ _)
    have ni := not_in_lst h n
    cases hi : idx ns 0 n with
    | some i =>
      obtain ⟨x', e⟩ := law_names r ns (some (evD (k, some n))) m ha h (by omega)
      refine ⟨x', ?_⟩
      rw [hi] at ni
      have q : s_law_b2 [x0, x1, x2, x3, x4, x5, x6, x7, x8, some (.ref a), some (evD (k, some n)), x11, x12, x13, x14, x15, x16, x17] m = some (.nx [x0, x1, x2, x3, x4, x5, x6, x7, x8, some (.ref a), some (evD (k, some n)), x11, x12, x13, x14, x15, x16, x17], m) := by
        unfold s_law_b2
        simp only [sSeq, sAsg, sIf, sSet, sRet, sNil, sExpr, sPar, tOrF, tAndF, tNotF, tVal, tYesF, eBin, eUn, eBlt, eTup, eLstS, eIf, eAnd, eOr, eNot, eChain, eSl, oNo, oSome, aCons, aNil, fVar, Zn.rget0, Zn.rgetS, eCon, gNm, wipeR, Zn.bind_ok, Zn.bind_err, Zn.stm_ok, Zn.fin_rt, Zn.fin_nx, List.set_cons_zero, List.set_cons_succ, if_true, decide_true, decide_false, Bool.false_eq_true, if_false, Bool.not_true, Bool.not_false, List.replicate_succ, List.replicate_zero, Nat.reduceSub, Zn.le0, Zn.le1, Zn.le2, Zn.le3, Zn.le4, Zn.le5, Zn.le6, Zn.le7, Zn.le8, Zn.le9, Zn.le10, Zn.le11, l1, eq_int, i1, ni, Option.isSome_some]
      rw [List.map_cons, forL_nx rfl q, e]
      rw [show namesL ns ((k, some n) :: r) = (match idx ns 0 n with | some _ => namesL ns r | none => namesL (ns ++ [n]) r) from rfl, hi]
    | none =>
      have hl2 : (ns.map fun n => D.int (n : Nat)).length < line := by rw [lineN, List.length_map]; omega
      have ap := append_at h hl2 (.int (n : Nat))
      have hm : (ns.map fun n => D.int (n : Nat)) ++ [.int (n : Nat)] = (ns ++ [n]).map fun n => D.int (n : Nat) := by rw [List.map_append]; rfl
      rw [hm] at ap
      obtain ⟨x', e⟩ := law_names r (ns ++ [n]) (some (evD (k, some n))) (m.set a (.lst ((ns ++ [n]).map fun n => D.int (n : Nat)))) (by rw [List.length_set]; exact ha) (List.getElem?_set_self ha) (by rw [List.length_append, List.length_cons, List.length_nil]; omega)
      refine ⟨x', ?_⟩
      rw [hi] at ni
      have q : s_law_b2 [x0, x1, x2, x3, x4, x5, x6, x7, x8, some (.ref a), some (evD (k, some n)), x11, x12, x13, x14, x15, x16, x17] m = some (.nx [x0, x1, x2, x3, x4, x5, x6, x7, x8, some (.ref a), some (evD (k, some n)), x11, x12, x13, x14, x15, x16, x17], m.set a (.lst ((ns ++ [n]).map fun n => D.int (n : Nat)))) := by
        unfold s_law_b2
        simp only [sSeq, sAsg, sIf, sSet, sRet, sNil, sExpr, sPar, tOrF, tAndF, tNotF, tVal, tYesF, eBin, eUn, eBlt, eTup, eLstS, eIf, eAnd, eOr, eNot, eChain, eSl, oNo, oSome, aCons, aNil, fVar, Zn.rget0, Zn.rgetS, eCon, gNm, wipeR, Zn.bind_ok, Zn.bind_err, Zn.stm_ok, Zn.fin_rt, Zn.fin_nx, List.set_cons_zero, List.set_cons_succ, if_true, decide_true, decide_false, Bool.false_eq_true, if_false, Bool.not_true, Bool.not_false, List.replicate_succ, List.replicate_zero, Nat.reduceSub, Zn.le0, Zn.le1, Zn.le2, Zn.le3, Zn.le4, Zn.le5, Zn.le6, Zn.le7, Zn.le8, Zn.le9, Zn.le10, Zn.le11, l1, eq_int, i1, ni, Option.isSome_none, eMethL, lst_at h, ap]
      rw [List.map_cons, forL_nx rfl q, e, List.set_set]
      rw [show namesL ns ((k, some n) :: r) = (match idx ns 0 n with | some _ => namesL ns r | none => namesL (ns ++ [n]) r) from rfl, hi]
/-! ### names turned -/
def turnD : D → D
  | .tup [.int k, .int n] => .tup [.int k, .int (9 - n)]
  | d => d
def turnE : Ev → Ev := evMap fun n => 9 - n
theorem turn_ev {e : Ev} (h : ∀ n, e.2 = some n → n ≤ 9) : turnD (evD e) = evD (turnE e) := by
  obtain ⟨k, o⟩ := e
  cases o with
  | none => rfl
  | some n =>
    have := h n rfl
    show D.tup [.int k, .int (9 - (n : Int))] = .tup [.int k, .int ((9 - n : Nat) : Int)]
    rw [show (9 : Int) - (n : Int) = ((9 - n : Nat) : Int) by omega]
theorem turned_ok {x0 x1 x2 x3 x4 x6 x7 x8 x9 x10 x11 x12 x13 x14 x15 x16 x17 : Option D} {l : List Ev} (hl : l.length ≤ 100) (hn : ∀ e ∈ l, ∀ n, e.2 = some n → n ≤ 9) (m : M) :
    fLc (wAny (fVar 5)) [10] (gNm 10) tYesF s_law_e1 [x0, x1, x2, x3, x4, some (logD l), x6, x7, x8, x9, x10, x11, x12, x13, x14, x15, x16, x17] m = .ok (.sl ((l.map turnE).map evD)) m := by
  have := flc_any (i := 10) (f := s_law_e1) (fe := fVar 5) (ρ := [x0, x1, x2, x3, x4, some (logD l), x6, x7, x8, x9, x10, x11, x12, x13, x14, x15, x16, x17]) (m := m) (h := turnD) (ds := l.map evD) rfl (by rw [List.length_map]; omega) fun d hd => by
    obtain ⟨⟨k, o⟩, he, rfl⟩ := List.mem_map.mp hd
    have i0 : ∀ (m : M) (x : D) (xs : List D), oIx (.tup (x :: xs)) (.int 0) m = .ok x m := fun m x xs => ix_tup (atD0 x xs)
    have i1 : ∀ (m : M) (x y : D), oIx (.tup [x, y]) (.int 1) m = .ok y m := fun m x y => ix_tup (atD1 x y [])
    cases o with
    | none =>
      have l1 : ∀ m : M, bLen [evD (k, none)] m = .ok (.int 1) m := fun _ => rfl
      unfold s_law_e1
      simp only [sSeq, sAsg, sIf, sSet, sRet, sNil, sExpr, sPar, tOrF, tAndF, tNotF, tVal, tYesF, eBin, eUn, eBlt, eTup, eLstS, eIf, eAnd, eOr, eNot, eChain, eSl, oNo, oSome, aCons, aNil, fVar, Zn.rget0, Zn.rgetS, eCon, gNm, wipeR, Zn.bind_ok, Zn.bind_err, Zn.stm_ok, Zn.fin_rt, Zn.fin_nx, List.set_cons_zero, List.set_cons_succ, if_true, decide_true, decide_false, Bool.false_eq_true, if_false, Bool.not_true, Bool.not_false, List.replicate_succ, List.replicate_zero, Nat.reduceSub, Zn.le0, Zn.le1, Zn.le2, Zn.le3, Zn.le4, Zn.le5, Zn.le6, Zn.le7, Zn.le8, Zn.le9, Zn.le10, Zn.le11, l1, eq_int]
      rfl
    | some n =>
      have l1 : ∀ m : M, bLen [evD (k, some n)] m = .ok (.int 2) m := fun _ => rfl
      have c3 : decide ((2 : Int) = 1) = false := rfl
      unfold s_law_e1
      simp only [sSeq, sAsg, sIf, sSet, sRet, sNil, sExpr, sPar, tOrF, tAndF, tNotF, tVal, tYesF, eBin, eUn, eBlt, eTup, eLstS, eIf, eAnd, eOr, eNot, eChain, eSl, oNo, oSome, aCons, aNil, fVar, Zn.rget0, Zn.rgetS, eCon, gNm, wipeR, Zn.bind_ok, Zn.bind_err, Zn.stm_ok, Zn.fin_rt, Zn.fin_nx, List.set_cons_zero, List.set_cons_succ, if_true, decide_true, decide_false, Bool.false_eq_true, if_false, Bool.not_true, Bool.not_false, List.replicate_succ, List.replicate_zero, Nat.reduceSub, Zn.le0, Zn.le1, Zn.le2, Zn.le3, Zn.le4, Zn.le5, Zn.le6, Zn.le7, Zn.le8, Zn.le9, Zn.le10, Zn.le11, l1, eq_int, c3]
      simp only [sSeq, sAsg, sIf, sSet, sRet, sNil, sExpr, sPar, tOrF, tAndF, tNotF, tVal, tYesF, eBin, eUn, eBlt, eTup, eLstS, eIf, eAnd, eOr, eNot, eChain, eSl, oNo, oSome, aCons, aNil, fVar, Zn.rget0, Zn.rgetS, eCon, gNm, wipeR, Zn.bind_ok, Zn.bind_err, Zn.stm_ok, Zn.fin_rt, Zn.fin_nx, List.set_cons_zero, List.set_cons_succ, if_true, decide_true, decide_false, Bool.false_eq_true, if_false, Bool.not_true, Bool.not_false, List.replicate_succ, List.replicate_zero, Nat.reduceSub, Zn.le0, Zn.le1, Zn.le2, Zn.le3, Zn.le4, Zn.le5, Zn.le6, Zn.le7, Zn.le8, Zn.le9, Zn.le10, Zn.le11, evD, i0, i1, sub_int]
      rfl
  rw [this, List.map_map, List.map_map]
  congr 2
  refine List.map_congr_left fun e he => ?_
  exact turn_ev (hn e he)
theorem turn_plain {l : List Ev} (hn : ∀ e ∈ l, ∀ n, e.2 = some n → n ≤ 9) : plainL [] (l.map turnE) = plainL [] l :=
  plainL_map (f := fun n => 9 - n) (S := fun n => n ≤ 9) (fun a b (ha : a ≤ 9) (hb : b ≤ 9) (e : 9 - a = 9 - b) => by omega) l [] (fun x hx => by cases hx) hn
theorem turn_okE {ks : List Kd} {e : Ev} (h : okE ks e) : okE ks (turnE e) := by
  obtain ⟨k, o⟩ := e
  cases o <;> exact h
end K01

namespace Zn
open PySem PySem.Spec L2 Z
def perms {α : Type} : Nat → List α → List (List α)
  | 0, _ => [[]]
  | n + 1, l => (List.range l.length).flatMap fun i => match l[i]? with
    | some x => (perms n (l.eraseIdx i)).map (x :: ·)
    | none => []
theorem perms_cons {α : Type} {n i : Nat} {l p : List α} {x : α} (h : l[i]? = some x) (hp : p ∈ perms n (l.eraseIdx i)) : x :: p ∈ perms (n + 1) l := by
  unfold perms
  rw [List.mem_flatMap]
  refine ⟨i, List.mem_range.mpr (List.getElem?_eq_some_iff.mp h).1, ?_⟩
  rw [h]
  exact List.mem_map.mpr ⟨p, hp, rfl⟩
theorem get_map_str {α : Type} {g : α → D} {l : List α} {i : Nat} (h : i < l.length) : (l.map g)[i]? = some (g l[i]) := by
  rw [List.getElem?_map, List.getElem?_eq_getElem h]
  rfl
theorem erase_map {α : Type} (g : α → D) : ∀ (l : List α) (i : Nat), (l.map g).eraseIdx i = (l.eraseIdx i).map g
  | [], _ => rfl
  | x :: l, 0 => rfl
  | x :: l, i + 1 => by
    show g x :: (l.map g).eraseIdx i = _
    rw [erase_map g l i]
    rfl
theorem pop_at {α : Type} {g : α → D} {m : M} {a i : Nat} {l : List α} (h : m[a]? = some (.lst (l.map g))) (hi : i < l.length) (hl : l.length ≤ 1000) : mPopAt (.ref a) [.int (i : Nat)] m = .ok (g l[i]) (m.set a (.lst ((l.eraseIdx i).map g))) := by
  unfold mPopAt
  simp only [h]
  rw [if_pos ⟨by omega, by rw [List.length_map]; omega, by rw [List.length_map, lineN]; omega⟩, Int.toNat_natCast]
  rw [show (l.map g)[i]? = some (g l[i]) from get_map_str hi]
  dsimp only
  rw [erase_map]
theorem len_lst {m : M} {a : Nat} {xs : List D} (h : m[a]? = some (.lst xs)) : bLen [.ref a] m = .ok (.int xs.length) m := by
  show (match lenD m (.ref a) with | some n => R.ok (D.int n) m | none => .bad) = _
  rw [show lenD m (.ref a) = some xs.length by simp only [lenD, h]]
theorem small_nat {n : Nat} (h : n < 1000000) : small62 (n : Int) = true := by
  unfold small62
  rw [Bool.and_eq_true]
  exact ⟨decide_eq_true (by omega), decide_eq_true (by omega)⟩
theorem wrange1 {a : AF} {ρ : Rho} {m m1 : M} {j : Int} (h : a ρ m = .ok [.int j] m1) (hn : small62 j = true) : wRange a ρ m = .ok (.list (rangeD 0 j.toNat)) m1 := by
  unfold wRange
  rw [h]
  show (if small62 j = true then R.ok (Wk.list (rangeD 0 j.toNat)) m1 else .bad) = _
  rw [if_pos hn]
theorem wrange_ok {a : AF} {ρ : Rho} {m m1 : M} {n : Nat} (h : a ρ m = .ok [.int (n : Nat)] m1) (hn : n < 1000000) : wRange a ρ m = .ok (.list (rangeD 0 n)) m1 := by
  rw [wrange1 h (small_nat hn), Int.toNat_natCast]
end Zn
namespace K01
open PySem PySem.Spec L2 Z Zn
theorem drawK : DrawOk s__law_draw := drawOk (A := 73673) (MD := 2147483543) (B := 9743) (C := 179) (E := 23) (V := 128) rfl (by decide) (by decide) rfl (by decide) (by decide) (by decide) (by decide) (by decide) (by decide) (by decide) (by decide)
theorem penK (ns : List Int) : ∃ c, Pen 0 c ∧ s__law_pen [.fl (ns.map .int)] [] = .ok (.ref 0) [c] := penOk (A := 179) (MD := 1000000033) rfl (by decide) (by decide) ns
theorem pickK {xs : List D} {n : Int} {c : Cell} {rest : M} (h : Pen n c) (hn : n ≤ 1000000) (h0 : 0 < xs.length) (h1 : xs.length < 1000000) : ∃ d c', d ∈ xs ∧ Pen (n + 1) c' ∧ s__law_pick [.ref 0, .sl xs] (c :: rest) = .ok d (c' :: rest) := pickOk drawK h hn h0 h1
/-! ### shuffled -/
theorem shuffle_loop {α : Type} (g : α → D) {x0 x1 : Option D} {i j : Nat} (hij : i ≠ j) : ∀ (ds : List D) (l fs : List α) (x4 : Option D) (c : Cell) (t : M) (n : Int), ds.length = l.length → fs.length + l.length ≤ 1000 → Pen n c → n + l.length ≤ 1000000 → t[i]? = some (.lst (l.map g)) → t[j]? = some (.lst (fs.map g)) → x0 = some (.ref 0) →
    ∃ p c' t' x4', p ∈ perms l.length l ∧ p.length = l.length ∧ Pen (n + l.length) c' ∧ t'[j]? = some (.lst ((fs ++ p).map g)) ∧ forL (gNm 4) s__law_shuffled_b1 ds [x0, x1, some (.ref (i + 1)), some (.ref (j + 1)), x4] (c :: t) = some (.nx [x0, x1, some (.ref (i + 1)), some (.ref (j + 1)), x4'], c' :: t')
  | [], [], fs, x4, c, t, n, _, _, hp, _, _, h2, _ => ⟨[], c, t, x4, List.mem_singleton.mpr rfl, rfl, by simpa using hp, by rw [List.append_nil]; exact h2, rfl⟩
  | [], _ :: _, _, _, _, _, _, h, _, _, _, _, _, _ => by cases h
  | _ :: _, [], _, _, _, _, _, h, _, _, _, _, _, _ => by cases h
  | d :: ds, y :: l, fs, x4, c, t, n, hl, hs, hp, hn, h1, h2, hx => by
    subst hx
    have hlen : (y :: l).length = l.length + 1 := rfl
    obtain ⟨r, c1, r0, r1, hp1, e1⟩ := drawK n (y :: l).length c t hp (by omega) (by omega) (by omega)
    obtain ⟨k, rfl⟩ := Int.eq_ofNat_of_zero_le r0
    have hk : k < (y :: l).length := by omega
    have it : i < t.length := (List.getElem?_eq_some_iff.mp h1).1
    have jt : j < t.length := (List.getElem?_eq_some_iff.mp h2).1
    have ep := pop_at (m := c1 :: t) (a := i + 1) (g := g) h1 hk (by omega)
    have h2' : (c1 :: t.set i (.lst (((y :: l).eraseIdx k).map g)))[j + 1]? = some (.lst (fs.map g)) := by
      show (t.set i _)[j]? = _
      rw [List.getElem?_set_ne hij]
      exact h2
    have ea := append_at h2' (show (fs.map g).length < line by rw [List.length_map, lineN]; omega) (g (y :: l)[k])
    have hle : ((y :: l).eraseIdx k).length = l.length := by rw [List.length_eraseIdx, if_pos hk]; rfl
    obtain ⟨p, c', t', x4', p1, p2, p3, p4, p5⟩ := shuffle_loop g hij (x0 := some (.ref 0)) (x1 := x1) ds ((y :: l).eraseIdx k) (fs ++ [(y :: l)[k]]) (some d) c1 ((t.set i (.lst (((y :: l).eraseIdx k).map g))).set j (.lst ((fs ++ [(y :: l)[k]]).map g))) (n + 1)
      (by rw [hle]; simpa using hl) (by rw [hle, List.length_append, List.length_cons, List.length_nil]; omega) hp1 (by rw [hle]; omega)
      (by rw [List.getElem?_set_ne (Ne.symm hij), List.getElem?_set_self it]) (by rw [List.getElem?_set_self (by rw [List.length_set]; exact jt)]) rfl
    refine ⟨(y :: l)[k] :: p, c', t', x4', perms_cons (List.getElem?_eq_getElem hk) (by rw [hle] at p1; exact p1), by rw [List.length_cons, p2, hle]; rfl, ?_, by rw [p4, List.append_assoc]; rfl, ?_⟩
    · rw [hle] at p3
      rw [show n + ((y :: l).length : Int) = n + 1 + (l.length : Int) by rw [hlen]; omega]
      exact p3
    · rw [← p5]
      refine forL_nx rfl ?_
      have el : bLen [.ref (i + 1)] (c :: t) = .ok (.int (y :: l).length) (c :: t) := by
        rw [len_lst (m := c :: t) (a := i + 1) (xs := (y :: l).map g) h1, List.length_map]
      have e3 : lstIs (c :: t) (.ref (j + 1)) = true := lst_at (m := c :: t) (a := j + 1) h2
      have e4 : lstIs (c :: t) (.ref (i + 1)) = true := lst_at (m := c :: t) (a := i + 1) h1
      unfold s__law_shuffled_b1
      simp only [sSeq, sAsg, sIf, sSet, sRet, sNil, sExpr, sPar, tOrF, tAndF, tNotF, tVal, tYesF, eBin, eUn, eBlt, eTup, eLstS, eIf, eAnd, eOr, eNot, eChain, eSl, oNo, oSome, aCons, aNil, fVar, Zn.rget0, Zn.rgetS, eCon, gNm, wipeR, Zn.bind_ok, Zn.bind_err, Zn.stm_ok, Zn.fin_rt, Zn.fin_nx, List.set_cons_zero, List.set_cons_succ, if_true, decide_true, decide_false, Bool.false_eq_true, if_false, Bool.not_true, Bool.not_false, List.replicate_succ, List.replicate_zero, Nat.reduceSub, Zn.le0, Zn.le1, Zn.le2, Zn.le3, Zn.le4, Zn.le5, Zn.le6, Zn.le7, Zn.le8, Zn.le9, Zn.le10, Zn.le11, eMethL, e3, e4, el, e1, ep]
      rw [ea]
      simp only [sSeq, sAsg, sIf, sSet, sRet, sNil, sExpr, sPar, tOrF, tAndF, tNotF, tVal, tYesF, eBin, eUn, eBlt, eTup, eLstS, eIf, eAnd, eOr, eNot, eChain, eSl, oNo, oSome, aCons, aNil, fVar, Zn.rget0, Zn.rgetS, eCon, gNm, wipeR, Zn.bind_ok, Zn.bind_err, Zn.stm_ok, Zn.fin_rt, Zn.fin_nx, List.set_cons_zero, List.set_cons_succ, if_true, decide_true, decide_false, Bool.false_eq_true, if_false, Bool.not_true, Bool.not_false, List.replicate_succ, List.replicate_zero, Nat.reduceSub, Zn.le0, Zn.le1, Zn.le2, Zn.le3, Zn.le4, Zn.le5, Zn.le6, Zn.le7, Zn.le8, Zn.le9, Zn.le10, Zn.le11, List.map_append]
      rfl
theorem shuffled_ok {α : Type} (g : α → D) {i : Nat} {l : List α} {c : Cell} {t : M} {n : Int} (hl : l.length ≤ 500) (hp : Pen n c) (hn : n + l.length ≤ 1000000) (h1 : t[i]? = some (.lst (l.map g))) :
    ∃ p c' t' j, p ∈ perms l.length l ∧ Pen (n + l.length) c' ∧ t'[j]? = some (.lst (p.map g)) ∧ s__law_shuffled [.ref 0, .ref (i + 1)] (c :: t) = .ok (.ref (j + 1)) (c' :: t') := by
  have it : i < t.length := (List.getElem?_eq_some_iff.mp h1).1
  have hr : (rangeD 0 l.length).length = l.length := rangeD_len _ _
  obtain ⟨p, c', t', x4', p1, p2, p3, p4, p5⟩ := shuffle_loop g (x0 := some (.ref 0)) (x1 := some (.ref (i + 1))) (i := t.length) (j := t.length + 1) (by omega) (rangeD 0 l.length) l [] none c (t ++ [.lst (l.map g), .lst []]) n hr (by rw [List.length_nil]; omega) hp hn
    (by rw [List.getElem?_append_right (by omega), Nat.sub_self]; rfl) (by rw [List.getElem?_append_right (by omega), Nat.add_sub_cancel_left]; rfl) rfl
  refine ⟨p, c', t', t.length + 1, p1, p3, p4, ?_⟩
  unfold s__law_shuffled
  rw [fn2]
  have e1 : bList [.ref (i + 1)] (c :: t) = .ok (.ref (t.length + 1)) (c :: (t ++ [.lst (l.map g)])) := by
    have q : seqD (c :: t) (.ref (i + 1)) = some (l.map g) := by
      have h : (c :: t)[i + 1]? = some (.lst (l.map g)) := h1
      simp only [seqD, h]
    show (match seqD (c :: t) (.ref (i + 1)) with | some xs => R.ok (D.ref (c :: t).length) ((c :: t) ++ [Cell.lst xs]) | none => .bad) = _
    rw [q]
    rfl
  have e2 : ∀ (ρ : Rho) (m : M), eLst aNil ρ m = .ok (.ref m.length) (m ++ [.lst []]) := fun _ _ => rfl
  have e3 : (c :: (t ++ [Cell.lst (l.map g)])).length = t.length + 1 + 1 := by rw [List.length_cons, List.length_append]; rfl
  have e4 : (c :: (t ++ [Cell.lst (l.map g)])) ++ [Cell.lst []] = c :: (t ++ [Cell.lst (l.map g), Cell.lst []]) := by
    rw [List.cons_append, List.append_assoc]
    rfl
  have e5 : bLen [.ref (i + 1)] (c :: (t ++ [Cell.lst (l.map g), Cell.lst []])) = .ok (.int (l.length : Nat)) (c :: (t ++ [Cell.lst (l.map g), Cell.lst []])) := by
    rw [len_lst (xs := l.map g) (by
      show (t ++ _)[i]? = _
      rw [List.getElem?_append_left it]
      exact h1), List.length_map]
  have e6 : ∀ (x2 x3 x4 : Option D), fFor (wRange (aCons (eBlt bLen (aCons (fVar 1) aNil)) aNil)) (gNm 4) s__law_shuffled_b1 [some (.ref 0), some (.ref (i + 1)), x2, x3, x4] (c :: (t ++ [Cell.lst (l.map g), Cell.lst []])) = forL (gNm 4) s__law_shuffled_b1 (rangeD 0 l.length) [some (.ref 0), some (.ref (i + 1)), x2, x3, x4] (c :: (t ++ [Cell.lst (l.map g), Cell.lst []])) := fun x2 x3 x4 => by
    unfold fFor
    rw [wrange_ok (n := l.length) (m1 := c :: (t ++ [Cell.lst (l.map g), Cell.lst []])) (by simp only [sSeq, sAsg, sIf, sSet, sRet, sNil, sExpr, sPar, tOrF, tAndF, tNotF, tVal, tYesF, eBin, eUn, eBlt, eTup, eLstS, eIf, eAnd, eOr, eNot, eChain, eSl, oNo, oSome, aCons, aNil, fVar, Zn.rget0, Zn.rgetS, eCon, gNm, wipeR, Zn.bind_ok, Zn.bind_err, Zn.stm_ok, Zn.fin_rt, Zn.fin_nx, List.set_cons_zero, List.set_cons_succ, if_true, decide_true, decide_false, Bool.false_eq_true, if_false, Bool.not_true, Bool.not_false, List.replicate_succ, List.replicate_zero, Nat.reduceSub, Zn.le0, Zn.le1, Zn.le2, Zn.le3, Zn.le4, Zn.le5, Zn.le6, Zn.le7, Zn.le8, Zn.le9, Zn.le10, Zn.le11, e5]) (by omega)]
    rfl
  simp only [sSeq, sAsg, sIf, sSet, sRet, sNil, sExpr, sPar, tOrF, tAndF, tNotF, tVal, tYesF, eBin, eUn, eBlt, eTup, eLstS, eIf, eAnd, eOr, eNot, eChain, eSl, oNo, oSome, aCons, aNil, fVar, Zn.rget0, Zn.rgetS, eCon, gNm, wipeR, Zn.bind_ok, Zn.bind_err, Zn.stm_ok, Zn.fin_rt, Zn.fin_nx, List.set_cons_zero, List.set_cons_succ, if_true, decide_true, decide_false, Bool.false_eq_true, if_false, Bool.not_true, Bool.not_false, List.replicate_succ, List.replicate_zero, Nat.reduceSub, Zn.le0, Zn.le1, Zn.le2, Zn.le3, Zn.le4, Zn.le5, Zn.le6, Zn.le7, Zn.le8, Zn.le9, Zn.le10, Zn.le11, e1, e2, e3, e4, e6, p5]
/-! ### kinds drawn -/
theorem kinds_loop {x0 : Option D} {i : Nat} (hx : x0 = some (.ref 0)) : ∀ (nms : List Str) (kf : List Kd) (x2 : Option D) (c : Cell) (t : M) (n : Int), kf.length + nms.length ≤ 100 → Pen n c → n + nms.length ≤ 1000000 → t[i]? = some (.lst (kf.map kdD)) →
    ∃ bs c' t' x2', bs.length = nms.length ∧ Pen (n + nms.length) c' ∧ t'[i]? = some (.lst ((kf ++ nms.zip bs).map kdD)) ∧ forL (gNm 2) s__law_kinds_b1 (nms.map .str) [x0, some (.ref (i + 1)), x2] (c :: t) = some (.nx [x0, some (.ref (i + 1)), x2'], c' :: t')
  | [], kf, x2, c, t, n, _, hp, _, h => ⟨[], c, t, x2, rfl, by simpa using hp, by simpa using h, rfl⟩
  | s :: nms, kf, x2, c, t, n, hl, hp, hn, h => by
    rw [List.length_cons] at hl hn
    subst hx
    obtain ⟨r, c1, r0, r1, hp1, e1⟩ := drawK n 2 c t hp (by omega) (by decide) (by decide)
    have it : i < t.length := (List.getElem?_eq_some_iff.mp h).1
    have ea := append_at (m := c1 :: t) (a := i + 1) h (show (kf.map kdD).length < line by rw [List.length_map, lineN]; omega) (kdD (s, decide (r = 0)))
    obtain ⟨bs, c', t', x2', b1, b2, b3, b4⟩ := kinds_loop (x0 := some (.ref 0)) (i := i) rfl nms (kf ++ [(s, decide (r = 0))]) (some (.str s)) c1 (t.set i (.lst ((kf ++ [(s, decide (r = 0))]).map kdD))) (n + 1) (by rw [List.length_append, List.length_cons, List.length_nil]; omega) hp1 (by omega) (by rw [List.getElem?_set_self it])
    refine ⟨decide (r = 0) :: bs, c', t', x2', by rw [List.length_cons, List.length_cons, b1], by rw [List.length_cons, show n + ((nms.length + 1 : Nat) : Int) = n + 1 + (nms.length : Int) by omega]; exact b2, by rw [b3, List.append_assoc]; rfl, ?_⟩
    rw [← b4]
    refine forL_nx rfl ?_
    have e3 : lstIs (c :: t) (.ref (i + 1)) = true := lst_at (m := c :: t) (a := i + 1) h
    unfold kdD at ea
    unfold s__law_kinds_b1
    simp only [sSeq, sAsg, sIf, sSet, sRet, sNil, sExpr, sPar, tOrF, tAndF, tNotF, tVal, tYesF, eBin, eUn, eBlt, eTup, eLstS, eIf, eAnd, eOr, eNot, eChain, eSl, oNo, oSome, aCons, aNil, fVar, Zn.rget0, Zn.rgetS, eCon, gNm, wipeR, Zn.bind_ok, Zn.bind_err, Zn.stm_ok, Zn.fin_rt, Zn.fin_nx, List.set_cons_zero, List.set_cons_succ, if_true, decide_true, decide_false, Bool.false_eq_true, if_false, Bool.not_true, Bool.not_false, List.replicate_succ, List.replicate_zero, Nat.reduceSub, Zn.le0, Zn.le1, Zn.le2, Zn.le3, Zn.le4, Zn.le5, Zn.le6, Zn.le7, Zn.le8, Zn.le9, Zn.le10, Zn.le11, eMethL, e3, e1, eq_int, ea]
    rw [List.map_append]
    rfl
/-- all kinds that may be drawn -/
def baseK : List (List Kd) := [[("a", true)], [("a", true), ("b", true)], [("a", true), ("b", false)], [("a", true), ("b", true), ("c", true)], [("a", true), ("b", true), ("c", false)], [("a", true), ("b", false), ("c", true)], [("a", true), ("b", false), ("c", false)]]
def allK : List (List Kd) := (baseK.flatMap fun l => perms l.length l) ++ [[(("b", false) : Kd)]]
theorem kinds_ok {c : Cell} {t : M} {n : Int} (hp : Pen n c) (hn : n + 100 ≤ 1000000) : ∃ ks c' t', ks ∈ allK ∧ Pen (n + 10) c' ∧ s__law_kinds [.ref 0] (c :: t) = .ok (kindsD ks) (c' :: t') := by
  obtain ⟨r, c1, r0, r1, hp1, e1⟩ := drawK n 3 c (t ++ [.lst [kdD ("a", true)]]) hp (by omega) (by decide) (by decide)
  obtain ⟨nms, hnl, hnd, hsl⟩ : ∃ nms : List Str, nms.length ≤ 2 ∧ (∀ bs : List Bool, bs.length = nms.length → [(("a", true) : Kd)] ++ nms.zip bs ∈ baseK) ∧ ∀ m : M, oSl (.sl [.str "b", .str "c", .str "d"]) none (some r) m = .ok (.sl (nms.map .str)) m := by
    have : r = 0 ∨ r = 1 ∨ r = 2 := by omega
    rcases this with rfl | rfl | rfl
    · refine ⟨[], by decide, fun bs h => ?_, fun _ => rfl⟩
      cases bs with
      | nil => exact List.mem_cons_self
      | cons _ _ => cases h
    · refine ⟨["b"], by decide, fun bs h => ?_, fun _ => rfl⟩
      match bs, h with
      | [true], _ => simp [baseK]
      | [false], _ => simp [baseK]
    · refine ⟨["b", "c"], by decide, fun bs h => ?_, fun _ => rfl⟩
      match bs, h with
      | [true, true], _ => simp [baseK]
      | [true, false], _ => simp [baseK]
      | [false, true], _ => simp [baseK]
      | [false, false], _ => simp [baseK]
  obtain ⟨bs, c2, t2, x2', b1, b2, b3, b4⟩ := kinds_loop (x0 := some (.ref 0)) (i := t.length) rfl nms [("a", true)] none c1 (t ++ [.lst [kdD ("a", true)]]) (n + 1) (by rw [List.length_cons, List.length_nil]; omega) hp1 (by omega) (by rw [List.getElem?_append_right (by omega), Nat.sub_self]; rfl)
  have hb := hnd bs b1
  obtain ⟨r8, c3, q0, q1, hp3, e8⟩ := drawK (n + 1 + nms.length) 8 c2 t2 b2 (by omega) (by decide) (by decide)
  have f1 : ∀ (ρ : Rho) (m : M), eLst (aCons (eTup (aCons (eCon (.str "a")) (aCons (eCon (.bl true)) aNil))) aNil) ρ m = .ok (.ref m.length) (m ++ [.lst [kdD ("a", true)]]) := fun ρ m => by
    unfold eLst kdD
    simp only [sSeq, sAsg, sIf, sSet, sRet, sNil, sExpr, sPar, tOrF, tAndF, tNotF, tVal, tYesF, eBin, eUn, eBlt, eTup, eLstS, eIf, eAnd, eOr, eNot, eChain, eSl, oNo, oSome, aCons, aNil, fVar, Zn.rget0, Zn.rgetS, eCon, gNm, wipeR, Zn.bind_ok, Zn.bind_err, Zn.stm_ok, Zn.fin_rt, Zn.fin_nx, List.set_cons_zero, List.set_cons_succ, if_true, decide_true, decide_false, Bool.false_eq_true, if_false, Bool.not_true, Bool.not_false, List.replicate_succ, List.replicate_zero, Nat.reduceSub, Zn.le0, Zn.le1, Zn.le2, Zn.le3, Zn.le4, Zn.le5, Zn.le6, Zn.le7, Zn.le8, Zn.le9, Zn.le10, Zn.le11]
  have f2 : ∀ (x2 : Option D), fFor (wAny (eSl (eLstS (aCons (eCon (.str "b")) (aCons (eCon (.str "c")) (aCons (eCon (.str "d")) aNil)))) oNo (oSome (eBlt s__law_draw (aCons (fVar 0) (aCons (eCon (.int 3)) aNil)))))) (gNm 2) s__law_kinds_b1 [some (.ref 0), some (.ref (t.length + 1)), x2] (c :: (t ++ [.lst [kdD ("a", true)]])) = forL (gNm 2) s__law_kinds_b1 (nms.map .str) [some (.ref 0), some (.ref (t.length + 1)), x2] (c1 :: (t ++ [.lst [kdD ("a", true)]])) := fun x2 => by
    unfold fFor wAny
    simp only [sSeq, sAsg, sIf, sSet, sRet, sNil, sExpr, sPar, tOrF, tAndF, tNotF, tVal, tYesF, eBin, eUn, eBlt, eTup, eLstS, eIf, eAnd, eOr, eNot, eChain, eSl, oNo, oSome, aCons, aNil, fVar, Zn.rget0, Zn.rgetS, eCon, gNm, wipeR, Zn.bind_ok, Zn.bind_err, Zn.stm_ok, Zn.fin_rt, Zn.fin_nx, List.set_cons_zero, List.set_cons_succ, if_true, decide_true, decide_false, Bool.false_eq_true, if_false, Bool.not_true, Bool.not_false, List.replicate_succ, List.replicate_zero, Nat.reduceSub, Zn.le0, Zn.le1, Zn.le2, Zn.le3, Zn.le4, Zn.le5, Zn.le6, Zn.le7, Zn.le8, Zn.le9, Zn.le10, Zn.le11, e1, hsl]
  have f3 : (c :: t).length = t.length + 1 := rfl
  have f4 : (c :: t) ++ [Cell.lst [kdD ("a", true)]] = c :: (t ++ [.lst [kdD ("a", true)]]) := rfl
  by_cases h8 : 0 < r8
  · have hl3 : ([(("a", true) : Kd)] ++ nms.zip bs).length ≤ 3 := by rw [List.length_append, List.length_zip, b1, Nat.min_self, List.length_cons, List.length_nil]; omega
    obtain ⟨p, c4, t4, j, p1, p2, p3, p4⟩ := shuffled_ok kdD (i := t.length) (by omega) hp3 (by omega) b3
    refine ⟨p, c4, t4, List.mem_append_left _ (List.mem_flatMap.mpr ⟨_, hb, p1⟩), p2.mono (by omega), ?_⟩
    unfold s__law_kinds
    rw [fn1]
    simp only [sSeq, sAsg, sIf, sSet, sRet, sNil, sExpr, sPar, tOrF, tAndF, tNotF, tVal, tYesF, eBin, eUn, eBlt, eTup, eLstS, eIf, eAnd, eOr, eNot, eChain, eSl, oNo, oSome, aCons, aNil, fVar, Zn.rget0, Zn.rgetS, eCon, gNm, wipeR, Zn.bind_ok, Zn.bind_err, Zn.stm_ok, Zn.fin_rt, Zn.fin_nx, List.set_cons_zero, List.set_cons_succ, if_true, decide_true, decide_false, Bool.false_eq_true, if_false, Bool.not_true, Bool.not_false, List.replicate_succ, List.replicate_zero, Nat.reduceSub, Zn.le0, Zn.le1, Zn.le2, Zn.le3, Zn.le4, Zn.le5, Zn.le6, Zn.le7, Zn.le8, Zn.le9, Zn.le10, Zn.le11, f1, f3, f4, f2, b4, e8, gt_int, h8, p4, tup_lst (m := c4 :: t4) (a := j + 1) p3]
  · refine ⟨[("b", false)], c3, t2, List.mem_append_right _ (List.mem_singleton.mpr rfl), hp3.mono (by omega), ?_⟩
    unfold s__law_kinds
    rw [fn1]
    simp only [sSeq, sAsg, sIf, sSet, sRet, sNil, sExpr, sPar, tOrF, tAndF, tNotF, tVal, tYesF, eBin, eUn, eBlt, eTup, eLstS, eIf, eAnd, eOr, eNot, eChain, eSl, oNo, oSome, aCons, aNil, fVar, Zn.rget0, Zn.rgetS, eCon, gNm, wipeR, Zn.bind_ok, Zn.bind_err, Zn.stm_ok, Zn.fin_rt, Zn.fin_nx, List.set_cons_zero, List.set_cons_succ, if_true, decide_true, decide_false, Bool.false_eq_true, if_false, Bool.not_true, Bool.not_false, List.replicate_succ, List.replicate_zero, Nat.reduceSub, Zn.le0, Zn.le1, Zn.le2, Zn.le3, Zn.le4, Zn.le5, Zn.le6, Zn.le7, Zn.le8, Zn.le9, Zn.le10, Zn.le11, f1, f3, f4, f2, b4, e8, gt_int, h8]
    rfl
end K01

namespace Zn
open PySem PySem.Spec L2 Z
/-! ### texts of values -/
structure Sn (N : Nat) (p : PyData) : Prop where
  sh : p.showable = true
  ln : p.shown.length ≤ N
  ok : PyData.strOk p.shown = true
inductive Sns (N : Nat) : List PyData → Prop
  | nil : Sns N []
  | cons {p ps} : Sn N p → Sns N ps → Sns N (p :: ps)
theorem Sn.up {N N' : Nat} {p : PyData} (h : Sn N p) (hn : N ≤ N') : Sn N' p := ⟨h.sh, Nat.le_trans h.ln hn, h.ok⟩
theorem strOk_app {a b : Str} (ha : PyData.strOk a = true) (hb : PyData.strOk b = true) : PyData.strOk (a ++ b) = true := by
  show (a.cps ++ b.cps).all _ = true
  rw [Array.all_append]
  exact Bool.and_eq_true_iff.mpr ⟨ha, hb⟩
theorem join_sns {N : Nat} : ∀ {ps : List PyData}, Sns N ps → PyData.strOk (Str.join ", " (PyData.shownAll ps)) = true ∧ (Str.join ", " (PyData.shownAll ps)).length ≤ (N + 2) * ps.length ∧ PyData.showableAll ps = true
  | [], .nil => ⟨by decide +kernel, Nat.zero_le _, rfl⟩
  | [p], .cons h .nil => by
    have e : Str.join ", " (PyData.shownAll [p]) = p.shown := rfl
    rw [e, PyData.showableAll, h.sh]
    exact ⟨h.ok, by have := h.ln; simp only [List.length_cons, List.length_nil]; omega, rfl⟩
  | p :: q :: ps, .cons h (.cons h2 r) => by
    obtain ⟨a, b, c⟩ := join_sns (.cons h2 r)
    have e : Str.join ", " (PyData.shownAll (p :: q :: ps)) = p.shown ++ ", " ++ Str.join ", " (PyData.shownAll (q :: ps)) := rfl
    rw [e, PyData.showableAll, h.sh, c]
    refine ⟨strOk_app (strOk_app h.ok (by decide +kernel)) a, ?_, rfl⟩
    rw [Str.length_append, Str.length_append]
    have := h.ln
    have e2 : ((", " : String) : Str).length = 2 := rfl
    rw [e2]
    rw [List.length_cons, Nat.mul_succ]
    omega
theorem sn_tup {N M' : Nat} {ps : List PyData} (h : Sns N ps) (hM : (N + 2) * ps.length + 3 ≤ M') : Sn M' (.tuple ps) := by
  obtain ⟨a, b, c⟩ := join_sns h
  have e : (PyData.tuple ps).shown = ("(" : Str) ++ Str.join ", " (PyData.shownAll ps) ++ (if (PyData.shownAll ps).length == 1 then ",)" else ")" : String) := rfl
  refine ⟨by rw [PyData.showable]; exact c, ?_, ?_⟩
  · rw [e, Str.length_append, Str.length_append]
    have e2 : (("(" : String) : Str).length = 1 := rfl
    have e3 : (((if (PyData.shownAll ps).length == 1 then ",)" else ")" : String)) : Str).length ≤ 2 := by
      split
      · exact Nat.le_refl 2
      · exact Nat.le_succ 1
    rw [e2]
    omega
  · rw [e]
    refine strOk_app (strOk_app (by decide +kernel) a) ?_
    split <;> decide +kernel
theorem sn_list {N M' : Nat} {ps : List PyData} (h : Sns N ps) (hM : (N + 2) * ps.length + 3 ≤ M') : Sn M' (.list ps) := by
  obtain ⟨a, b, c⟩ := join_sns h
  have e : (PyData.list ps).shown = ("[" : Str) ++ Str.join ", " (PyData.shownAll ps) ++ "]" := by rw [PyData.shown]; exact listText_eq_join _
  refine ⟨by rw [PyData.showable]; exact c, ?_, ?_⟩
  · rw [e, Str.length_append, Str.length_append]
    have e2 : (("[" : String) : Str).length = 1 := rfl
    have e3 : (("]" : String) : Str).length = 1 := rfl
    rw [e2, e3]
    omega
  · rw [e]
    exact strOk_app (strOk_app (by decide +kernel) a) (by decide +kernel)
/-- a value with its text -/
structure Tx (d : D) (s : Str) : Prop where
  nr : noRef d = true
  re : ∀ m, bRepr [d] m = .ok (.str s) m
  ok : PyData.strOk s = true
theorem tx_of {n : Nat} {d : D} {p : PyData} (h : Pl n d p) (hn : n ≤ 23) (hr : noRef d = true) (hs : Sn 100000 p) : Tx d p.shown := by
  refine ⟨hr, fun m => ?_, hs.ok⟩
  have e : noLong p = true := by
    unfold noLong
    rw [hs.sh, PyData.hasDict_of_canLay p h.lay, decide_eq_true (by have := h.dep; omega), decide_eq_true (by have := hs.ln; rw [lineN]; omega)]
    rfl
  show (match toP deepest m d with
    | some p => if noLong p = true then R.ok (D.str p.shown) m else .bad
    | none => .bad) = _
  rw [h.to24 hn]
  dsimp only
  rw [if_pos e]
/-- a closed value with its text, by reckoning -/
def txB (d : D) : Bool := match noRef d with
  | true => match toP 8 [] d with
    | some p => p.showable && p.canLay0 && Nat.ble p.depth 8 && Nat.ble p.shown.length 100000 && PyData.strOk p.shown
    | none => false
  | false => false
theorem toP_nr : ∀ (n : Nat) (d : D), noRef d = true → ∀ m m' : M, toP n m d = toP n m' d
  | 0, _, _, _, _ => rfl
  | n + 1, d, h, m, m' => by
    have hs : ∀ xs : List D, noRefs xs = true → toPs (toP n m) xs = toPs (toP n m') xs := by
      intro xs
      induction xs with
      | nil => intro _; rfl
      | cons x xs ih =>
        intro hx
        unfold toPs
        rw [toP_nr n x (noRefs_cons hx).1 m m', ih (noRefs_cons hx).2]
    have hm : ∀ (xs : List D) (c : List PyData → PyData), noRefs xs = true → (toPs (toP n m) xs).map c = (toPs (toP n m') xs).map c := fun xs c hx => by rw [hs xs hx]
    cases d with
    | tup xs => exact hm xs _ (by unfold noRef at h; exact h)
    | fl xs => exact hm xs _ (by unfold noRef at h; exact h)
    | sl xs => exact hm xs _ (by unfold noRef at h; exact h)
    | kt xs => exact hm xs _ (by unfold noRef at h; exact h)
    | ref a => unfold noRef at h; cases h
    | _ => rfl
theorem txB_ok {d : D} (h : txB d = true) : ∃ s, Tx d s := by
  unfold txB at h
  split at h
  · rename_i hn
    split at h
    · rename_i p hp
      simp only [Bool.and_eq_true] at h
      obtain ⟨⟨⟨⟨a, b⟩, c⟩, e⟩, f⟩ := h
      exact ⟨_, tx_of (n := 8) ⟨fun m => by
        have := toP_up 8 1 m d p (by rw [toP_nr 8 d hn m []]; exact hp)
        exact this, b, Nat.le_of_ble_eq_true c⟩ (by decide) hn ⟨a, Nat.le_of_ble_eq_true e, f⟩⟩
    · cases h
  · cases h
/-- what a def run apart answers, it answers in every store -/
theorem iso_any {g : FF} {ds : List D} {d : D} {m0 : M} (h : fIso g ds [] = .ok d m0) (m : M) : fIso g ds m = .ok d m := by
  unfold fIso at h ⊢
  cases q : noRefs ds with
  | false => rw [q] at h; cases h
  | true =>
    rw [q] at h
    dsimp only at h ⊢
    cases q2 : g ds [] with
    | bad => rw [q2] at h; cases h
    | err x m1 =>
      rw [q2] at h
      dsimp only at h
      split at h <;> cases h
    | ok y m1 =>
      rw [q2] at h
      dsimp only at h ⊢
      cases q3 : noRef y with
      | false => rw [q3] at h; cases h
      | true => rw [q3] at h; cases h; rfl
theorem sn_ev {k : Nat} (hk : k < 100) : ∀ {o : Option Nat}, (∀ n, o = some n → n < 100) → Sn 40 (evP (k, o)) := by
  have e1 : ∀ k : Fin 100, (PyData.int (k.val : Int)).showable = true ∧ (PyData.int (k.val : Int)).shown.length ≤ 10 ∧ PyData.strOk (PyData.int (k.val : Int)).shown = true := by decide +kernel
  have e2 : ∀ k, k < 100 → Sn 10 (PyData.int (k : Nat)) := fun k hk => ⟨(e1 ⟨k, hk⟩).1, (e1 ⟨k, hk⟩).2.1, (e1 ⟨k, hk⟩).2.2⟩
  intro o ho
  cases o with
  | none => exact sn_tup (.cons (e2 k hk) .nil) (by show (10 + 2) * 1 + 3 ≤ 40; decide)
  | some n => exact sn_tup (.cons (e2 k hk) (.cons (e2 n (ho n rfl)) .nil)) (by show (10 + 2) * 2 + 3 ≤ 40; decide)
theorem Sns.app {N : Nat} : ∀ {ps qs : List PyData}, Sns N ps → Sns N qs → Sns N (ps ++ qs)
  | _, _, .nil, h => h
  | _, _, .cons h r, h2 => .cons h (r.app h2)
theorem Sns.evs {l : List Ev} (h : ∀ e ∈ l, e.1 < 100 ∧ ∀ n, e.2 = some n → n < 100) : Sns 40 (l.map evP) := by
  induction l with
  | nil => exact .nil
  | cons e l ih =>
    obtain ⟨k, o⟩ := e
    exact .cons (sn_ev (h _ List.mem_cons_self).1 (h _ List.mem_cons_self).2) (ih fun e he => h e (List.mem_cons_of_mem _ he))
end Zn

namespace Zn
open PySem PySem.Spec L2 Z
theorem addU_sl {a b : List D} (h : a.length + b.length ≤ 100000) (m : M) : oAddU (.sl a) (.sl b) m = .ok (.sl (a ++ b)) m := by
  show (if a.length + b.length ≤ line then R.ok (D.sl (a ++ b)) m else .bad) = _
  rw [if_pos (by rw [lineN]; omega)]
theorem addU_tup {a b : List D} (h : a.length + b.length ≤ 100000) (m : M) : oAddU (.tup a) (.tup b) m = .ok (.tup (a ++ b)) m := by
  show (if a.length + b.length ≤ line then R.ok (D.tup (a ++ b)) m else .bad) = _
  rw [if_pos (by rw [lineN]; omega)]
theorem mul_tup {a : List D} {k : Int} (h0 : a ≠ []) (h : a.length ≤ 1000) (h1 : 2 ≤ k) (h2 : k ≤ 1000) (m : M) : oMul (.tup a) (.int k) m = .ok (.tup (List.replicate k.toNat a).flatten) m := by
  show (if a ≠ [] ∧ 2 ≤ k ∧ k ≤ 1000 ∧ a.length ≤ 1000 then R.ok (D.tup (List.replicate k.toNat a).flatten) m else .bad) = _
  rw [if_pos ⟨h0, h1, h2, h⟩]
theorem mul_sl {a : List D} {k : Int} (h : a.length ≤ 1000) (h1 : 0 ≤ k) (h2 : k ≤ 1000) (m : M) : oMul (.sl a) (.int k) m = .ok (.sl (List.replicate k.toNat a).flatten) m := by
  show (if -(2 ^ 63) ≤ k ∧ k < 2 ^ 63 ∧ a.length * k.toNat ≤ line then R.ok (D.sl (List.replicate k.toNat a).flatten) m else .bad) = _
  rw [if_pos ⟨by omega, by omega, by
    have : a.length * k.toNat ≤ 1000 * 1000 := Nat.mul_le_mul h (by omega)
    rw [lineN]; omega⟩]
theorem cut_len (xs : List D) (lo hi : Option Int) : (cutD xs lo hi).length ≤ xs.length := by
  unfold cutD
  rw [List.length_take, List.length_drop]
  omega
theorem slz_tup (xs : List D) (lo hi : Option Int) (m : M) : oSl (.tup xs) lo hi m = .ok (.tup (cutD xs lo hi)) m := rfl
theorem lists_tup (xs : List D) (m : M) : bListS [.tup xs] m = .ok (.sl xs) m := rfl
theorem neg_int (i : Int) (m : M) : oNeg (.int i) m = .ok (.int (-i)) m := rfl
def isBl (b : Bool) (r : R D) : Bool := match r with
  | .ok (.bl c) _ => c == b
  | _ => false
theorem isBl_ok {g : FF} {ds : List D} {b : Bool} (h : isBl b (fIso g ds []) = true) (m : M) : fIso g ds m = .ok (.bl b) m := by
  unfold isBl at h
  split at h
  · rename_i c m0 q
    rw [iso_any q m, eq_of_beq h]
  · cases h
end Zn
namespace K01
open PySem PySem.Spec L2 Z Zn
/-! ### logs drawn -/
theorem event_draw {ks : List Kd} (hk : 0 < ks.length) (hk2 : ks.length ≤ 10) {c : Cell} {t : M} {n : Int} (hp : Pen n c) (hn : n + 2 ≤ 1000000) :
    ∃ (e : Ev) (c' : Cell), okE ks e ∧ (∀ k, e.2 = some k → k < 5) ∧ Pen (n + 2) c' ∧ s__law_event [.ref 0, kindsD ks, .int 5] (c :: t) = .ok (evD e) (c' :: t) := by
  obtain ⟨r, c1, r0, r1, hp1, e1⟩ := drawK n ks.length c t hp (by omega) (by omega) (by omega)
  obtain ⟨k, rfl⟩ := Int.eq_ofNat_of_zero_le r0
  have hkl : k < ks.length := by omega
  have hx : ks[k]? = some ks[k] := List.getElem?_eq_getElem hkl
  have ik : ∀ (m : M), oIx (.tup (ks.map kdD)) (.int (k : Int)) m = .ok (kdD ks[k]) m := fun m => ix_tup (at_kd hx)
  have ikd : ∀ (m : M), oIx (kdD ks[k]) (.int 1) m = .ok (.bl ks[k].2) m := fun m => ix_tup (atD1 _ _ [])
  have hl : ∀ m : M, bLen [.tup (ks.map kdD)] m = .ok (.int (ks.length : Nat)) m := fun m => by rw [len_tup, List.length_map]
  cases hb : ks[k].2 with
  | true =>
    obtain ⟨s, c2, s0, s1, hp2, e2⟩ := drawK (n + 1) 5 c1 t hp1 (by omega) (by decide) (by decide)
    obtain ⟨j, rfl⟩ := Int.eq_ofNat_of_zero_le s0
    refine ⟨(k, some j), c2, ?_, fun x hx => (by cases hx; omega), by rw [show n + 2 = n + 1 + 1 by omega]; exact hp2, ?_⟩
    · unfold okE
      rw [hx]
      show some ks[k].2 = _
      rw [hb]
      rfl
    · unfold s__law_event
      rw [fn3]
      simp only [sSeq, sAsg, sIf, sSet, sRet, sNil, sExpr, sPar, tOrF, tAndF, tNotF, tVal, tYesF, eBin, eUn, eBlt, eTup, eLstS, eIf, eAnd, eOr, eNot, eChain, eSl, oNo, oSome, aCons, aNil, fVar, Zn.rget0, Zn.rgetS, eCon, gNm, wipeR, Zn.bind_ok, Zn.bind_err, Zn.stm_ok, Zn.fin_rt, Zn.fin_nx, List.set_cons_zero, List.set_cons_succ, if_true, decide_true, decide_false, Bool.false_eq_true, if_false, Bool.not_true, Bool.not_false, List.replicate_succ, List.replicate_zero, Nat.reduceSub, Zn.le0, Zn.le1, Zn.le2, Zn.le3, Zn.le4, Zn.le5, Zn.le6, Zn.le7, Zn.le8, Zn.le9, Zn.le10, Zn.le11, hl, e1, ik, ikd, hb, e2]
      rfl
  | false =>
    refine ⟨(k, none), c1, ?_, fun x hx => (by cases hx), hp1.mono (by omega), ?_⟩
    · unfold okE
      rw [hx]
      show some ks[k].2 = _
      rw [hb]
      rfl
    · unfold s__law_event
      rw [fn3]
      simp only [sSeq, sAsg, sIf, sSet, sRet, sNil, sExpr, sPar, tOrF, tAndF, tNotF, tVal, tYesF, eBin, eUn, eBlt, eTup, eLstS, eIf, eAnd, eOr, eNot, eChain, eSl, oNo, oSome, aCons, aNil, fVar, Zn.rget0, Zn.rgetS, eCon, gNm, wipeR, Zn.bind_ok, Zn.bind_err, Zn.stm_ok, Zn.fin_rt, Zn.fin_nx, List.set_cons_zero, List.set_cons_succ, if_true, decide_true, decide_false, Bool.false_eq_true, if_false, Bool.not_true, Bool.not_false, List.replicate_succ, List.replicate_zero, Nat.reduceSub, Zn.le0, Zn.le1, Zn.le2, Zn.le3, Zn.le4, Zn.le5, Zn.le6, Zn.le7, Zn.le8, Zn.le9, Zn.le10, Zn.le11, hl, e1, ik, ikd, hb]
      rfl
theorem log_loop {ks : List Kd} (hk : 0 < ks.length) (hk2 : ks.length ≤ 10) {x2 : Option D} {t : M} : ∀ (ds : List D) (c : Cell) (n : Int), Pen n c → n + 2 * ds.length ≤ 1000000 →
    ∃ (l : List Ev) (c' : Cell), l.length = ds.length ∧ (∀ e ∈ l, okE ks e) ∧ (∀ e ∈ l, ∀ k, e.2 = some k → k < 5) ∧ Pen (n + 2 * ds.length) c' ∧ lcL (gNm 4) tYesF s__law_log_e1 [some (.ref 0), some (kindsD ks), x2, some (.int 5), none] ds (c :: t) = .ok (l.map evD) (c' :: t)
  | [], c, n, hp, _ => ⟨[], c, rfl, fun e h => (by cases h), fun e h => (by cases h), by simpa using hp, rfl⟩
  | d :: ds, c, n, hp, hn => by
    rw [List.length_cons] at hn
    obtain ⟨e, c1, h1, h2, hp1, e1⟩ := event_draw hk hk2 (t := t) hp (by omega)
    obtain ⟨l, c2, l1, l2, l3, l4, l5⟩ := log_loop hk hk2 (x2 := x2) (t := t) ds c1 (n + 2) hp1 (by omega)
    refine ⟨e :: l, c2, by rw [List.length_cons, List.length_cons, l1], fun x hx => ?_, fun x hx => ?_, by rw [List.length_cons, show n + 2 * ((ds.length + 1 : Nat) : Int) = n + 2 + 2 * (ds.length : Int) by omega]; exact l4, ?_⟩
    · rcases List.mem_cons.mp hx with q | q
      · rw [q]; exact h1
      · exact l2 x q
    · rcases List.mem_cons.mp hx with q | q
      · rw [q]; exact h2
      · exact l3 x q
    · rw [lcL]
      have e2 : s__law_log_e1 [some (.ref 0), some (kindsD ks), x2, some (.int 5), some d] (c :: t) = .ok (evD e) (c1 :: t) := by
        unfold s__law_log_e1
        simp only [sSeq, sAsg, sIf, sSet, sRet, sNil, sExpr, sPar, tOrF, tAndF, tNotF, tVal, tYesF, eBin, eUn, eBlt, eTup, eLstS, eIf, eAnd, eOr, eNot, eChain, eSl, oNo, oSome, aCons, aNil, fVar, Zn.rget0, Zn.rgetS, eCon, gNm, wipeR, Zn.bind_ok, Zn.bind_err, Zn.stm_ok, Zn.fin_rt, Zn.fin_nx, List.set_cons_zero, List.set_cons_succ, if_true, decide_true, decide_false, Bool.false_eq_true, if_false, Bool.not_true, Bool.not_false, List.replicate_succ, List.replicate_zero, Nat.reduceSub, Zn.le0, Zn.le1, Zn.le2, Zn.le3, Zn.le4, Zn.le5, Zn.le6, Zn.le7, Zn.le8, Zn.le9, Zn.le10, Zn.le11, e1]
      simp only [gNm, List.set_cons_succ, List.set_cons_zero, tYesF, e2, l5]
      rfl
/-- a log as the law draws it -/
structure LogOk (ks : List Kd) (l : List Ev) : Prop where
  ok : ∀ e ∈ l, okE ks e
  nm : ∀ e ∈ l, ∀ k, e.2 = some k → k < 5
  ln : l.length ≤ 8
theorem log_draw {ks : List Kd} (hk : 0 < ks.length) (hk2 : ks.length ≤ 10) {c : Cell} {t : M} {n : Int} (hp : Pen n c) (hn : n + 20 ≤ 1000000) :
    ∃ (l : List Ev) (c' : Cell), LogOk ks l ∧ Pen (n + 20) c' ∧ s__law_log [.ref 0, kindsD ks, .int 8, .int 5] (c :: t) = .ok (logD l) (c' :: t) := by
  obtain ⟨r, c1, r0, r1, hp1, e1⟩ := drawK n 9 c t hp (by omega) (by decide) (by decide)
  obtain ⟨k, rfl⟩ := Int.eq_ofNat_of_zero_le r0
  have hr : (rangeD 0 k).length = k := rangeD_len _ _
  obtain ⟨l, c2, l1, l2, l3, l4, l5⟩ := log_loop hk hk2 (x2 := some (.int 8)) (t := t) (rangeD 0 k) c1 (n + 1) hp1 (by rw [hr]; omega)
  rw [hr] at l1 l4
  refine ⟨l, c2, ⟨l2, l3, by omega⟩, l4.mono (by omega), ?_⟩
  have ad : ∀ m : M, oAddU (.int 8) (.int 1) m = .ok (.int 9) m := fun _ => rfl
  have hc : ∀ x4 : Option D, fLc (wRange (aCons (eBlt s__law_draw (aCons (fVar 0) (aCons (eBin oAddU (fVar 2) (eCon (.int 1))) aNil))) aNil)) [4] (gNm 4) tYesF s__law_log_e1 [some (.ref 0), some (kindsD ks), some (.int 8), some (.int 5), x4] (c :: t) = .ok (.sl (l.map evD)) (c2 :: t) := fun x4 => by
    unfold fLc
    rw [wrange_ok (n := k) (m1 := c1 :: t) (by simp only [sSeq, sAsg, sIf, sSet, sRet, sNil, sExpr, sPar, tOrF, tAndF, tNotF, tVal, tYesF, eBin, eUn, eBlt, eTup, eLstS, eIf, eAnd, eOr, eNot, eChain, eSl, oNo, oSome, aCons, aNil, fVar, Zn.rget0, Zn.rgetS, eCon, gNm, wipeR, Zn.bind_ok, Zn.bind_err, Zn.stm_ok, Zn.fin_rt, Zn.fin_nx, List.set_cons_zero, List.set_cons_succ, if_true, decide_true, decide_false, Bool.false_eq_true, if_false, Bool.not_true, Bool.not_false, List.replicate_succ, List.replicate_zero, Nat.reduceSub, Zn.le0, Zn.le1, Zn.le2, Zn.le3, Zn.le4, Zn.le5, Zn.le6, Zn.le7, Zn.le8, Zn.le9, Zn.le10, Zn.le11, ad, e1]) (by omega), bind_ok]
    show (match lcL (gNm 4) tYesF s__law_log_e1 [some (.ref 0), some (kindsD ks), some (.int 8), some (.int 5), none] (rangeD 0 k) (c1 :: t) with
      | .ok xs m2 => match Nat.ble xs.length 16777216 with
        | true => (R.ok xs m2 : R (List D))
        | false => .bad
      | _ => .bad).bind _ = _
    rw [l5]
    dsimp only
    rw [show Nat.ble (l.map evD).length 16777216 = true from Nat.ble_eq_true_of_le (by rw [List.length_map]; omega)]
    rfl
  have hb : ∀ m : M, bTupleA [.sl (l.map evD)] m = .ok (.tup (l.map evD)) m := fun _ => rfl
  unfold s__law_log
  rw [fn4]
  simp only [sSeq, sAsg, sIf, sSet, sRet, sNil, sExpr, sPar, tOrF, tAndF, tNotF, tVal, tYesF, eBin, eUn, eBlt, eTup, eLstS, eIf, eAnd, eOr, eNot, eChain, eSl, oNo, oSome, aCons, aNil, fVar, Zn.rget0, Zn.rgetS, eCon, gNm, wipeR, Zn.bind_ok, Zn.bind_err, Zn.stm_ok, Zn.fin_rt, Zn.fin_nx, List.set_cons_zero, List.set_cons_succ, if_true, decide_true, decide_false, Bool.false_eq_true, if_false, Bool.not_true, Bool.not_false, List.replicate_succ, List.replicate_zero, Nat.reduceSub, Zn.le0, Zn.le1, Zn.le2, Zn.le3, Zn.le4, Zn.le5, Zn.le6, Zn.le7, Zn.le8, Zn.le9, Zn.le10, Zn.le11, hc, hb]
/-! ### wrong kinds -/
def wk (ks : List Kd) : List D := [.non, .tup [], .sl (ks.map kdD), .tup [ks.map kdD, ks.map kdD, ks.map kdD, ks.map kdD, ks.map kdD].flatten, .tup (ks.map kdD ++ cutD (ks.map kdD) none (some 1)), .tup (cutD (ks.map kdD) (some 1) none ++ [.tup [.str "A", .bl true]])] ++ [.tup (cutD (ks.map kdD) (some 1) none ++ [.tup [.str "new", .bl true]])] ++
  [.tup (cutD (ks.map kdD) (some 1) none ++ [.tup [.str "z", .int 1]]), .tup (cutD (ks.map kdD) (some 1) none ++ [.tup [.str "z"]]), .tup (cutD (ks.map kdD) (some 1) none ++ [.sl [.str "z", .bl true]]), .int 3]
theorem wrong_kinds_ok {ks : List Kd} (hk : 0 < ks.length) (hk2 : ks.length ≤ 10) {c : Cell} {t : M} {n : Int} (hp : Pen n c) (hn : n + 1 ≤ 1000000) :
    ∃ d c', d ∈ wk ks ∧ Pen (n + 1) c' ∧ s__law_wrong_kinds [.ref 0, kindsD ks] (c :: t) = .ok d (c' :: t) := by
  obtain ⟨d, c1, hd, hp1, e1⟩ := pickK (xs := wk ks) (rest := t) hp (by omega) (by show 0 < 11; decide) (by show 11 < 1000000; decide)
  refine ⟨d, c1, hd, hp1, ?_⟩
  have hl : (ks.map kdD).length = ks.length := List.length_map _
  have c1' := cut_len (ks.map kdD) none (some 1)
  have c2' := cut_len (ks.map kdD) (some 1) none
  have a1 : ∀ m : M, oAddU (.tup (ks.map kdD)) (.tup (cutD (ks.map kdD) none (some 1))) m = .ok (.tup (ks.map kdD ++ cutD (ks.map kdD) none (some 1))) m := addU_tup (by omega)
  have a2 : ∀ (x : D) (m : M), oAddU (.tup (cutD (ks.map kdD) (some 1) none)) (.tup [x]) m = .ok (.tup (cutD (ks.map kdD) (some 1) none ++ [x])) m := fun x => addU_tup (by rw [List.length_cons, List.length_nil]; omega)
  have a3 : ∀ m : M, oMul (.tup (ks.map kdD)) (.int 5) m = .ok (.tup [ks.map kdD, ks.map kdD, ks.map kdD, ks.map kdD, ks.map kdD].flatten) m := fun m => mul_tup (k := 5) (fun e => by rw [e] at hl; simp at hl; omega) (by omega) (by decide) (by decide) m
  have a4 : ∀ (x1 x2 x3 x4 x5 x6 x7 : D) (m : M), oAddU (.sl [x1, x2, x3, x4, x5, x6]) (.sl [x7]) m = .ok (.sl ([x1, x2, x3, x4, x5, x6] ++ [x7])) m := fun _ _ _ _ _ _ _ => addU_sl (by show 6 + 1 ≤ 100000; decide)
  have a5 : ∀ (x1 x2 x3 x4 x5 x6 x7 y1 y2 y3 y4 : D) (m : M), oAddU (.sl ([x1, x2, x3, x4, x5, x6] ++ [x7])) (.sl [y1, y2, y3, y4]) m = .ok (.sl ([x1, x2, x3, x4, x5, x6] ++ [x7] ++ [y1, y2, y3, y4])) m := fun _ _ _ _ _ _ _ _ _ _ _ => addU_sl (by show 7 + 4 ≤ 100000; decide)
  unfold wk at e1
  unfold s__law_wrong_kinds
  rw [fn2]
  simp only [sSeq, sAsg, sIf, sSet, sRet, sNil, sExpr, sPar, tOrF, tAndF, tNotF, tVal, tYesF, eBin, eUn, eBlt, eTup, eLstS, eIf, eAnd, eOr, eNot, eChain, eSl, oNo, oSome, aCons, aNil, fVar, Zn.rget0, Zn.rgetS, eCon, gNm, wipeR, Zn.bind_ok, Zn.bind_err, Zn.stm_ok, Zn.fin_rt, Zn.fin_nx, List.set_cons_zero, List.set_cons_succ, if_true, decide_true, decide_false, Bool.false_eq_true, if_false, Bool.not_true, Bool.not_false, List.replicate_succ, List.replicate_zero, Nat.reduceSub, Zn.le0, Zn.le1, Zn.le2, Zn.le3, Zn.le4, Zn.le5, Zn.le6, Zn.le7, Zn.le8, Zn.le9, Zn.le10, Zn.le11, lists_tup, a3, slz_tup, a1, a2, a4, a5, e1]
/-! ### wrong logs -/
def ws (ks : List Kd) : List D := [.non, .tup [], .tup [.int (ks.length : Nat)], .tup [.int (ks.length : Nat), .int 0], .tup [.int 0, .int 0, .int 0], .sl [.int 0], .tup [.int (-1)], .tup [.bl true], .tup [.int 0, .bl true], .tup [.int 0, .int (-1)], .int 0]
def finD (ks : List Kd) : D := match ks[0]? with
  | some p => (match p.2 with
    | true => .tup [.int 0]
    | false => match ks[ks.length - 1]? with
      | some q => (match q.2 with
        | true => .tup [.int ((ks.length - 1 : Nat) : Int)]
        | false => .tup [.int ((ks.length - 1 : Nat) : Int), .int 0])
      | none => .non)
  | none => .non
def wl (ks : List Kd) (l : List Ev) (w : D) : List D := [.tup (l.map evD ++ [w]), .sl (l.map evD), .non, .tup ([w] ++ l.map evD)] ++ [.tup (l.map evD ++ [finD ks])]
theorem wrong_log_ok {ks : List Kd} (hk : 0 < ks.length) (hk2 : ks.length ≤ 10) {l : List Ev} (hl : l.length ≤ 100) {c : Cell} {t : M} {n : Int} (hp : Pen n c) (hn : n + 2 ≤ 1000000) :
    ∃ d w c', w ∈ ws ks ∧ d ∈ wl ks l w ∧ Pen (n + 2) c' ∧ s__law_wrong_log [.ref 0, kindsD ks, logD l] (c :: t) = .ok d (c' :: t) := by
  obtain ⟨w, c1, hw, hp1, e1⟩ := pickK (xs := ws ks) (rest := t) hp (by omega) (by show 0 < 11; decide) (by show 11 < 1000000; decide)
  obtain ⟨d, c2, hd, hp2, e2⟩ := pickK (xs := wl ks l w) (rest := t) hp1 (by omega) (by show 0 < 5; decide) (by show 5 < 1000000; decide)
  refine ⟨d, w, c2, hw, hd, by rw [show n + 2 = n + 1 + 1 by omega]; exact hp2, ?_⟩
  have h0 : ks[0]? = some ks[0] := List.getElem?_eq_getElem hk
  have hlast : ks[ks.length - 1]? = some (ks[ks.length - 1]'(by omega)) := List.getElem?_eq_getElem (by omega)
  have i0 : ∀ (m : M), oIx (.tup (ks.map kdD)) (.int 0) m = .ok (kdD ks[0]) m := fun m => ix_tup (at_kd (k := 0) h0)
  have ikd : ∀ (p : Kd) (m : M), oIx (kdD p) (.int 1) m = .ok (.bl p.2) m := fun p m => ix_tup (atD1 _ _ [])
  have il : ∀ (m : M), oIx (.tup (ks.map kdD)) (.int ((ks.length - 1 : Nat) : Int)) m = .ok (kdD (ks[ks.length - 1]'(by omega))) m := fun m => ix_tup (at_kd hlast)
  have hln : ∀ m : M, bLen [.tup (ks.map kdD)] m = .ok (.int (ks.length : Nat)) m := fun m => by rw [len_tup, List.length_map]
  have sb : ∀ m : M, oSub (.int (ks.length : Nat)) (.int 1) m = .ok (.int ((ks.length - 1 : Nat) : Int)) m := fun m => by
    rw [sub_int, show ((ks.length : Nat) : Int) - 1 = ((ks.length - 1 : Nat) : Int) by omega]
  have a1 : ∀ (x : D) (m : M), oAddU (.tup (l.map evD)) (.tup [x]) m = .ok (.tup (l.map evD ++ [x])) m := fun x => addU_tup (by rw [List.length_map, List.length_cons, List.length_nil]; omega)
  have a2 : ∀ (x : D) (m : M), oAddU (.tup [x]) (.tup (l.map evD)) m = .ok (.tup ([x] ++ l.map evD)) m := fun x => addU_tup (by rw [List.length_map, List.length_cons, List.length_nil]; omega)
  have a3 : ∀ (x1 x2 x3 x4 x5 : D) (m : M), oAddU (.sl [x1, x2, x3, x4]) (.sl [x5]) m = .ok (.sl ([x1, x2, x3, x4] ++ [x5])) m := fun _ _ _ _ _ => addU_sl (by show 4 + 1 ≤ 100000; decide)
  unfold ws at e1
  unfold wl finD at e2
  rw [h0] at e2
  dsimp only at e2
  unfold s__law_wrong_log
  rw [fn3]
  cases hb : ks[0].2 with
  | true =>
    rw [hb] at e2
    dsimp only at e2
    simp only [sSeq, sAsg, sIf, sSet, sRet, sNil, sExpr, sPar, tOrF, tAndF, tNotF, tVal, tYesF, eBin, eUn, eBlt, eTup, eLstS, eIf, eAnd, eOr, eNot, eChain, eSl, oNo, oSome, aCons, aNil, fVar, Zn.rget0, Zn.rgetS, eCon, gNm, wipeR, Zn.bind_ok, Zn.bind_err, Zn.stm_ok, Zn.fin_rt, Zn.fin_nx, List.set_cons_zero, List.set_cons_succ, if_true, decide_true, decide_false, Bool.false_eq_true, if_false, Bool.not_true, Bool.not_false, List.replicate_succ, List.replicate_zero, Nat.reduceSub, Zn.le0, Zn.le1, Zn.le2, Zn.le3, Zn.le4, Zn.le5, Zn.le6, Zn.le7, Zn.le8, Zn.le9, Zn.le10, Zn.le11, i0, ikd, hb, hln, neg_int, e1, lists_tup, a1, a2, a3, e2]
  | false =>
    rw [hb] at e2
    dsimp only at e2
    rw [hlast] at e2
    dsimp only at e2
    cases hb2 : (ks[ks.length - 1]'(by omega)).2 with
    | true =>
      rw [hb2] at e2
      dsimp only at e2
      simp only [sSeq, sAsg, sIf, sSet, sRet, sNil, sExpr, sPar, tOrF, tAndF, tNotF, tVal, tYesF, eBin, eUn, eBlt, eTup, eLstS, eIf, eAnd, eOr, eNot, eChain, eSl, oNo, oSome, aCons, aNil, fVar, Zn.rget0, Zn.rgetS, eCon, gNm, wipeR, Zn.bind_ok, Zn.bind_err, Zn.stm_ok, Zn.fin_rt, Zn.fin_nx, List.set_cons_zero, List.set_cons_succ, if_true, decide_true, decide_false, Bool.false_eq_true, if_false, Bool.not_true, Bool.not_false, List.replicate_succ, List.replicate_zero, Nat.reduceSub, Zn.le0, Zn.le1, Zn.le2, Zn.le3, Zn.le4, Zn.le5, Zn.le6, Zn.le7, Zn.le8, Zn.le9, Zn.le10, Zn.le11, i0, ikd, hb, hln, sb, neg_int, e1, lists_tup, a1, a2, a3, il, hb2, e2]
    | false =>
      rw [hb2] at e2
      dsimp only at e2
      simp only [sSeq, sAsg, sIf, sSet, sRet, sNil, sExpr, sPar, tOrF, tAndF, tNotF, tVal, tYesF, eBin, eUn, eBlt, eTup, eLstS, eIf, eAnd, eOr, eNot, eChain, eSl, oNo, oSome, aCons, aNil, fVar, Zn.rget0, Zn.rgetS, eCon, gNm, wipeR, Zn.bind_ok, Zn.bind_err, Zn.stm_ok, Zn.fin_rt, Zn.fin_nx, List.set_cons_zero, List.set_cons_succ, if_true, decide_true, decide_false, Bool.false_eq_true, if_false, Bool.not_true, Bool.not_false, List.replicate_succ, List.replicate_zero, Nat.reduceSub, Zn.le0, Zn.le1, Zn.le2, Zn.le3, Zn.le4, Zn.le5, Zn.le6, Zn.le7, Zn.le8, Zn.le9, Zn.le10, Zn.le11, i0, ikd, hb, hln, sb, neg_int, e1, lists_tup, a1, a2, a3, il, hb2, e2]
end K01

namespace Zn
open PySem PySem.Spec L2 Z
/-! ### values with short texts -/
def Gd (d : D) : Prop := ∃ p, Pl 8 d p ∧ Sn 100 p ∧ noRef d = true
def gdB (d : D) : Bool := match noRef d with
  | true => match toP 8 [] d with
    | some p => p.showable && p.canLay0 && Nat.ble p.depth 8 && Nat.ble p.shown.length 100 && PyData.strOk p.shown
    | none => false
  | false => false
theorem gdB_ok {d : D} (h : gdB d = true) : Gd d := by
  unfold gdB at h
  split at h
  · rename_i hn
    split at h
    · rename_i p hp
      simp only [Bool.and_eq_true] at h
      obtain ⟨⟨⟨⟨a, b⟩, c⟩, e⟩, f⟩ := h
      exact ⟨p, ⟨fun m => by
        have := toP_up 8 1 m d p (by rw [toP_nr 8 d hn m []]; exact hp)
        exact this, b, Nat.le_of_ble_eq_true c⟩, ⟨a, Nat.le_of_ble_eq_true e, f⟩, hn⟩
    · cases h
  · cases h
theorem gds_ok : ∀ {ds : List D}, (∀ d ∈ ds, Gd d) → ∃ ps, Pls 8 ds ps ∧ Sns 100 ps ∧ noRefs ds = true ∧ ps.length = ds.length
  | [], _ => ⟨[], .nil, .nil, rfl, rfl⟩
  | d :: ds, h => by
    obtain ⟨p, a, b, c⟩ := h d List.mem_cons_self
    obtain ⟨ps, a2, b2, c2, e2⟩ := gds_ok fun x hx => h x (List.mem_cons_of_mem _ hx)
    exact ⟨p :: ps, .cons a a2, .cons b b2, noRefs_c c c2, by rw [List.length_cons, List.length_cons, e2]⟩
theorem gd_tx {d : D} (h : Gd d) : ∃ s, Tx d s := by
  obtain ⟨p, a, b, c⟩ := h
  exact ⟨_, tx_of a (by decide) c (b.up (by decide))⟩
theorem tup_tx {ds : List D} (h : ∀ d ∈ ds, Gd d) (hl : ds.length ≤ 500) : ∃ s, Tx (.tup ds) s := by
  obtain ⟨ps, a, b, c, e⟩ := gds_ok h
  exact ⟨_, tx_of (pl_tup a) (by decide) c (sn_tup b (by rw [e]; omega))⟩
theorem sl_tx {ds : List D} (h : ∀ d ∈ ds, Gd d) (hl : ds.length ≤ 500) : ∃ s, Tx (.sl ds) s := by
  obtain ⟨ps, a, b, c, e⟩ := gds_ok h
  exact ⟨_, tx_of (pl_sl a) (by decide) c (sn_list b (by rw [e]; omega))⟩
theorem gd_ev {e : Ev} (h : e.1 < 100) (h2 : ∀ n, e.2 = some n → n < 100) : Gd (evD e) := by
  obtain ⟨k, o⟩ := e
  exact ⟨_, (pl_ev (k, o)).up (by decide), (sn_ev h h2).up (by decide), nr_ev _⟩
theorem cut_map {α : Type} (g : α → D) (l : List α) (lo hi : Option Int) : ∃ l' : List α, cutD (l.map g) lo hi = l'.map g ∧ (∀ x ∈ l', x ∈ l) ∧ l'.length ≤ l.length := by
  refine ⟨(l.drop (HT.sIx l.length 0 lo)).take (HT.sIx l.length l.length hi - HT.sIx l.length 0 lo), ?_, fun x hx => List.mem_of_mem_drop (List.mem_of_mem_take hx), ?_⟩
  · unfold cutD
    rw [List.length_map, List.map_take, List.map_drop]
  · rw [List.length_take, List.length_drop]
    omega
end Zn
namespace K01
open PySem PySem.Spec L2 Z Zn
theorem all_mem {α : Type} {p : α → Bool} {l : List α} (h : l.all p = true) {x : α} (hx : x ∈ l) : p x = true := List.all_eq_true.mp h x hx
theorem fact1 : (allK.all fun ks => Nat.ble 1 ks.length && Nat.ble ks.length 3 && isBl true (fIso s_are_kinds [kindsD ks] []) && ks.all fun p => (p.1 == "a" || p.1 == "b" || p.1 == "c")) = true := by decide +kernel
theorem fact2 : (allK.all fun ks => (wk ks).all fun d => isBl false (fIso s_are_kinds [d] [])) = true := by decide +kernel
theorem fact3 : (allK.all fun ks => (ws ks).all fun w => isBl false (fIso s_is_event_in [kindsD ks, w] []) && noRef w) = true := by decide +kernel
theorem fact3b : (allK.all fun ks => isBl false (fIso s_is_event_in [kindsD ks, finD ks] [])) = true := by decide +kernel
theorem fact5 : (["a", "b", "c"] : List Str).all (fun s => gdB (kdD (s, true)) && gdB (kdD (s, false))) = true := by decide +kernel
theorem fact6 : ([.tup [.str "A", .bl true], .tup [.str "new", .bl true], .tup [.str "z", .int 1], .tup [.str "z"], .sl [.str "z", .bl true], .non, .int 3, .int 0, .int (-1), .bl true, .tup []] : List D).all gdB = true := by decide +kernel
theorem fact7 : ([1, 2, 3] : List Nat).all (fun n => (ws (List.replicate n ("a", true))).all gdB && gdB (.tup [.int ((n - 1 : Nat) : Int)]) && gdB (.tup [.int ((n - 1 : Nat) : Int), .int 0])) = true := by decide +kernel
structure KsOk (ks : List Kd) : Prop where
  l1 : 0 < ks.length
  l2 : ks.length ≤ 3
  are : KOk ks
  gd : ∀ p ∈ ks, Gd (kdD p)
  wk : ∀ d ∈ wk ks, (∀ m, fIso s_are_kinds [d] m = .ok (.bl false) m) ∧ ∃ s, Tx d s
  ws : ∀ w ∈ ws ks, (∀ m, fIso s_is_event_in [kindsD ks, w] m = .ok (.bl false) m) ∧ Gd w
  fin : (∀ m, fIso s_is_event_in [kindsD ks, finD ks] m = .ok (.bl false) m) ∧ Gd (finD ks)
theorem ks_ok {ks : List Kd} (h : ks ∈ allK) : KsOk ks := by
  have h1 := all_mem fact1 h
  simp only [Bool.and_eq_true] at h1
  obtain ⟨⟨⟨a1, a2⟩, a3⟩, a4⟩ := h1
  have a1 := Nat.le_of_ble_eq_true a1
  have a2 := Nat.le_of_ble_eq_true a2
  have gd : ∀ p ∈ ks, Gd (kdD p) := fun p hp => by
    have q := all_mem a4 hp
    simp only [Bool.or_eq_true, beq_iff_eq] at q
    have f := fact5
    simp only [List.all_cons, List.all_nil, Bool.and_eq_true] at f
    obtain ⟨x, b⟩ := p
    rcases q with (q | q) | q <;> simp only at q <;> subst q <;> cases b <;> first | exact gdB_ok f.1.1 | exact gdB_ok f.1.2 | exact gdB_ok f.2.1.1 | exact gdB_ok f.2.1.2 | exact gdB_ok f.2.2.1.1 | exact gdB_ok f.2.2.1.2
  have f6 := fact6
  simp only [List.all_cons, List.all_nil, Bool.and_eq_true] at f6
  obtain ⟨b1, b2, b3, b4, b5, b6, b7, b8, b9, b10, b11, _⟩ := f6
  obtain ⟨ks1, e1, m1, n1⟩ := cut_map kdD ks none (some 1)
  obtain ⟨ks2, e2, m2, n2⟩ := cut_map kdD ks (some 1) none
  have gK : ∀ d ∈ ks.map kdD, Gd d := fun d hd => by
    obtain ⟨p, hp, rfl⟩ := List.mem_map.mp hd
    exact gd p hp
  have gK1 : ∀ d ∈ ks1.map kdD, Gd d := fun d hd => by
    obtain ⟨p, hp, rfl⟩ := List.mem_map.mp hd
    exact gd p (m1 p hp)
  have gK2 : ∀ x, Gd x → ∃ s, Tx (.tup (ks2.map kdD ++ [x])) s := fun x hx => tup_tx (fun d hd => by
    rcases List.mem_append.mp hd with q | q
    · obtain ⟨p, hp, rfl⟩ := List.mem_map.mp q
      exact gd p (m2 p hp)
    · rw [List.mem_singleton.mp q]; exact hx) (by rw [List.length_append, List.length_map, List.length_cons, List.length_nil]; omega)
  refine ⟨a1, by omega, ⟨isBl_ok a3⟩, gd, fun d hd => ⟨isBl_ok (all_mem (all_mem fact2 h) hd), ?_⟩, fun w hw => ?_, ?_⟩
  · unfold K01.wk at hd
    rw [e1, e2] at hd
    simp only [List.mem_append, List.mem_cons, List.not_mem_nil, or_false] at hd
    rcases hd with ((rfl | rfl | rfl | rfl | rfl | rfl) | rfl) | rfl | rfl | rfl | rfl
    · exact gd_tx (gdB_ok b6)
    · exact gd_tx (gdB_ok b11)
    · exact sl_tx gK (by rw [List.length_map]; omega)
    · refine tup_tx (fun d hd => ?_) (by simp only [List.flatten_cons, List.flatten_nil, List.length_append, List.length_map, List.length_nil]; omega)
      simp only [List.flatten_cons, List.flatten_nil, List.mem_append, List.not_mem_nil, or_false] at hd
      rcases hd with q | q | q | q | q <;> exact gK d q
    · refine tup_tx (fun d hd => ?_) (by rw [List.length_append, List.length_map, List.length_map]; omega)
      rcases List.mem_append.mp hd with q | q
      · exact gK d q
      · exact gK1 d q
    · exact gK2 _ (gdB_ok b1)
    · exact gK2 _ (gdB_ok b2)
    · exact gK2 _ (gdB_ok b3)
    · exact gK2 _ (gdB_ok b4)
    · exact gK2 _ (gdB_ok b5)
    · exact gd_tx (gdB_ok b7)
  · have q := all_mem (all_mem fact3 h) hw
    rw [Bool.and_eq_true] at q
    refine ⟨isBl_ok q.1, ?_⟩
    have hm : ks.length ∈ ([1, 2, 3] : List Nat) := by
      simp only [List.mem_cons, List.not_mem_nil, or_false]
      omega
    have f := all_mem fact7 hm
    simp only [Bool.and_eq_true] at f
    have e : ws (List.replicate ks.length (("a", true) : Kd)) = ws ks := by
      unfold ws
      rw [List.length_replicate]
    rw [e] at f
    exact gdB_ok (all_mem f.1.1 hw)
  · refine ⟨isBl_ok (all_mem fact3b h), ?_⟩
    have hm : ks.length ∈ ([1, 2, 3] : List Nat) := by
      simp only [List.mem_cons, List.not_mem_nil, or_false]
      omega
    have f := all_mem fact7 hm
    simp only [Bool.and_eq_true] at f
    unfold finD
    split
    · split
      · have hm1 : (1 : Nat) ∈ ([1, 2, 3] : List Nat) := by simp
        have f1 := all_mem fact7 hm1
        simp only [Bool.and_eq_true] at f1
        exact gdB_ok f1.1.2
      · split
        · split
          · exact gdB_ok f.1.2
          · exact gdB_ok f.2
        · exact gdB_ok b6
    · exact gdB_ok b6
/-! ### a wrong log is wrong, and has a text -/
theorem wrong_is {ks : List Kd} (K : KsOk ks) {l : List Ev} (L : LogOk ks l) {w : D} (hw : w ∈ ws ks) {d : D} (hd : d ∈ wl ks l w) : (∀ m, fIso s_is_log_in [kindsD ks, d] m = .ok (.bl false) m) ∧ ∃ s, Tx d s := by
  have gE : ∀ d ∈ l.map evD, Gd d := fun d hd => by
    obtain ⟨e, he, rfl⟩ := List.mem_map.mp hd
    refine gd_ev ?_ fun n hn => by have := L.nm e he n hn; omega
    have := L.ok e he
    unfold okE at this
    obtain ⟨p, hp, _⟩ := Option.map_eq_some_iff.mp this
    have := (List.getElem?_eq_some_iff.mp hp).1
    have := K.l2
    omega
  have nE : noRefs (l.map evD) = true := noRefs_map nr_ev l
  have hl := L.ln
  have tl : ∀ w, Gd w → (∀ m, fIso s_is_event_in [kindsD ks, w] m = .ok (.bl false) m) → ∀ (es : List D), (es = l.map evD ++ [w] ∨ es = [w] ++ l.map evD) → (∀ m, fIso s_is_log_in [kindsD ks, .tup es] m = .ok (.bl false) m) ∧ ∃ s, Tx (.tup es) s := fun w gw fw es hes => by
    classical
    have hlen : es.length = l.length + 1 := by
      rcases hes with rfl | rfl
      · simp
      · simp
    have hmem : ∀ x ∈ es, x ∈ l.map evD ∨ x = w := fun x hx => by
      rcases hes with rfl | rfl
      · rcases List.mem_append.mp hx with q | q
        · exact .inl q
        · exact .inr (List.mem_singleton.mp q)
      · rcases List.mem_append.mp hx with q | q
        · exact .inr (List.mem_singleton.mp q)
        · exact .inl q
    have hwm : w ∈ es := by
      rcases hes with rfl | rfl <;> simp
    have gall : ∀ x ∈ es, Gd x := fun x hx => by
      rcases hmem x hx with q | q
      · exact gE x q
      · rw [q]; exact gw
    obtain ⟨ps, _, _, nr, _⟩ := gds_ok gall
    refine ⟨fun m => ?_, tup_tx gall (by omega)⟩
    have := log_in (ks := ks) (ds := es) (b := fun d => !decide (d = w)) nr (by omega) (fun d hd m => by
      by_cases q : d = w
      · rw [q, fw, decide_eq_true rfl]; rfl
      · rcases hmem d hd with q2 | q2
        · obtain ⟨e, he, rfl⟩ := List.mem_map.mp q2
          rw [event_ok (L.ok e he), decide_eq_false q]
          rfl
        · exact absurd q2 q) m
    rw [this]
    congr 2
    rw [List.all_eq_false]
    exact ⟨w, hwm, by simp⟩
  unfold wl at hd
  simp only [List.mem_append, List.mem_cons, List.not_mem_nil, or_false] at hd
  have f6 := fact6
  simp only [List.all_cons, List.all_nil, Bool.and_eq_true] at f6
  obtain ⟨b1, b2, b3, b4, b5, b6, b7, b8, b9, b10, b11, _⟩ := f6
  rcases hd with (rfl | rfl | rfl | rfl) | rfl
  · exact tl w (K.ws w hw).2 (K.ws w hw).1 _ (.inl rfl)
  · exact ⟨log_not nE fun _ => isi_lt, sl_tx gE (by rw [List.length_map]; omega)⟩
  · exact ⟨log_not rfl fun _ => isi_nt, gd_tx (gdB_ok b6)⟩
  · exact tl w (K.ws w hw).2 (K.ws w hw).1 _ (.inr rfl)
  · exact tl (finD ks) K.fin.2 K.fin.1 _ (.inl rfl)
end K01

namespace K01
open PySem PySem.Spec L2 Z Zn
def sameR (r r' : R D) : Bool := match r, r' with
  | .ok a _, .ok b _ => (match noRef a with
    | true => (match noRef b with
      | true => isBl false (oNe a b [])
      | false => false)
    | false => false)
  | _, _ => false
def f4 (ks : List Kd) (n : Int) : Bool := sameR (fIso s_logs_of_length [kindsD ks, .int n] []) (fIso s__law_all [kindsD ks, .int n] [])
theorem allK_len : allK.length = 30 := by decide +kernel
theorem f4_0 : (f4 (allK.getD 0 []) 0 && f4 (allK.getD 0 []) 1 && f4 (allK.getD 0 []) 2) = true := by decide +kernel
theorem f4b_0 : f4 (allK.getD 0 []) 3 = true := by decide +kernel
theorem f4_1 : (f4 (allK.getD 1 []) 0 && f4 (allK.getD 1 []) 1 && f4 (allK.getD 1 []) 2) = true := by decide +kernel
theorem f4b_1 : f4 (allK.getD 1 []) 3 = true := by decide +kernel
theorem f4_2 : (f4 (allK.getD 2 []) 0 && f4 (allK.getD 2 []) 1 && f4 (allK.getD 2 []) 2) = true := by decide +kernel
theorem f4b_2 : f4 (allK.getD 2 []) 3 = true := by decide +kernel
theorem f4_3 : (f4 (allK.getD 3 []) 0 && f4 (allK.getD 3 []) 1 && f4 (allK.getD 3 []) 2) = true := by decide +kernel
theorem f4b_3 : f4 (allK.getD 3 []) 3 = true := by decide +kernel
theorem f4_4 : (f4 (allK.getD 4 []) 0 && f4 (allK.getD 4 []) 1 && f4 (allK.getD 4 []) 2) = true := by decide +kernel
theorem f4b_4 : f4 (allK.getD 4 []) 3 = true := by decide +kernel
theorem f4_5 : (f4 (allK.getD 5 []) 0 && f4 (allK.getD 5 []) 1 && f4 (allK.getD 5 []) 2) = true := by decide +kernel
theorem f4b_5 : f4 (allK.getD 5 []) 3 = true := by decide +kernel
theorem f4_6 : (f4 (allK.getD 6 []) 0 && f4 (allK.getD 6 []) 1 && f4 (allK.getD 6 []) 2) = true := by decide +kernel
theorem f4b_6 : f4 (allK.getD 6 []) 3 = true := by decide +kernel
theorem f4_7 : (f4 (allK.getD 7 []) 0 && f4 (allK.getD 7 []) 1 && f4 (allK.getD 7 []) 2) = true := by decide +kernel
theorem f4b_7 : f4 (allK.getD 7 []) 3 = true := by decide +kernel
theorem f4_8 : (f4 (allK.getD 8 []) 0 && f4 (allK.getD 8 []) 1 && f4 (allK.getD 8 []) 2) = true := by decide +kernel
theorem f4b_8 : f4 (allK.getD 8 []) 3 = true := by decide +kernel
theorem f4_9 : (f4 (allK.getD 9 []) 0 && f4 (allK.getD 9 []) 1 && f4 (allK.getD 9 []) 2) = true := by decide +kernel
theorem f4b_9 : f4 (allK.getD 9 []) 3 = true := by decide +kernel
theorem f4_10 : (f4 (allK.getD 10 []) 0 && f4 (allK.getD 10 []) 1 && f4 (allK.getD 10 []) 2) = true := by decide +kernel
theorem f4b_10 : f4 (allK.getD 10 []) 3 = true := by decide +kernel
theorem f4_11 : (f4 (allK.getD 11 []) 0 && f4 (allK.getD 11 []) 1 && f4 (allK.getD 11 []) 2) = true := by decide +kernel
theorem f4b_11 : f4 (allK.getD 11 []) 3 = true := by decide +kernel
theorem f4_12 : (f4 (allK.getD 12 []) 0 && f4 (allK.getD 12 []) 1 && f4 (allK.getD 12 []) 2) = true := by decide +kernel
theorem f4b_12 : f4 (allK.getD 12 []) 3 = true := by decide +kernel
theorem f4_13 : (f4 (allK.getD 13 []) 0 && f4 (allK.getD 13 []) 1 && f4 (allK.getD 13 []) 2) = true := by decide +kernel
theorem f4b_13 : f4 (allK.getD 13 []) 3 = true := by decide +kernel
theorem f4_14 : (f4 (allK.getD 14 []) 0 && f4 (allK.getD 14 []) 1 && f4 (allK.getD 14 []) 2) = true := by decide +kernel
theorem f4b_14 : f4 (allK.getD 14 []) 3 = true := by decide +kernel
theorem f4_15 : (f4 (allK.getD 15 []) 0 && f4 (allK.getD 15 []) 1 && f4 (allK.getD 15 []) 2) = true := by decide +kernel
theorem f4b_15 : f4 (allK.getD 15 []) 3 = true := by decide +kernel
theorem f4_16 : (f4 (allK.getD 16 []) 0 && f4 (allK.getD 16 []) 1 && f4 (allK.getD 16 []) 2) = true := by decide +kernel
theorem f4b_16 : f4 (allK.getD 16 []) 3 = true := by decide +kernel
theorem f4_17 : (f4 (allK.getD 17 []) 0 && f4 (allK.getD 17 []) 1 && f4 (allK.getD 17 []) 2) = true := by decide +kernel
theorem f4b_17 : f4 (allK.getD 17 []) 3 = true := by decide +kernel
theorem f4_18 : (f4 (allK.getD 18 []) 0 && f4 (allK.getD 18 []) 1 && f4 (allK.getD 18 []) 2) = true := by decide +kernel
theorem f4b_18 : f4 (allK.getD 18 []) 3 = true := by decide +kernel
theorem f4_19 : (f4 (allK.getD 19 []) 0 && f4 (allK.getD 19 []) 1 && f4 (allK.getD 19 []) 2) = true := by decide +kernel
theorem f4b_19 : f4 (allK.getD 19 []) 3 = true := by decide +kernel
theorem f4_20 : (f4 (allK.getD 20 []) 0 && f4 (allK.getD 20 []) 1 && f4 (allK.getD 20 []) 2) = true := by decide +kernel
theorem f4b_20 : f4 (allK.getD 20 []) 3 = true := by decide +kernel
theorem f4_21 : (f4 (allK.getD 21 []) 0 && f4 (allK.getD 21 []) 1 && f4 (allK.getD 21 []) 2) = true := by decide +kernel
theorem f4b_21 : f4 (allK.getD 21 []) 3 = true := by decide +kernel
theorem f4_22 : (f4 (allK.getD 22 []) 0 && f4 (allK.getD 22 []) 1 && f4 (allK.getD 22 []) 2) = true := by decide +kernel
theorem f4b_22 : f4 (allK.getD 22 []) 3 = true := by decide +kernel
theorem f4_23 : (f4 (allK.getD 23 []) 0 && f4 (allK.getD 23 []) 1 && f4 (allK.getD 23 []) 2) = true := by decide +kernel
theorem f4b_23 : f4 (allK.getD 23 []) 3 = true := by decide +kernel
theorem f4_24 : (f4 (allK.getD 24 []) 0 && f4 (allK.getD 24 []) 1 && f4 (allK.getD 24 []) 2) = true := by decide +kernel
theorem f4b_24 : f4 (allK.getD 24 []) 3 = true := by decide +kernel
theorem f4_25 : (f4 (allK.getD 25 []) 0 && f4 (allK.getD 25 []) 1 && f4 (allK.getD 25 []) 2) = true := by decide +kernel
theorem f4b_25 : f4 (allK.getD 25 []) 3 = true := by decide +kernel
theorem f4_26 : (f4 (allK.getD 26 []) 0 && f4 (allK.getD 26 []) 1 && f4 (allK.getD 26 []) 2) = true := by decide +kernel
theorem f4b_26 : f4 (allK.getD 26 []) 3 = true := by decide +kernel
theorem f4_27 : (f4 (allK.getD 27 []) 0 && f4 (allK.getD 27 []) 1 && f4 (allK.getD 27 []) 2) = true := by decide +kernel
theorem f4b_27 : f4 (allK.getD 27 []) 3 = true := by decide +kernel
theorem f4_28 : (f4 (allK.getD 28 []) 0 && f4 (allK.getD 28 []) 1 && f4 (allK.getD 28 []) 2) = true := by decide +kernel
theorem f4b_28 : f4 (allK.getD 28 []) 3 = true := by decide +kernel
theorem f4_29 : (f4 (allK.getD 29 []) 0 && f4 (allK.getD 29 []) 1 && f4 (allK.getD 29 []) 2) = true := by decide +kernel
theorem f4b_29 : f4 (allK.getD 29 []) 3 = true := by decide +kernel
theorem f4_all : ∀ i, i < 30 → (f4 (allK.getD i []) 0 && f4 (allK.getD i []) 1 && f4 (allK.getD i []) 2) = true ∧ f4 (allK.getD i []) 3 = true
  | 0, _ => ⟨f4_0, f4b_0⟩
  | 1, _ => ⟨f4_1, f4b_1⟩
  | 2, _ => ⟨f4_2, f4b_2⟩
  | 3, _ => ⟨f4_3, f4b_3⟩
  | 4, _ => ⟨f4_4, f4b_4⟩
  | 5, _ => ⟨f4_5, f4b_5⟩
  | 6, _ => ⟨f4_6, f4b_6⟩
  | 7, _ => ⟨f4_7, f4b_7⟩
  | 8, _ => ⟨f4_8, f4b_8⟩
  | 9, _ => ⟨f4_9, f4b_9⟩
  | 10, _ => ⟨f4_10, f4b_10⟩
  | 11, _ => ⟨f4_11, f4b_11⟩
  | 12, _ => ⟨f4_12, f4b_12⟩
  | 13, _ => ⟨f4_13, f4b_13⟩
  | 14, _ => ⟨f4_14, f4b_14⟩
  | 15, _ => ⟨f4_15, f4b_15⟩
  | 16, _ => ⟨f4_16, f4b_16⟩
  | 17, _ => ⟨f4_17, f4b_17⟩
  | 18, _ => ⟨f4_18, f4b_18⟩
  | 19, _ => ⟨f4_19, f4b_19⟩
  | 20, _ => ⟨f4_20, f4b_20⟩
  | 21, _ => ⟨f4_21, f4b_21⟩
  | 22, _ => ⟨f4_22, f4b_22⟩
  | 23, _ => ⟨f4_23, f4b_23⟩
  | 24, _ => ⟨f4_24, f4b_24⟩
  | 25, _ => ⟨f4_25, f4b_25⟩
  | 26, _ => ⟨f4_26, f4b_26⟩
  | 27, _ => ⟨f4_27, f4b_27⟩
  | 28, _ => ⟨f4_28, f4b_28⟩
  | 29, _ => ⟨f4_29, f4b_29⟩
  | n + 30, h => absurd h (by omega)
theorem fact4 {ks : List Kd} (h : ks ∈ allK) {n : Int} (h0 : 0 ≤ n) (h1 : n < 4) : f4 ks n = true := by
  obtain ⟨i, hi, e⟩ := List.getElem_of_mem h
  have e2 : allK.getD i [] = ks := by
    rw [List.getD_eq_getElem?_getD, List.getElem?_eq_getElem hi, e]
    rfl
  obtain ⟨a, b⟩ := f4_all i (by rw [← allK_len]; exact hi)
  rw [e2] at a b
  rw [Bool.and_eq_true, Bool.and_eq_true] at a
  have : n = 0 ∨ n = 1 ∨ n = 2 ∨ n = 3 := by omega
  rcases this with rfl | rfl | rfl | rfl
  · exact a.1.1
  · exact a.1.2
  · exact a.2
  · exact b
theorem ne_any {a b : D} {c : Bool} (ha : noRef a = true) (hb : noRef b = true) (h : isBl c (oNe a b []) = true) (m : M) : oNe a b m = .ok (.bl c) m := by
  unfold isBl at h
  unfold oNe at h ⊢
  rw [toP_nr _ a ha m [], toP_nr _ b hb m []]
  split at h
  · rename_i x m0 q
    cases q1 : toP deepest [] a with
    | none => rw [q1] at q; cases q
    | some p =>
      cases q2 : toP deepest [] b with
      | none => rw [q1, q2] at q; cases q
      | some p' =>
        rw [q1, q2] at q
        dsimp only at q ⊢
        split at q
        · rename_i hs
          cases q
          rw [if_pos hs, eq_of_beq h]
        · cases q
  · cases h
theorem len_same {ks : List Kd} (h : ks ∈ allK) {n : Int} (h0 : 0 ≤ n) (h1 : n < 4) : ∃ a b, (∀ m, fIso s_logs_of_length [kindsD ks, .int n] m = .ok a m) ∧ (∀ m, fIso s__law_all [kindsD ks, .int n] m = .ok b m) ∧ ∀ m, oNe a b m = .ok (.bl false) m := by
  have q : sameR (fIso s_logs_of_length [kindsD ks, .int n] []) (fIso s__law_all [kindsD ks, .int n] []) = true :=
    fact4 h h0 h1
  unfold sameR at q
  split at q
  · rename_i a m0 b m1 e1 e2
    split at q
    · rename_i na
      split at q
      · rename_i nb
        exact ⟨a, b, iso_any e1, iso_any e2, ne_any na nb q⟩
      · cases q
    · cases q
  · cases q
end K01

namespace Zn
open PySem PySem.Spec L2 Z
theorem stm_err {α : Type} (x : Xn) (m : M) (ρ : Rho) (k : α → M → Option (Fl × M)) : (R.err x m : R α).stm ρ k = some (.er x ρ, m) := rfl
theorem ref_err {n i : Nat} {hs : List (Str × (Addr → Addr → SF))} {f : EF} {ρ : Rho} {m m1 : M} {x : Xn} (h : f ρ m = .err x m1) (ha : hs.any (fun p => decide (p.1 = x.cls)) = true) : eRef n i hs f ρ m = hRun n i hs x m1 := by
  unfold eRef
  rw [h]
  dsimp only
  rw [if_pos ha]
end Zn
namespace K01
open PySem PySem.Spec L2 Z Zn
theorem n1 : (("BadKinds" : Str) = "BadText") = False := eq_false (by decide +kernel)
theorem n2 : (("BadKinds" : Str) = "BadNumber") = False := eq_false (by decide +kernel)
theorem n3 : (("BadKinds" : Str) = "BadName") = False := eq_false (by decide +kernel)
theorem n4 : (("BadKinds" : Str) = "NoName") = False := eq_false (by decide +kernel)
theorem n5 : (("BadLog" : Str) = "BadText") = False := eq_false (by decide +kernel)
theorem n6 : (("BadLog" : Str) = "BadNumber") = False := eq_false (by decide +kernel)
theorem n7 : (("BadLog" : Str) = "BadName") = False := eq_false (by decide +kernel)
theorem n8 : (("BadLog" : Str) = "NoName") = False := eq_false (by decide +kernel)
theorem n9 : (("BadLog" : Str) = "BadKinds") = False := eq_false (by decide +kernel)
theorem n10 : (("BadNumber" : Str) = "BadText") = False := eq_false (by decide +kernel)
theorem h_kinds {d : D} {s : Str} (h : Tx d s) {f : EF} {ρ : Rho} {m m1 : M} (e : f ρ m = .err ⟨"BadKinds", [("kinds", d)]⟩ m1) : eRef 2 1 hs__law_refused f ρ m = .ok (.tup [.str "kinds", .str s]) m1 := by
  rw [ref_err e (by rfl)]
  have l : lookD ["kinds"] [d] "kinds" = some d := rfl
  simp only [hs__law_refused, hRun, n1, n2, n3, n4, if_false, if_true]
  simp only [sSeq, sAsg, sIf, sSet, sRet, sNil, sExpr, sPar, tOrF, tAndF, tNotF, tVal, tYesF, eBin, eUn, eBlt, eTup, eLstS, eIf, eAnd, eOr, eNot, eChain, eSl, oNo, oSome, aCons, aNil, fVar, Zn.rget0, Zn.rgetS, eCon, gNm, wipeR, Zn.bind_ok, Zn.bind_err, Zn.stm_ok, Zn.fin_rt, Zn.fin_nx, List.set_cons_zero, List.set_cons_succ, if_true, decide_true, decide_false, Bool.false_eq_true, if_false, Bool.not_true, Bool.not_false, List.replicate_succ, List.replicate_zero, Nat.reduceSub, Zn.le0, Zn.le1, Zn.le2, Zn.le3, Zn.le4, Zn.le5, Zn.le6, Zn.le7, Zn.le8, Zn.le9, Zn.le10, Zn.le11, rhoC, eFldA, eVar, List.getElem?_cons_succ, List.getElem?_cons_zero, List.map_cons, List.map_nil, and_self, l, h.re]
theorem h_log {d : D} {s : Str} (h : Tx d s) {f : EF} {ρ : Rho} {m m1 : M} (e : f ρ m = .err ⟨"BadLog", [("log", d)]⟩ m1) : eRef 2 1 hs__law_refused f ρ m = .ok (.tup [.str "log", .str s]) m1 := by
  rw [ref_err e (by rfl)]
  have l : lookD ["log"] [d] "log" = some d := rfl
  simp only [hs__law_refused, hRun, n5, n6, n7, n8, n9, if_false, if_true]
  simp only [sSeq, sAsg, sIf, sSet, sRet, sNil, sExpr, sPar, tOrF, tAndF, tNotF, tVal, tYesF, eBin, eUn, eBlt, eTup, eLstS, eIf, eAnd, eOr, eNot, eChain, eSl, oNo, oSome, aCons, aNil, fVar, Zn.rget0, Zn.rgetS, eCon, gNm, wipeR, Zn.bind_ok, Zn.bind_err, Zn.stm_ok, Zn.fin_rt, Zn.fin_nx, List.set_cons_zero, List.set_cons_succ, if_true, decide_true, decide_false, Bool.false_eq_true, if_false, Bool.not_true, Bool.not_false, List.replicate_succ, List.replicate_zero, Nat.reduceSub, Zn.le0, Zn.le1, Zn.le2, Zn.le3, Zn.le4, Zn.le5, Zn.le6, Zn.le7, Zn.le8, Zn.le9, Zn.le10, Zn.le11, rhoC, eFldA, eVar, List.getElem?_cons_succ, List.getElem?_cons_zero, List.map_cons, List.map_nil, and_self, l, h.re]
theorem h_num {d : D} {s : Str} (h : Tx d s) {f : EF} {ρ : Rho} {m m1 : M} (e : f ρ m = .err ⟨"BadNumber", [("number", d), ("what", .str "n")]⟩ m1) : eRef 2 1 hs__law_refused f ρ m = .ok (.tup [.str "n", .str s]) m1 := by
  rw [ref_err e (by rfl)]
  have l : lookD ["number", "what"] [d, .str "n"] "number" = some d := rfl
  have l2 : lookD ["number", "what"] [d, .str "n"] "what" = some (.str "n") := rfl
  simp only [hs__law_refused, hRun, n10, if_false, if_true]
  simp only [sSeq, sAsg, sIf, sSet, sRet, sNil, sExpr, sPar, tOrF, tAndF, tNotF, tVal, tYesF, eBin, eUn, eBlt, eTup, eLstS, eIf, eAnd, eOr, eNot, eChain, eSl, oNo, oSome, aCons, aNil, fVar, Zn.rget0, Zn.rgetS, eCon, gNm, wipeR, Zn.bind_ok, Zn.bind_err, Zn.stm_ok, Zn.fin_rt, Zn.fin_nx, List.set_cons_zero, List.set_cons_succ, if_true, decide_true, decide_false, Bool.false_eq_true, if_false, Bool.not_true, Bool.not_false, List.replicate_succ, List.replicate_zero, Nat.reduceSub, Zn.le0, Zn.le1, Zn.le2, Zn.le3, Zn.le4, Zn.le5, Zn.le6, Zn.le7, Zn.le8, Zn.le9, Zn.le10, Zn.le11, rhoC, eFldA, eVar, List.getElem?_cons_succ, List.getElem?_cons_zero, List.map_cons, List.map_nil, and_self, l, l2, h.re]
section
variable {d : D}
theorem need_kinds_err (hn : noRef d = true) (h : ∀ m, fIso s_are_kinds [d] m = .ok (.bl false) m) (m : M) : fIso s_need_kinds [d] m = .err ⟨"BadKinds", [("kinds", d)]⟩ m := by
  refine iso_err (m1 := []) (noRefs_c hn rfl) ?_ (by show (match noRef d with | true => true | false => false) = true; rw [hn])
  unfold s_need_kinds
  rw [fn1]
  simp only [sSeq, sAsg, sIf, sSet, sRet, sNil, sExpr, sPar, tOrF, tAndF, tNotF, tVal, tYesF, eBin, eUn, eBlt, eTup, eLstS, eIf, eAnd, eOr, eNot, eChain, eSl, oNo, oSome, aCons, aNil, fVar, Zn.rget0, Zn.rgetS, eCon, gNm, wipeR, Zn.bind_ok, Zn.bind_err, Zn.stm_ok, Zn.fin_rt, Zn.fin_nx, List.set_cons_zero, List.set_cons_succ, if_true, decide_true, decide_false, Bool.false_eq_true, if_false, Bool.not_true, Bool.not_false, List.replicate_succ, List.replicate_zero, Nat.reduceSub, Zn.le0, Zn.le1, Zn.le2, Zn.le3, Zn.le4, Zn.le5, Zn.le6, Zn.le7, Zn.le8, Zn.le9, Zn.le10, Zn.le11, h, sRaise1, fin_er]
theorem need_log_err {ks : List Kd} (hn : noRef d = true) (h : ∀ m, fIso s_is_log_in [kindsD ks, d] m = .ok (.bl false) m) (m : M) : fIso s_need_log [kindsD ks, d] m = .err ⟨"BadLog", [("log", d)]⟩ m := by
  refine iso_err (m1 := []) (noRefs_c (nr_kinds ks) (noRefs_c hn rfl)) ?_ (by show (match noRef d with | true => true | false => false) = true; rw [hn])
  unfold s_need_log
  rw [fn2]
  simp only [sSeq, sAsg, sIf, sSet, sRet, sNil, sExpr, sPar, tOrF, tAndF, tNotF, tVal, tYesF, eBin, eUn, eBlt, eTup, eLstS, eIf, eAnd, eOr, eNot, eChain, eSl, oNo, oSome, aCons, aNil, fVar, Zn.rget0, Zn.rgetS, eCon, gNm, wipeR, Zn.bind_ok, Zn.bind_err, Zn.stm_ok, Zn.fin_rt, Zn.fin_nx, List.set_cons_zero, List.set_cons_succ, if_true, decide_true, decide_false, Bool.false_eq_true, if_false, Bool.not_true, Bool.not_false, List.replicate_succ, List.replicate_zero, Nat.reduceSub, Zn.le0, Zn.le1, Zn.le2, Zn.le3, Zn.le4, Zn.le5, Zn.le6, Zn.le7, Zn.le8, Zn.le9, Zn.le10, Zn.le11, h, sRaise1, fin_er]
variable (hn : noRef d = true) (h : ∀ m, fIso s_are_kinds [d] m = .ok (.bl false) m)
include hn h
theorem k_is_log (m : M) : fIso s_is_log [d, .non] m = .err ⟨"BadKinds", [("kinds", d)]⟩ m := by
  refine iso_err (m1 := []) (noRefs_c hn rfl) ?_ (by show (match noRef d with | true => true | false => false) = true; rw [hn])
  unfold s_is_log
  rw [fn2]
  simp only [sSeq, sAsg, sIf, sSet, sRet, sNil, sExpr, sPar, tOrF, tAndF, tNotF, tVal, tYesF, eBin, eUn, eBlt, eTup, eLstS, eIf, eAnd, eOr, eNot, eChain, eSl, oNo, oSome, aCons, aNil, fVar, Zn.rget0, Zn.rgetS, eCon, gNm, wipeR, Zn.bind_ok, Zn.bind_err, Zn.stm_ok, Zn.fin_rt, Zn.fin_nx, List.set_cons_zero, List.set_cons_succ, if_true, decide_true, decide_false, Bool.false_eq_true, if_false, Bool.not_true, Bool.not_false, List.replicate_succ, List.replicate_zero, Nat.reduceSub, Zn.le0, Zn.le1, Zn.le2, Zn.le3, Zn.le4, Zn.le5, Zn.le6, Zn.le7, Zn.le8, Zn.le9, Zn.le10, Zn.le11, need_kinds_err hn h, stm_err, fin_er]
theorem k_plain_log (m : M) : fIso s_plain_log [d, .non] m = .err ⟨"BadKinds", [("kinds", d)]⟩ m := by
  refine iso_err (m1 := []) (noRefs_c hn rfl) ?_ (by show (match noRef d with | true => true | false => false) = true; rw [hn])
  unfold s_plain_log
  rw [fn2]
  simp only [sSeq, sAsg, sIf, sSet, sRet, sNil, sExpr, sPar, tOrF, tAndF, tNotF, tVal, tYesF, eBin, eUn, eBlt, eTup, eLstS, eIf, eAnd, eOr, eNot, eChain, eSl, oNo, oSome, aCons, aNil, fVar, Zn.rget0, Zn.rgetS, eCon, gNm, wipeR, Zn.bind_ok, Zn.bind_err, Zn.stm_ok, Zn.fin_rt, Zn.fin_nx, List.set_cons_zero, List.set_cons_succ, if_true, decide_true, decide_false, Bool.false_eq_true, if_false, Bool.not_true, Bool.not_false, List.replicate_succ, List.replicate_zero, Nat.reduceSub, Zn.le0, Zn.le1, Zn.le2, Zn.le3, Zn.le4, Zn.le5, Zn.le6, Zn.le7, Zn.le8, Zn.le9, Zn.le10, Zn.le11, need_kinds_err hn h, stm_err, fin_er]
theorem k_names_in (m : M) : fIso s_names_in [d, .non] m = .err ⟨"BadKinds", [("kinds", d)]⟩ m := by
  refine iso_err (m1 := []) (noRefs_c hn rfl) ?_ (by show (match noRef d with | true => true | false => false) = true; rw [hn])
  unfold s_names_in
  rw [fn2]
  simp only [sSeq, sAsg, sIf, sSet, sRet, sNil, sExpr, sPar, tOrF, tAndF, tNotF, tVal, tYesF, eBin, eUn, eBlt, eTup, eLstS, eIf, eAnd, eOr, eNot, eChain, eSl, oNo, oSome, aCons, aNil, fVar, Zn.rget0, Zn.rgetS, eCon, gNm, wipeR, Zn.bind_ok, Zn.bind_err, Zn.stm_ok, Zn.fin_rt, Zn.fin_nx, List.set_cons_zero, List.set_cons_succ, if_true, decide_true, decide_false, Bool.false_eq_true, if_false, Bool.not_true, Bool.not_false, List.replicate_succ, List.replicate_zero, Nat.reduceSub, Zn.le0, Zn.le1, Zn.le2, Zn.le3, Zn.le4, Zn.le5, Zn.le6, Zn.le7, Zn.le8, Zn.le9, Zn.le10, Zn.le11, need_kinds_err hn h, stm_err, fin_er]
theorem k_logs (m : M) : fIso s_logs_of_length [d, .non] m = .err ⟨"BadKinds", [("kinds", d)]⟩ m := by
  refine iso_err (m1 := []) (noRefs_c hn rfl) ?_ (by show (match noRef d with | true => true | false => false) = true; rw [hn])
  unfold s_logs_of_length
  rw [fn2]
  simp only [sSeq, sAsg, sIf, sSet, sRet, sNil, sExpr, sPar, tOrF, tAndF, tNotF, tVal, tYesF, eBin, eUn, eBlt, eTup, eLstS, eIf, eAnd, eOr, eNot, eChain, eSl, oNo, oSome, aCons, aNil, fVar, Zn.rget0, Zn.rgetS, eCon, gNm, wipeR, Zn.bind_ok, Zn.bind_err, Zn.stm_ok, Zn.fin_rt, Zn.fin_nx, List.set_cons_zero, List.set_cons_succ, if_true, decide_true, decide_false, Bool.false_eq_true, if_false, Bool.not_true, Bool.not_false, List.replicate_succ, List.replicate_zero, Nat.reduceSub, Zn.le0, Zn.le1, Zn.le2, Zn.le3, Zn.le4, Zn.le5, Zn.le6, Zn.le7, Zn.le8, Zn.le9, Zn.le10, Zn.le11, need_kinds_err hn h, stm_err, fin_er]
theorem k_alike (m : M) : fIso s_are_alike [d, .non, .non] m = .err ⟨"BadKinds", [("kinds", d)]⟩ m := by
  refine iso_err (m1 := []) (noRefs_c hn rfl) ?_ (by show (match noRef d with | true => true | false => false) = true; rw [hn])
  unfold s_are_alike
  rw [fn3]
  simp only [sSeq, sAsg, sIf, sSet, sRet, sNil, sExpr, sPar, tOrF, tAndF, tNotF, tVal, tYesF, eBin, eUn, eBlt, eTup, eLstS, eIf, eAnd, eOr, eNot, eChain, eSl, oNo, oSome, aCons, aNil, fVar, Zn.rget0, Zn.rgetS, eCon, gNm, wipeR, Zn.bind_ok, Zn.bind_err, Zn.stm_ok, Zn.fin_rt, Zn.fin_nx, List.set_cons_zero, List.set_cons_succ, if_true, decide_true, decide_false, Bool.false_eq_true, if_false, Bool.not_true, Bool.not_false, List.replicate_succ, List.replicate_zero, Nat.reduceSub, Zn.le0, Zn.le1, Zn.le2, Zn.le3, Zn.le4, Zn.le5, Zn.le6, Zn.le7, Zn.le8, Zn.le9, Zn.le10, Zn.le11, need_kinds_err hn h, stm_err, fin_er]
theorem k_less (m : M) : fIso s_is_less_log [d, .non, .non] m = .err ⟨"BadKinds", [("kinds", d)]⟩ m := by
  refine iso_err (m1 := []) (noRefs_c hn rfl) ?_ (by show (match noRef d with | true => true | false => false) = true; rw [hn])
  unfold s_is_less_log
  rw [fn3]
  simp only [sSeq, sAsg, sIf, sSet, sRet, sNil, sExpr, sPar, tOrF, tAndF, tNotF, tVal, tYesF, eBin, eUn, eBlt, eTup, eLstS, eIf, eAnd, eOr, eNot, eChain, eSl, oNo, oSome, aCons, aNil, fVar, Zn.rget0, Zn.rgetS, eCon, gNm, wipeR, Zn.bind_ok, Zn.bind_err, Zn.stm_ok, Zn.fin_rt, Zn.fin_nx, List.set_cons_zero, List.set_cons_succ, if_true, decide_true, decide_false, Bool.false_eq_true, if_false, Bool.not_true, Bool.not_false, List.replicate_succ, List.replicate_zero, Nat.reduceSub, Zn.le0, Zn.le1, Zn.le2, Zn.le3, Zn.le4, Zn.le5, Zn.le6, Zn.le7, Zn.le8, Zn.le9, Zn.le10, Zn.le11, need_kinds_err hn h, stm_err, fin_er]
end
section
variable {d : D} {ks : List Kd} (K : KOk ks) (hn : noRef d = true) (h : ∀ m, fIso s_is_log_in [kindsD ks, d] m = .ok (.bl false) m)
include K hn h
theorem l_plain_log (m : M) : fIso s_plain_log [kindsD ks, d] m = .err ⟨"BadLog", [("log", d)]⟩ m := by
  refine iso_err (m1 := []) (noRefs_c (nr_kinds ks) (noRefs_c hn rfl)) ?_ (by show (match noRef d with | true => true | false => false) = true; rw [hn])
  unfold s_plain_log
  rw [fn2]
  simp only [sSeq, sAsg, sIf, sSet, sRet, sNil, sExpr, sPar, tOrF, tAndF, tNotF, tVal, tYesF, eBin, eUn, eBlt, eTup, eLstS, eIf, eAnd, eOr, eNot, eChain, eSl, oNo, oSome, aCons, aNil, fVar, Zn.rget0, Zn.rgetS, eCon, gNm, wipeR, Zn.bind_ok, Zn.bind_err, Zn.stm_ok, Zn.fin_rt, Zn.fin_nx, List.set_cons_zero, List.set_cons_succ, if_true, decide_true, decide_false, Bool.false_eq_true, if_false, Bool.not_true, Bool.not_false, List.replicate_succ, List.replicate_zero, Nat.reduceSub, Zn.le0, Zn.le1, Zn.le2, Zn.le3, Zn.le4, Zn.le5, Zn.le6, Zn.le7, Zn.le8, Zn.le9, Zn.le10, Zn.le11, need_kinds K, need_log_err hn h, stm_err, fin_er]
theorem l_names_in (m : M) : fIso s_names_in [kindsD ks, d] m = .err ⟨"BadLog", [("log", d)]⟩ m := by
  refine iso_err (m1 := []) (noRefs_c (nr_kinds ks) (noRefs_c hn rfl)) ?_ (by show (match noRef d with | true => true | false => false) = true; rw [hn])
  unfold s_names_in
  rw [fn2]
  simp only [sSeq, sAsg, sIf, sSet, sRet, sNil, sExpr, sPar, tOrF, tAndF, tNotF, tVal, tYesF, eBin, eUn, eBlt, eTup, eLstS, eIf, eAnd, eOr, eNot, eChain, eSl, oNo, oSome, aCons, aNil, fVar, Zn.rget0, Zn.rgetS, eCon, gNm, wipeR, Zn.bind_ok, Zn.bind_err, Zn.stm_ok, Zn.fin_rt, Zn.fin_nx, List.set_cons_zero, List.set_cons_succ, if_true, decide_true, decide_false, Bool.false_eq_true, if_false, Bool.not_true, Bool.not_false, List.replicate_succ, List.replicate_zero, Nat.reduceSub, Zn.le0, Zn.le1, Zn.le2, Zn.le3, Zn.le4, Zn.le5, Zn.le6, Zn.le7, Zn.le8, Zn.le9, Zn.le10, Zn.le11, need_kinds K, need_log_err hn h, stm_err, fin_er]
theorem l_alike1 (m : M) : fIso s_are_alike [kindsD ks, d, .non] m = .err ⟨"BadLog", [("log", d)]⟩ m := by
  refine iso_err (m1 := []) (noRefs_c (nr_kinds ks) (noRefs_c hn rfl)) ?_ (by show (match noRef d with | true => true | false => false) = true; rw [hn])
  unfold s_are_alike
  rw [fn3]
  simp only [sSeq, sAsg, sIf, sSet, sRet, sNil, sExpr, sPar, tOrF, tAndF, tNotF, tVal, tYesF, eBin, eUn, eBlt, eTup, eLstS, eIf, eAnd, eOr, eNot, eChain, eSl, oNo, oSome, aCons, aNil, fVar, Zn.rget0, Zn.rgetS, eCon, gNm, wipeR, Zn.bind_ok, Zn.bind_err, Zn.stm_ok, Zn.fin_rt, Zn.fin_nx, List.set_cons_zero, List.set_cons_succ, if_true, decide_true, decide_false, Bool.false_eq_true, if_false, Bool.not_true, Bool.not_false, List.replicate_succ, List.replicate_zero, Nat.reduceSub, Zn.le0, Zn.le1, Zn.le2, Zn.le3, Zn.le4, Zn.le5, Zn.le6, Zn.le7, Zn.le8, Zn.le9, Zn.le10, Zn.le11, need_kinds K, need_log_err hn h, stm_err, fin_er]
theorem l_less1 (m : M) : fIso s_is_less_log [kindsD ks, d, .non] m = .err ⟨"BadLog", [("log", d)]⟩ m := by
  refine iso_err (m1 := []) (noRefs_c (nr_kinds ks) (noRefs_c hn rfl)) ?_ (by show (match noRef d with | true => true | false => false) = true; rw [hn])
  unfold s_is_less_log
  rw [fn3]
  simp only [sSeq, sAsg, sIf, sSet, sRet, sNil, sExpr, sPar, tOrF, tAndF, tNotF, tVal, tYesF, eBin, eUn, eBlt, eTup, eLstS, eIf, eAnd, eOr, eNot, eChain, eSl, oNo, oSome, aCons, aNil, fVar, Zn.rget0, Zn.rgetS, eCon, gNm, wipeR, Zn.bind_ok, Zn.bind_err, Zn.stm_ok, Zn.fin_rt, Zn.fin_nx, List.set_cons_zero, List.set_cons_succ, if_true, decide_true, decide_false, Bool.false_eq_true, if_false, Bool.not_true, Bool.not_false, List.replicate_succ, List.replicate_zero, Nat.reduceSub, Zn.le0, Zn.le1, Zn.le2, Zn.le3, Zn.le4, Zn.le5, Zn.le6, Zn.le7, Zn.le8, Zn.le9, Zn.le10, Zn.le11, need_kinds K, need_log_err hn h, stm_err, fin_er]
variable {l : List Ev} (L : LogOk ks l)
include L
theorem l_alike2 (m : M) : fIso s_are_alike [kindsD ks, logD l, d] m = .err ⟨"BadLog", [("log", d)]⟩ m := by
  refine iso_err (m1 := []) (noRefs_c (nr_kinds ks) (noRefs_c (nr_log l) (noRefs_c hn rfl))) ?_ (by show (match noRef d with | true => true | false => false) = true; rw [hn])
  unfold s_are_alike
  rw [fn3]
  simp only [sSeq, sAsg, sIf, sSet, sRet, sNil, sExpr, sPar, tOrF, tAndF, tNotF, tVal, tYesF, eBin, eUn, eBlt, eTup, eLstS, eIf, eAnd, eOr, eNot, eChain, eSl, oNo, oSome, aCons, aNil, fVar, Zn.rget0, Zn.rgetS, eCon, gNm, wipeR, Zn.bind_ok, Zn.bind_err, Zn.stm_ok, Zn.fin_rt, Zn.fin_nx, List.set_cons_zero, List.set_cons_succ, if_true, decide_true, decide_false, Bool.false_eq_true, if_false, Bool.not_true, Bool.not_false, List.replicate_succ, List.replicate_zero, Nat.reduceSub, Zn.le0, Zn.le1, Zn.le2, Zn.le3, Zn.le4, Zn.le5, Zn.le6, Zn.le7, Zn.le8, Zn.le9, Zn.le10, Zn.le11, need_kinds K, need_log (nr_log l) (log_ok L.ok (Nat.le_trans L.ln (by decide))), need_log_err hn h, stm_err, fin_er]
theorem l_less2 (m : M) : fIso s_is_less_log [kindsD ks, logD l, d] m = .err ⟨"BadLog", [("log", d)]⟩ m := by
  refine iso_err (m1 := []) (noRefs_c (nr_kinds ks) (noRefs_c (nr_log l) (noRefs_c hn rfl))) ?_ (by show (match noRef d with | true => true | false => false) = true; rw [hn])
  unfold s_is_less_log
  rw [fn3]
  simp only [sSeq, sAsg, sIf, sSet, sRet, sNil, sExpr, sPar, tOrF, tAndF, tNotF, tVal, tYesF, eBin, eUn, eBlt, eTup, eLstS, eIf, eAnd, eOr, eNot, eChain, eSl, oNo, oSome, aCons, aNil, fVar, Zn.rget0, Zn.rgetS, eCon, gNm, wipeR, Zn.bind_ok, Zn.bind_err, Zn.stm_ok, Zn.fin_rt, Zn.fin_nx, List.set_cons_zero, List.set_cons_succ, if_true, decide_true, decide_false, Bool.false_eq_true, if_false, Bool.not_true, Bool.not_false, List.replicate_succ, List.replicate_zero, Nat.reduceSub, Zn.le0, Zn.le1, Zn.le2, Zn.le3, Zn.le4, Zn.le5, Zn.le6, Zn.le7, Zn.le8, Zn.le9, Zn.le10, Zn.le11, need_kinds K, need_log (nr_log l) (log_ok L.ok (Nat.le_trans L.ln (by decide))), need_log_err hn h, stm_err, fin_er]
end
def bads : List D := [.non, .int (-1), .bl true]
theorem fact8 : bads.all (fun b => isBl false (fIso s_is_count [b] []) && gdB b) = true := by decide +kernel
theorem bad_ok {d : D} (h : d ∈ bads) : (∀ m, fIso s_is_count [d] m = .ok (.bl false) m) ∧ ∃ s, Tx d s := by
  have q := all_mem fact8 h
  rw [Bool.and_eq_true] at q
  exact ⟨isBl_ok q.1, gd_tx (gdB_ok q.2)⟩
theorem n_logs {ks : List Kd} {d : D} (K : KOk ks) (hn : noRef d = true) (h : ∀ m, fIso s_is_count [d] m = .ok (.bl false) m) (m : M) : fIso s_logs_of_length [kindsD ks, d] m = .err ⟨"BadNumber", [("number", d), ("what", .str "n")]⟩ m := by
  have hf : noRefF [(("number" : Str), d), ("what", .str "n")] = true := by
    show (match noRef d with | true => true | false => false) = true
    rw [hn]
  have q : ∀ m, fIso s_need_count [.str "n", d] m = .err ⟨"BadNumber", [("number", d), ("what", .str "n")]⟩ m := fun m => by
    refine iso_err (m1 := []) (noRefs_c rfl (noRefs_c hn rfl)) ?_ hf
    unfold s_need_count
    rw [fn2]
    simp only [sSeq, sAsg, sIf, sSet, sRet, sNil, sExpr, sPar, tOrF, tAndF, tNotF, tVal, tYesF, eBin, eUn, eBlt, eTup, eLstS, eIf, eAnd, eOr, eNot, eChain, eSl, oNo, oSome, aCons, aNil, fVar, Zn.rget0, Zn.rgetS, eCon, gNm, wipeR, Zn.bind_ok, Zn.bind_err, Zn.stm_ok, Zn.fin_rt, Zn.fin_nx, List.set_cons_zero, List.set_cons_succ, if_true, decide_true, decide_false, Bool.false_eq_true, if_false, Bool.not_true, Bool.not_false, List.replicate_succ, List.replicate_zero, Nat.reduceSub, Zn.le0, Zn.le1, Zn.le2, Zn.le3, Zn.le4, Zn.le5, Zn.le6, Zn.le7, Zn.le8, Zn.le9, Zn.le10, Zn.le11, h, sRaise2, fin_er]
  refine iso_err (m1 := []) (noRefs_c (nr_kinds ks) (noRefs_c hn rfl)) ?_ hf
  unfold s_logs_of_length
  rw [fn2]
  simp only [sSeq, sAsg, sIf, sSet, sRet, sNil, sExpr, sPar, tOrF, tAndF, tNotF, tVal, tYesF, eBin, eUn, eBlt, eTup, eLstS, eIf, eAnd, eOr, eNot, eChain, eSl, oNo, oSome, aCons, aNil, fVar, Zn.rget0, Zn.rgetS, eCon, gNm, wipeR, Zn.bind_ok, Zn.bind_err, Zn.stm_ok, Zn.fin_rt, Zn.fin_nx, List.set_cons_zero, List.set_cons_succ, if_true, decide_true, decide_false, Bool.false_eq_true, if_false, Bool.not_true, Bool.not_false, List.replicate_succ, List.replicate_zero, Nat.reduceSub, Zn.le0, Zn.le1, Zn.le2, Zn.le3, Zn.le4, Zn.le5, Zn.le6, Zn.le7, Zn.le8, Zn.le9, Zn.le10, Zn.le11, need_kinds K, q, stm_err, fin_er]
end K01

namespace Zn
open PySem PySem.Spec L2 Z
theorem ln2 {x y : D} : (([x, y] : List D).length = 2) = True := eq_true rfl
theorem ln3 {x y z : D} : (([x, y, z] : List D).length = 3) = True := eq_true rfl
theorem ne_bl (b : Bool) (m : M) : oNe (.bl b) (.bl b) m = .ok (.bl false) m := ne_self (pl_bl b) (by decide) m
theorem flcC_any {i : Nat} {f fe : EF} {ρ : Rho} {m : M} {h : D → D} {ds : List D} (e : wAny fe ρ m = .ok (.list ds) m) (hl : ds.length ≤ 1000) (H : ∀ d ∈ ds, f ((ρ.set i none).set i (some d)) m = .ok (h d) m) : fLcC (wAny fe) [i] (gNm i) tYesF f ρ m = .ok (.ref m.length) (m ++ [.lst (ds.map h)]) := by
  unfold fLcC
  rw [e, bind_ok]
  show (match lcL (gNm i) tYesF f (ρ.set i none) ds m with
    | .ok xs m2 => match Nat.ble xs.length 16777216 with
      | true => (R.ok xs m2 : R (List D))
      | false => .bad
    | _ => .bad).bind _ = _
  rw [lcL_map H]
  dsimp only
  rw [show Nat.ble (ds.map h).length 16777216 = true from Nat.ble_eq_true_of_le (by rw [List.length_map]; omega)]
  rfl
theorem add_cell {m : M} {a : Nat} {xs ys : List D} (h : m[a]? = some (.lst xs)) (hl : xs.length + ys.length ≤ 1000) : oAdd (.ref a) (.sl ys) m = .ok (.ref m.length) (m ++ [.lst (xs ++ ys)]) := by
  show (match m[a]?, lstOf m (.sl ys) with
    | some (.lst xs), some ys => if xs.length + ys.length ≤ line then R.ok (D.ref m.length) (m ++ [Cell.lst (xs ++ ys)]) else .bad
    | _, _ => .bad) = _
  rw [h]
  show (if xs.length + ys.length ≤ line then R.ok (D.ref m.length) (m ++ [Cell.lst (xs ++ ys)]) else .bad) = _
  rw [if_pos (by rw [lineN]; omega)]
theorem app_get (m : M) (c : Cell) : (m ++ [c])[m.length]? = some c := by
  rw [List.getElem?_append_right (Nat.le_refl _), Nat.sub_self]
  rfl
end Zn
namespace K01
open PySem PySem.Spec L2 Z Zn
def b7_1 : SF := (sSet 4 (eBlt s__law_kinds (aCons (fVar 1) aNil)))
def b7_2 : SF := (sAsg (eTup (aCons (eBlt s__law_log (aCons (fVar 1) (aCons (fVar 4) (aCons (eCon (.int 8)) (aCons (eCon (.int 5)) aNil))))) (aCons (eBlt s__law_log (aCons (fVar 1) (aCons (fVar 4) (aCons (eCon (.int 8)) (aCons (eCon (.int 5)) aNil))))) aNil))) (gTp 2 (gsCons (gNm 5) (gsCons (gNm 6) gsNil))))
def b7_3 : SF := (sIf (tOrF (tVal (eBin oNe (eLstS (aCons (eBlt (fIso s_are_kinds) (aCons (fVar 4) aNil)) (aCons (eBlt (fIso s_is_log) (aCons (fVar 4) (aCons (fVar 5) aNil))) aNil))) (eLstS (aCons (eCon (.bl true)) (aCons (eCon (.bl true)) aNil))))) (tVal (eBin oNe (eBlt (fIso s_plain_log) (aCons (fVar 4) (aCons (fVar 5) aNil))) (eBlt (fIso s__law_plain) (aCons (fVar 5) aNil))))) (sRet (eCon (.bl false))) sNil)
def b7_4 : SF := (sSet 7 (eBlt bTupleA (aCons (fLc (wAny (fVar 5)) [10] (gNm 10) tYesF s_law_e1) aNil)))
def b7_5 : SF := (sIf (tVal (eBin oNotN (eBlt (fIso s_are_alike) (aCons (fVar 4) (aCons (fVar 5) (aCons (fVar 7) aNil)))) (eCon (.bl true)))) (sRet (eCon (.bl false))) sNil)
def b7_6 : SF := (sIf (tVal (eBin oNe (eBlt (fIso s_are_alike) (aCons (fVar 4) (aCons (fVar 5) (aCons (fVar 6) aNil)))) (eBin oEq (eBlt (fIso s__law_plain) (aCons (fVar 5) aNil)) (eBlt (fIso s__law_plain) (aCons (fVar 6) aNil))))) (sRet (eCon (.bl false))) sNil)
def b7_7 : SF := (sSet 8 (eOr (eBin oLt (eBlt bLen (aCons (fVar 5) aNil)) (eBlt bLen (aCons (fVar 6) aNil))) (eAnd (eBin oEq (eBlt bLen (aCons (fVar 5) aNil)) (eBlt bLen (aCons (fVar 6) aNil))) (eBin oLt (fVar 5) (fVar 6)))))
def b7_8 : SF := (sIf (tOrF (tVal (eBin oNe (eBlt (fIso s_is_less_log) (aCons (fVar 4) (aCons (fVar 5) (aCons (fVar 6) aNil)))) (fVar 8))) (tVal (eBin oNotN (eBlt (fIso s_is_less_log) (aCons (fVar 4) (aCons (fVar 5) (aCons (fVar 5) aNil)))) (eCon (.bl false))))) (sRet (eCon (.bl false))) sNil)
def b7_9 : SF := (sSet 9 (eLst aNil))
def b7_10 : SF := (fFor (wAny (fVar 5)) (gNm 10) s_law_b2)
def b7_11 : SF := (sIf (tVal (eBin oNe (eBlt (fIso s_names_in) (aCons (fVar 4) (aCons (fVar 5) aNil))) (eBlt bTupleA (aCons (fVar 9) aNil)))) (sRet (eCon (.bl false))) sNil)
def b7_12 : SF := (sSet 11 (eBlt s__law_draw (aCons (fVar 1) (aCons (eCon (.int 4)) aNil))))
def b7_13 : SF := (sIf (tVal (eBin oNe (eBlt (fIso s_logs_of_length) (aCons (fVar 4) (aCons (fVar 11) aNil))) (eBlt (fIso s__law_all) (aCons (fVar 4) (aCons (fVar 11) aNil))))) (sRet (eCon (.bl false))) sNil)
def b7_14 : SF := (sAsg (eTup (aCons (eBlt s__law_wrong_kinds (aCons (fVar 1) (aCons (fVar 4) aNil))) (aCons (eBlt s__law_wrong_log (aCons (fVar 1) (aCons (fVar 4) (aCons (fVar 5) aNil)))) (aCons (eBlt s__law_pick (aCons (fVar 1) (aCons (eLstS (aCons (eCon .non) (aCons (eUn oNeg (eCon (.int 1))) (aCons (eCon (.bl true)) aNil)))) aNil))) aNil)))) (gTp 3 (gsCons (gNm 12) (gsCons (gNm 13) (gsCons (gNm 14) gsNil)))))
def b7_15 : SF := (sIf (tVal (eBin oNe (eLstS (aCons (eBlt (fIso s_are_kinds) (aCons (fVar 12) aNil)) (aCons (eBlt (fIso s_is_log) (aCons (fVar 4) (aCons (fVar 13) aNil))) aNil))) (eLstS (aCons (eCon (.bl false)) (aCons (eCon (.bl false)) aNil))))) (sRet (eCon (.bl false))) sNil)
def b7_16 : SF := (sSet 15 (fLcC (wAny (eLstS (aCons (eCon (.glo "is_log")) (aCons (eCon (.glo "plain_log")) (aCons (eCon (.glo "names_in")) (aCons (eCon (.glo "logs_of_length")) aNil)))))) [16] (gNm 16) tYesF s_law_e3))
def b7_17 : SF := (sSet 15 (eBin oAdd (fVar 15) (fLc (wAny (eLstS (aCons (eCon (.glo "are_alike")) (aCons (eCon (.glo "is_less_log")) aNil)))) [16] (gNm 16) tYesF s_law_e4)))
def b7_18 : SF := (sSet 15 (eBin oAdd (fVar 15) (fLc (wAny (eLstS (aCons (eCon (.glo "plain_log")) (aCons (eCon (.glo "names_in")) aNil)))) [16] (gNm 16) tYesF s_law_e5)))
def b7_19 : SF := (fFor (wAny (eLstS (aCons (eCon (.glo "are_alike")) (aCons (eCon (.glo "is_less_log")) aNil)))) (gNm 16) s_law_b6)
def b7_20 : SF := (sExpr (eMethL mAppend (fVar 15) (aCons (eRef 2 1 hs__law_refused (eBlt (fIso s_logs_of_length) (aCons (fVar 4) (aCons (fVar 14) aNil)))) aNil)))
def b7_21 : SF := (sIf (tVal (eBin oNe (fVar 15) (eBin oAddU (eBin oAddU (eBin oMul (eLstS (aCons (eTup (aCons (eCon (.str "kinds")) (aCons (eBlt bRepr (aCons (fVar 12) aNil)) aNil))) aNil)) (eCon (.int 6))) (eBin oMul (eLstS (aCons (eTup (aCons (eCon (.str "log")) (aCons (eBlt bRepr (aCons (fVar 13) aNil)) aNil))) aNil)) (eCon (.int 6)))) (eLstS (aCons (eTup (aCons (eCon (.str "n")) (aCons (eBlt bRepr (aCons (fVar 14) aNil)) aNil))) aNil))))) (sRet (eCon (.bl false))) sNil)
theorem b7_eq : s_law_b7 = (sSeq b7_1 (sSeq b7_2 (sSeq b7_3 (sSeq b7_4 (sSeq b7_5 (sSeq b7_6 (sSeq b7_7 (sSeq b7_8 (sSeq b7_9 (sSeq b7_10 (sSeq b7_11 (sSeq b7_12 (sSeq b7_13 (sSeq b7_14 (sSeq b7_15 (sSeq b7_16 (sSeq b7_17 (sSeq b7_18 (sSeq b7_19 (sSeq b7_20 b7_21)))))))))))))))))))) := rfl

theorem lk1 : tab_law.lookup ("is_log" : Str) = some (fIso s_is_log) := by rfl
theorem lk2 : tab_law.lookup ("plain_log" : Str) = some (fIso s_plain_log) := by rfl
theorem lk3 : tab_law.lookup ("names_in" : Str) = some (fIso s_names_in) := by rfl
theorem lk4 : tab_law.lookup ("logs_of_length" : Str) = some (fIso s_logs_of_length) := by rfl
theorem lk5 : tab_law.lookup ("are_alike" : Str) = some (fIso s_are_alike) := by rfl
theorem lk6 : tab_law.lookup ("is_less_log" : Str) = some (fIso s_is_less_log) := by rfl
abbrev kT (s : Str) : D := .tup [.str "kinds", .str s]
abbrev lT (s : Str) : D := .tup [.str "log", .str s]
abbrev nT (s : Str) : D := .tup [.str "n", .str s]
section
variable {x0 x2 x3 x4 x5 x6 x7 x8 x9 x10 x11 x12 x13 x14 x15 x16 x17 : Option D} {c : Cell} {t m : M} {ks : List Kd} {l o : List Ev}
abbrev x1 : Option D := some (.ref 0)
theorem st1 {ks : List Kd} {c' : Cell} {t' : M} (e : s__law_kinds [.ref 0] (c :: t) = .ok (kindsD ks) (c' :: t')) : b7_1 [x0, x1, x2, x3, x4, x5, x6, x7, x8, x9, x10, x11, x12, x13, x14, x15, x16, x17] (c :: t) = some (.nx [x0, x1, x2, x3, some (kindsD ks), x5, x6, x7, x8, x9, x10, x11, x12, x13, x14, x15, x16, x17], c' :: t') := by
  unfold b7_1
  simp only [sSeq, sAsg, sIf, sSet, sRet, sNil, sExpr, sPar, tOrF, tAndF, tNotF, tVal, tYesF, eBin, eUn, eBlt, eTup, eLstS, eIf, eAnd, eOr, eNot, eChain, eSl, oNo, oSome, aCons, aNil, fVar, Zn.rget0, Zn.rgetS, eCon, gNm, wipeR, Zn.bind_ok, Zn.bind_err, Zn.stm_ok, Zn.fin_rt, Zn.fin_nx, List.set_cons_zero, List.set_cons_succ, if_true, decide_true, decide_false, Bool.false_eq_true, if_false, Bool.not_true, Bool.not_false, List.replicate_succ, List.replicate_zero, Nat.reduceSub, Zn.le0, Zn.le1, Zn.le2, Zn.le3, Zn.le4, Zn.le5, Zn.le6, Zn.le7, Zn.le8, Zn.le9, Zn.le10, Zn.le11, e]
theorem st2 {c1 c2 : Cell} (e1 : s__law_log [.ref 0, kindsD ks, .int 8, .int 5] (c :: t) = .ok (logD l) (c1 :: t)) (e2 : s__law_log [.ref 0, kindsD ks, .int 8, .int 5] (c1 :: t) = .ok (logD o) (c2 :: t)) :
    b7_2 [x0, x1, x2, x3, some (kindsD ks), x5, x6, x7, x8, x9, x10, x11, x12, x13, x14, x15, x16, x17] (c :: t) = some (.nx [x0, x1, x2, x3, some (kindsD ks), some (logD l), some (logD o), x7, x8, x9, x10, x11, x12, x13, x14, x15, x16, x17], c2 :: t) := by
  unfold b7_2
  simp only [sSeq, sAsg, sIf, sSet, sRet, sNil, sExpr, sPar, tOrF, tAndF, tNotF, tVal, tYesF, eBin, eUn, eBlt, eTup, eLstS, eIf, eAnd, eOr, eNot, eChain, eSl, oNo, oSome, aCons, aNil, fVar, Zn.rget0, Zn.rgetS, eCon, gNm, wipeR, Zn.bind_ok, Zn.bind_err, Zn.stm_ok, Zn.fin_rt, Zn.fin_nx, List.set_cons_zero, List.set_cons_succ, if_true, decide_true, decide_false, Bool.false_eq_true, if_false, Bool.not_true, Bool.not_false, List.replicate_succ, List.replicate_zero, Nat.reduceSub, Zn.le0, Zn.le1, Zn.le2, Zn.le3, Zn.le4, Zn.le5, Zn.le6, Zn.le7, Zn.le8, Zn.le9, Zn.le10, Zn.le11, e1, e2, gTp, gsCons, gsNil, Option.bind_some, ln2]
variable (K : KsOk ks) (L : LogOk ks l) (O : LogOk ks o)
include K L
theorem st3 : b7_3 [x0, x1, x2, x3, some (kindsD ks), some (logD l), x6, x7, x8, x9, x10, x11, x12, x13, x14, x15, x16, x17] m = some (.nx [x0, x1, x2, x3, some (kindsD ks), some (logD l), x6, x7, x8, x9, x10, x11, x12, x13, x14, x15, x16, x17], m) := by
  have h1 : l.length ≤ 100 := Nat.le_trans L.ln (by decide)
  have h2 : ∀ m : M, oNe (.sl [.bl true, .bl true]) (.sl [.bl true, .bl true]) m = .ok (.bl false) m := fun _ => rfl
  unfold b7_3
  simp only [sSeq, sAsg, sIf, sSet, sRet, sNil, sExpr, sPar, tOrF, tAndF, tNotF, tVal, tYesF, eBin, eUn, eBlt, eTup, eLstS, eIf, eAnd, eOr, eNot, eChain, eSl, oNo, oSome, aCons, aNil, fVar, Zn.rget0, Zn.rgetS, eCon, gNm, wipeR, Zn.bind_ok, Zn.bind_err, Zn.stm_ok, Zn.fin_rt, Zn.fin_nx, List.set_cons_zero, List.set_cons_succ, if_true, decide_true, decide_false, Bool.false_eq_true, if_false, Bool.not_true, Bool.not_false, List.replicate_succ, List.replicate_zero, Nat.reduceSub, Zn.le0, Zn.le1, Zn.le2, Zn.le3, Zn.le4, Zn.le5, Zn.le6, Zn.le7, Zn.le8, Zn.le9, Zn.le10, Zn.le11, K.are.are, is_log_eq K.are (nr_log l) (log_ok L.ok (Nat.le_trans L.ln (by decide))), h2, plain_log_ok K.are L.ok h1, law_plain_ok l h1, ne_self (pl_log (plainL [] l)) (by decide)]
theorem nm9 : ∀ e ∈ l, ∀ n, e.2 = some n → n ≤ 9 := fun e he n hn => by have := L.nm e he n hn; omega
theorem st4 : b7_4 [x0, x1, x2, x3, some (kindsD ks), some (logD l), x6, x7, x8, x9, x10, x11, x12, x13, x14, x15, x16, x17] m = some (.nx [x0, x1, x2, x3, some (kindsD ks), some (logD l), x6, some (logD (l.map turnE)), x8, x9, x10, x11, x12, x13, x14, x15, x16, x17], m) := by
  have h1 : ∀ m : M, bTupleA [.sl ((l.map turnE).map evD)] m = .ok (logD (l.map turnE)) m := fun _ => rfl
  unfold b7_4
  simp only [sSeq, sAsg, sIf, sSet, sRet, sNil, sExpr, sPar, tOrF, tAndF, tNotF, tVal, tYesF, eBin, eUn, eBlt, eTup, eLstS, eIf, eAnd, eOr, eNot, eChain, eSl, oNo, oSome, aCons, aNil, fVar, Zn.rget0, Zn.rgetS, eCon, gNm, wipeR, Zn.bind_ok, Zn.bind_err, Zn.stm_ok, Zn.fin_rt, Zn.fin_nx, List.set_cons_zero, List.set_cons_succ, if_true, decide_true, decide_false, Bool.false_eq_true, if_false, Bool.not_true, Bool.not_false, List.replicate_succ, List.replicate_zero, Nat.reduceSub, Zn.le0, Zn.le1, Zn.le2, Zn.le3, Zn.le4, Zn.le5, Zn.le6, Zn.le7, Zn.le8, Zn.le9, Zn.le10, Zn.le11, turned_ok (Nat.le_trans L.ln (by decide)) (nm9 K L), h1]
theorem st5 : b7_5 [x0, x1, x2, x3, some (kindsD ks), some (logD l), x6, some (logD (l.map turnE)), x8, x9, x10, x11, x12, x13, x14, x15, x16, x17] m = some (.nx [x0, x1, x2, x3, some (kindsD ks), some (logD l), x6, some (logD (l.map turnE)), x8, x9, x10, x11, x12, x13, x14, x15, x16, x17], m) := by
  have h1 : l.length ≤ 100 := Nat.le_trans L.ln (by decide)
  have h2 : ∀ e ∈ l.map turnE, okE ks e := fun e he => by
    obtain ⟨e', h', rfl⟩ := List.mem_map.mp he
    exact turn_okE (L.ok e' h')
  have h3 : ∀ m : M, oNotN (.bl true) (.bl true) m = .ok (.bl false) m := fun _ => rfl
  have h4 := alike_ok K.are L.ok h1 h2 (by rw [List.length_map]; exact h1)
  rw [turn_plain (nm9 K L), PySem.SeqAt.eqv_refl _ (pl_log (plainL [] l)).lay] at h4
  unfold b7_5
  simp only [sSeq, sAsg, sIf, sSet, sRet, sNil, sExpr, sPar, tOrF, tAndF, tNotF, tVal, tYesF, eBin, eUn, eBlt, eTup, eLstS, eIf, eAnd, eOr, eNot, eChain, eSl, oNo, oSome, aCons, aNil, fVar, Zn.rget0, Zn.rgetS, eCon, gNm, wipeR, Zn.bind_ok, Zn.bind_err, Zn.stm_ok, Zn.fin_rt, Zn.fin_nx, List.set_cons_zero, List.set_cons_succ, if_true, decide_true, decide_false, Bool.false_eq_true, if_false, Bool.not_true, Bool.not_false, List.replicate_succ, List.replicate_zero, Nat.reduceSub, Zn.le0, Zn.le1, Zn.le2, Zn.le3, Zn.le4, Zn.le5, Zn.le6, Zn.le7, Zn.le8, Zn.le9, Zn.le10, Zn.le11, h4, h3]
include O
theorem st6 : b7_6 [x0, x1, x2, x3, some (kindsD ks), some (logD l), some (logD o), x7, x8, x9, x10, x11, x12, x13, x14, x15, x16, x17] m = some (.nx [x0, x1, x2, x3, some (kindsD ks), some (logD l), some (logD o), x7, x8, x9, x10, x11, x12, x13, x14, x15, x16, x17], m) := by
  have h1 : l.length ≤ 100 := Nat.le_trans L.ln (by decide)
  have h2 : o.length ≤ 100 := Nat.le_trans O.ln (by decide)
  unfold b7_6
  simp only [sSeq, sAsg, sIf, sSet, sRet, sNil, sExpr, sPar, tOrF, tAndF, tNotF, tVal, tYesF, eBin, eUn, eBlt, eTup, eLstS, eIf, eAnd, eOr, eNot, eChain, eSl, oNo, oSome, aCons, aNil, fVar, Zn.rget0, Zn.rgetS, eCon, gNm, wipeR, Zn.bind_ok, Zn.bind_err, Zn.stm_ok, Zn.fin_rt, Zn.fin_nx, List.set_cons_zero, List.set_cons_succ, if_true, decide_true, decide_false, Bool.false_eq_true, if_false, Bool.not_true, Bool.not_false, List.replicate_succ, List.replicate_zero, Nat.reduceSub, Zn.le0, Zn.le1, Zn.le2, Zn.le3, Zn.le4, Zn.le5, Zn.le6, Zn.le7, Zn.le8, Zn.le9, Zn.le10, Zn.le11, alike_ok K.are L.ok h1 O.ok h2, law_plain_ok l h1, law_plain_ok o h2, eq_pl (pl_log (plainL [] l)) (pl_log (plainL [] o)) (by decide) (by decide), ne_bl]
theorem st7 : b7_7 [x0, x1, x2, x3, some (kindsD ks), some (logD l), some (logD o), x7, x8, x9, x10, x11, x12, x13, x14, x15, x16, x17] m = some (.nx [x0, x1, x2, x3, some (kindsD ks), some (logD l), some (logD o), x7, some (.bl (lessB l o)), x9, x10, x11, x12, x13, x14, x15, x16, x17], m) := by
  have hl : ∀ (l : List Ev) (m : M), bLen [.tup (l.map evD)] m = .ok (.int (l.length : Nat)) m := fun l m => by rw [len_tup, List.length_map]
  have ho : ∀ m : M, oLt (.tup (l.map evD)) (.tup (o.map evD)) m = .ok (.bl (PySem.W.dataLt (logP l) (logP o))) m := fun m => ord_pl (pl_log l) (pl_log o) (by decide) (by decide) (alike_log l o) rfl m
  unfold b7_7 lessB
  by_cases h : l.length < o.length
  · have q : ((l.length : Int) < (o.length : Int)) = True := eq_true (by omega)
    have q2 : (l.length < o.length) = True := eq_true h
    simp only [sSeq, sAsg, sIf, sSet, sRet, sNil, sExpr, sPar, tOrF, tAndF, tNotF, tVal, tYesF, eBin, eUn, eBlt, eTup, eLstS, eIf, eAnd, eOr, eNot, eChain, eSl, oNo, oSome, aCons, aNil, fVar, Zn.rget0, Zn.rgetS, eCon, gNm, wipeR, Zn.bind_ok, Zn.bind_err, Zn.stm_ok, Zn.fin_rt, Zn.fin_nx, List.set_cons_zero, List.set_cons_succ, if_true, decide_true, decide_false, Bool.false_eq_true, if_false, Bool.not_true, Bool.not_false, List.replicate_succ, List.replicate_zero, Nat.reduceSub, Zn.le0, Zn.le1, Zn.le2, Zn.le3, Zn.le4, Zn.le5, Zn.le6, Zn.le7, Zn.le8, Zn.le9, Zn.le10, Zn.le11, hl, lt_int, q, q2]
  · have q : ((l.length : Int) < (o.length : Int)) = False := eq_false (by omega)
    have q2 : (l.length < o.length) = False := eq_false h
    by_cases h2 : l.length = o.length
    · have q3 : ((l.length : Int) = (o.length : Int)) = True := eq_true (by omega)
      have q4 : (l.length = o.length) = True := eq_true h2
      simp only [sSeq, sAsg, sIf, sSet, sRet, sNil, sExpr, sPar, tOrF, tAndF, tNotF, tVal, tYesF, eBin, eUn, eBlt, eTup, eLstS, eIf, eAnd, eOr, eNot, eChain, eSl, oNo, oSome, aCons, aNil, fVar, Zn.rget0, Zn.rgetS, eCon, gNm, wipeR, Zn.bind_ok, Zn.bind_err, Zn.stm_ok, Zn.fin_rt, Zn.fin_nx, List.set_cons_zero, List.set_cons_succ, if_true, decide_true, decide_false, Bool.false_eq_true, if_false, Bool.not_true, Bool.not_false, List.replicate_succ, List.replicate_zero, Nat.reduceSub, Zn.le0, Zn.le1, Zn.le2, Zn.le3, Zn.le4, Zn.le5, Zn.le6, Zn.le7, Zn.le8, Zn.le9, Zn.le10, Zn.le11, hl, lt_int, q, q2, eq_int, q3, q4, ho]
    · have q3 : ((l.length : Int) = (o.length : Int)) = False := eq_false (by omega)
      have q4 : (l.length = o.length) = False := eq_false h2
      simp only [sSeq, sAsg, sIf, sSet, sRet, sNil, sExpr, sPar, tOrF, tAndF, tNotF, tVal, tYesF, eBin, eUn, eBlt, eTup, eLstS, eIf, eAnd, eOr, eNot, eChain, eSl, oNo, oSome, aCons, aNil, fVar, Zn.rget0, Zn.rgetS, eCon, gNm, wipeR, Zn.bind_ok, Zn.bind_err, Zn.stm_ok, Zn.fin_rt, Zn.fin_nx, List.set_cons_zero, List.set_cons_succ, if_true, decide_true, decide_false, Bool.false_eq_true, if_false, Bool.not_true, Bool.not_false, List.replicate_succ, List.replicate_zero, Nat.reduceSub, Zn.le0, Zn.le1, Zn.le2, Zn.le3, Zn.le4, Zn.le5, Zn.le6, Zn.le7, Zn.le8, Zn.le9, Zn.le10, Zn.le11, hl, lt_int, q, q2, eq_int, q3, q4]
theorem st8 : b7_8 [x0, x1, x2, x3, some (kindsD ks), some (logD l), some (logD o), x7, some (.bl (lessB l o)), x9, x10, x11, x12, x13, x14, x15, x16, x17] m = some (.nx [x0, x1, x2, x3, some (kindsD ks), some (logD l), some (logD o), x7, some (.bl (lessB l o)), x9, x10, x11, x12, x13, x14, x15, x16, x17], m) := by
  have h1 : l.length ≤ 100 := Nat.le_trans L.ln (by decide)
  have h2 : o.length ≤ 100 := Nat.le_trans O.ln (by decide)
  have h3 : ∀ m : M, oNotN (.bl false) (.bl false) m = .ok (.bl false) m := fun _ => rfl
  have h4 := less_log_ok K.are L.ok h1 L.ok h1
  rw [less_self] at h4
  unfold b7_8
  simp only [sSeq, sAsg, sIf, sSet, sRet, sNil, sExpr, sPar, tOrF, tAndF, tNotF, tVal, tYesF, eBin, eUn, eBlt, eTup, eLstS, eIf, eAnd, eOr, eNot, eChain, eSl, oNo, oSome, aCons, aNil, fVar, Zn.rget0, Zn.rgetS, eCon, gNm, wipeR, Zn.bind_ok, Zn.bind_err, Zn.stm_ok, Zn.fin_rt, Zn.fin_nx, List.set_cons_zero, List.set_cons_succ, if_true, decide_true, decide_false, Bool.false_eq_true, if_false, Bool.not_true, Bool.not_false, List.replicate_succ, List.replicate_zero, Nat.reduceSub, Zn.le0, Zn.le1, Zn.le2, Zn.le3, Zn.le4, Zn.le5, Zn.le6, Zn.le7, Zn.le8, Zn.le9, Zn.le10, Zn.le11, less_log_ok K.are L.ok h1 O.ok h2, ne_bl, h4, h3]
omit K L O
theorem st9 : b7_9 [x0, x1, x2, x3, x4, x5, x6, x7, x8, x9, x10, x11, x12, x13, x14, x15, x16, x17] m = some (.nx [x0, x1, x2, x3, x4, x5, x6, x7, x8, some (.ref m.length), x10, x11, x12, x13, x14, x15, x16, x17], m ++ [.lst []]) := by
  have e2 : ∀ (ρ : Rho) (m : M), eLst aNil ρ m = .ok (.ref m.length) (m ++ [.lst []]) := fun _ _ => rfl
  unfold b7_9
  simp only [sSeq, sAsg, sIf, sSet, sRet, sNil, sExpr, sPar, tOrF, tAndF, tNotF, tVal, tYesF, eBin, eUn, eBlt, eTup, eLstS, eIf, eAnd, eOr, eNot, eChain, eSl, oNo, oSome, aCons, aNil, fVar, Zn.rget0, Zn.rgetS, eCon, gNm, wipeR, Zn.bind_ok, Zn.bind_err, Zn.stm_ok, Zn.fin_rt, Zn.fin_nx, List.set_cons_zero, List.set_cons_succ, if_true, decide_true, decide_false, Bool.false_eq_true, if_false, Bool.not_true, Bool.not_false, List.replicate_succ, List.replicate_zero, Nat.reduceSub, Zn.le0, Zn.le1, Zn.le2, Zn.le3, Zn.le4, Zn.le5, Zn.le6, Zn.le7, Zn.le8, Zn.le9, Zn.le10, Zn.le11, e2]
theorem st10 {a : Nat} (h : m[a]? = some (.lst [])) (hl : l.length ≤ 100) : ∃ x10', b7_10 [x0, x1, x2, x3, x4, some (logD l), x6, x7, x8, some (.ref a), x10, x11, x12, x13, x14, x15, x16, x17] m = some (.nx [x0, x1, x2, x3, x4, some (logD l), x6, x7, x8, some (.ref a), x10', x11, x12, x13, x14, x15, x16, x17], m.set a (.lst ((namesL [] l).map fun n => .int (n : Nat)))) :=
  law_names l [] x10 m (List.getElem?_eq_some_iff.mp h).1 h (by rw [List.length_nil]; omega)
include K L
theorem st11 {a : Nat} (h : m[a]? = some (.lst ((namesL [] l).map fun n => .int (n : Nat)))) : b7_11 [x0, x1, x2, x3, some (kindsD ks), some (logD l), x6, x7, x8, some (.ref a), x10, x11, x12, x13, x14, x15, x16, x17] m = some (.nx [x0, x1, x2, x3, some (kindsD ks), some (logD l), x6, x7, x8, some (.ref a), x10, x11, x12, x13, x14, x15, x16, x17], m) := by
  have h1 : l.length ≤ 100 := Nat.le_trans L.ln (by decide)
  have hp : Pl 1 (.tup ((namesL [] l).map fun n => .int (n : Nat))) (.tuple ((namesL [] l).map fun n => .int (n : Nat))) := pl_tup (Pls.map (fun n => pl_int _) _)
  unfold b7_11
  simp only [sSeq, sAsg, sIf, sSet, sRet, sNil, sExpr, sPar, tOrF, tAndF, tNotF, tVal, tYesF, eBin, eUn, eBlt, eTup, eLstS, eIf, eAnd, eOr, eNot, eChain, eSl, oNo, oSome, aCons, aNil, fVar, Zn.rget0, Zn.rgetS, eCon, gNm, wipeR, Zn.bind_ok, Zn.bind_err, Zn.stm_ok, Zn.fin_rt, Zn.fin_nx, List.set_cons_zero, List.set_cons_succ, if_true, decide_true, decide_false, Bool.false_eq_true, if_false, Bool.not_true, Bool.not_false, List.replicate_succ, List.replicate_zero, Nat.reduceSub, Zn.le0, Zn.le1, Zn.le2, Zn.le3, Zn.le4, Zn.le5, Zn.le6, Zn.le7, Zn.le8, Zn.le9, Zn.le10, Zn.le11, names_ok K.are L.ok h1, tup_lst h, ne_self hp (by decide)]
omit K L
theorem st12 {r : Int} {c' : Cell} (e : s__law_draw [.ref 0, .int 4] (c :: t) = .ok (.int r) (c' :: t)) : b7_12 [x0, x1, x2, x3, x4, x5, x6, x7, x8, x9, x10, x11, x12, x13, x14, x15, x16, x17] (c :: t) = some (.nx [x0, x1, x2, x3, x4, x5, x6, x7, x8, x9, x10, some (.int r), x12, x13, x14, x15, x16, x17], c' :: t) := by
  unfold b7_12
  simp only [sSeq, sAsg, sIf, sSet, sRet, sNil, sExpr, sPar, tOrF, tAndF, tNotF, tVal, tYesF, eBin, eUn, eBlt, eTup, eLstS, eIf, eAnd, eOr, eNot, eChain, eSl, oNo, oSome, aCons, aNil, fVar, Zn.rget0, Zn.rgetS, eCon, gNm, wipeR, Zn.bind_ok, Zn.bind_err, Zn.stm_ok, Zn.fin_rt, Zn.fin_nx, List.set_cons_zero, List.set_cons_succ, if_true, decide_true, decide_false, Bool.false_eq_true, if_false, Bool.not_true, Bool.not_false, List.replicate_succ, List.replicate_zero, Nat.reduceSub, Zn.le0, Zn.le1, Zn.le2, Zn.le3, Zn.le4, Zn.le5, Zn.le6, Zn.le7, Zn.le8, Zn.le9, Zn.le10, Zn.le11, e]
theorem st13 (h : ks ∈ allK) {r : Int} (h0 : 0 ≤ r) (h1 : r < 4) : b7_13 [x0, x1, x2, x3, some (kindsD ks), x5, x6, x7, x8, x9, x10, some (.int r), x12, x13, x14, x15, x16, x17] m = some (.nx [x0, x1, x2, x3, some (kindsD ks), x5, x6, x7, x8, x9, x10, some (.int r), x12, x13, x14, x15, x16, x17], m) := by
  obtain ⟨a, b, e1, e2, e3⟩ := len_same h h0 h1
  unfold b7_13
  simp only [sSeq, sAsg, sIf, sSet, sRet, sNil, sExpr, sPar, tOrF, tAndF, tNotF, tVal, tYesF, eBin, eUn, eBlt, eTup, eLstS, eIf, eAnd, eOr, eNot, eChain, eSl, oNo, oSome, aCons, aNil, fVar, Zn.rget0, Zn.rgetS, eCon, gNm, wipeR, Zn.bind_ok, Zn.bind_err, Zn.stm_ok, Zn.fin_rt, Zn.fin_nx, List.set_cons_zero, List.set_cons_succ, if_true, decide_true, decide_false, Bool.false_eq_true, if_false, Bool.not_true, Bool.not_false, List.replicate_succ, List.replicate_zero, Nat.reduceSub, Zn.le0, Zn.le1, Zn.le2, Zn.le3, Zn.le4, Zn.le5, Zn.le6, Zn.le7, Zn.le8, Zn.le9, Zn.le10, Zn.le11, e1, e2, e3]
theorem st14 {c1 c2 c3 : Cell} {d1 d2 d3 : D} (e1 : s__law_wrong_kinds [.ref 0, kindsD ks] (c :: t) = .ok d1 (c1 :: t)) (e2 : s__law_wrong_log [.ref 0, kindsD ks, logD l] (c1 :: t) = .ok d2 (c2 :: t)) (e3 : s__law_pick [.ref 0, .sl bads] (c2 :: t) = .ok d3 (c3 :: t)) :
    b7_14 [x0, x1, x2, x3, some (kindsD ks), some (logD l), x6, x7, x8, x9, x10, x11, x12, x13, x14, x15, x16, x17] (c :: t) = some (.nx [x0, x1, x2, x3, some (kindsD ks), some (logD l), x6, x7, x8, x9, x10, x11, some d1, some d2, some d3, x15, x16, x17], c3 :: t) := by
  unfold bads at e3
  unfold b7_14
  simp only [sSeq, sAsg, sIf, sSet, sRet, sNil, sExpr, sPar, tOrF, tAndF, tNotF, tVal, tYesF, eBin, eUn, eBlt, eTup, eLstS, eIf, eAnd, eOr, eNot, eChain, eSl, oNo, oSome, aCons, aNil, fVar, Zn.rget0, Zn.rgetS, eCon, gNm, wipeR, Zn.bind_ok, Zn.bind_err, Zn.stm_ok, Zn.fin_rt, Zn.fin_nx, List.set_cons_zero, List.set_cons_succ, if_true, decide_true, decide_false, Bool.false_eq_true, if_false, Bool.not_true, Bool.not_false, List.replicate_succ, List.replicate_zero, Nat.reduceSub, Zn.le0, Zn.le1, Zn.le2, Zn.le3, Zn.le4, Zn.le5, Zn.le6, Zn.le7, Zn.le8, Zn.le9, Zn.le10, Zn.le11, e1, e2, neg_int, e3, gTp, gsCons, gsNil, Option.bind_some, ln3]
section
variable {d1 d2 d3 : D} {s1 s2 s3 : Str} (T1 : Tx d1 s1) (T2 : Tx d2 s2) (T3 : Tx d3 s3) (h1 : ∀ m, fIso s_are_kinds [d1] m = .ok (.bl false) m) (h2 : ∀ m, fIso s_is_log_in [kindsD ks, d2] m = .ok (.bl false) m) (h3 : ∀ m, fIso s_is_count [d3] m = .ok (.bl false) m)
include K T1 T2 h1 h2
theorem st15 : b7_15 [x0, x1, x2, x3, some (kindsD ks), x5, x6, x7, x8, x9, x10, x11, some d1, some d2, x14, x15, x16, x17] m = some (.nx [x0, x1, x2, x3, some (kindsD ks), x5, x6, x7, x8, x9, x10, x11, some d1, some d2, x14, x15, x16, x17], m) := by
  have q : ∀ m : M, oNe (.sl [.bl false, .bl false]) (.sl [.bl false, .bl false]) m = .ok (.bl false) m := fun _ => rfl
  unfold b7_15
  simp only [sSeq, sAsg, sIf, sSet, sRet, sNil, sExpr, sPar, tOrF, tAndF, tNotF, tVal, tYesF, eBin, eUn, eBlt, eTup, eLstS, eIf, eAnd, eOr, eNot, eChain, eSl, oNo, oSome, aCons, aNil, fVar, Zn.rget0, Zn.rgetS, eCon, gNm, wipeR, Zn.bind_ok, Zn.bind_err, Zn.stm_ok, Zn.fin_rt, Zn.fin_nx, List.set_cons_zero, List.set_cons_succ, if_true, decide_true, decide_false, Bool.false_eq_true, if_false, Bool.not_true, Bool.not_false, List.replicate_succ, List.replicate_zero, Nat.reduceSub, Zn.le0, Zn.le1, Zn.le2, Zn.le3, Zn.le4, Zn.le5, Zn.le6, Zn.le7, Zn.le8, Zn.le9, Zn.le10, Zn.le11, h1, is_log_eq K.are T2.nr h2, q]
omit K T2 h2 in
theorem e3_ok {x : Str} {g : FF} (hx : tab_law.lookup x = some g) (hg : ∀ m, g [d1, .non] m = .err ⟨"BadKinds", [("kinds", d1)]⟩ m) : s_law_e3 [x0, x1, x2, x3, x4, x5, x6, x7, x8, x9, x10, x11, some d1, x13, x14, x15, some (.glo x), x17] m = .ok (kT s1) m := by
  unfold s_law_e3
  refine h_kinds T1 ?_
  unfold eCallV
  simp only [sSeq, sAsg, sIf, sSet, sRet, sNil, sExpr, sPar, tOrF, tAndF, tNotF, tVal, tYesF, eBin, eUn, eBlt, eTup, eLstS, eIf, eAnd, eOr, eNot, eChain, eSl, oNo, oSome, aCons, aNil, fVar, Zn.rget0, Zn.rgetS, eCon, gNm, wipeR, Zn.bind_ok, Zn.bind_err, Zn.stm_ok, Zn.fin_rt, Zn.fin_nx, List.set_cons_zero, List.set_cons_succ, if_true, decide_true, decide_false, Bool.false_eq_true, if_false, Bool.not_true, Bool.not_false, List.replicate_succ, List.replicate_zero, Nat.reduceSub, Zn.le0, Zn.le1, Zn.le2, Zn.le3, Zn.le4, Zn.le5, Zn.le6, Zn.le7, Zn.le8, Zn.le9, Zn.le10, Zn.le11, List.getElem?_cons_succ, List.getElem?_cons_zero, hx, hg]
omit K T2 h2 in
theorem e4_ok {x : Str} {g : FF} (hx : tab_law.lookup x = some g) (hg : ∀ m, g [d1, .non, .non] m = .err ⟨"BadKinds", [("kinds", d1)]⟩ m) : s_law_e4 [x0, x1, x2, x3, x4, x5, x6, x7, x8, x9, x10, x11, some d1, x13, x14, x15, some (.glo x), x17] m = .ok (kT s1) m := by
  unfold s_law_e4
  refine h_kinds T1 ?_
  unfold eCallV
  simp only [sSeq, sAsg, sIf, sSet, sRet, sNil, sExpr, sPar, tOrF, tAndF, tNotF, tVal, tYesF, eBin, eUn, eBlt, eTup, eLstS, eIf, eAnd, eOr, eNot, eChain, eSl, oNo, oSome, aCons, aNil, fVar, Zn.rget0, Zn.rgetS, eCon, gNm, wipeR, Zn.bind_ok, Zn.bind_err, Zn.stm_ok, Zn.fin_rt, Zn.fin_nx, List.set_cons_zero, List.set_cons_succ, if_true, decide_true, decide_false, Bool.false_eq_true, if_false, Bool.not_true, Bool.not_false, List.replicate_succ, List.replicate_zero, Nat.reduceSub, Zn.le0, Zn.le1, Zn.le2, Zn.le3, Zn.le4, Zn.le5, Zn.le6, Zn.le7, Zn.le8, Zn.le9, Zn.le10, Zn.le11, List.getElem?_cons_succ, List.getElem?_cons_zero, hx, hg]
omit K T1 h1 in
theorem e5_ok {x : Str} {g : FF} (hx : tab_law.lookup x = some g) (hg : ∀ m, g [kindsD ks, d2] m = .err ⟨"BadLog", [("log", d2)]⟩ m) : s_law_e5 [x0, x1, x2, x3, some (kindsD ks), x5, x6, x7, x8, x9, x10, x11, x12, some d2, x14, x15, some (.glo x), x17] m = .ok (lT s2) m := by
  unfold s_law_e5
  refine h_log T2 ?_
  unfold eCallV
  simp only [sSeq, sAsg, sIf, sSet, sRet, sNil, sExpr, sPar, tOrF, tAndF, tNotF, tVal, tYesF, eBin, eUn, eBlt, eTup, eLstS, eIf, eAnd, eOr, eNot, eChain, eSl, oNo, oSome, aCons, aNil, fVar, Zn.rget0, Zn.rgetS, eCon, gNm, wipeR, Zn.bind_ok, Zn.bind_err, Zn.stm_ok, Zn.fin_rt, Zn.fin_nx, List.set_cons_zero, List.set_cons_succ, if_true, decide_true, decide_false, Bool.false_eq_true, if_false, Bool.not_true, Bool.not_false, List.replicate_succ, List.replicate_zero, Nat.reduceSub, Zn.le0, Zn.le1, Zn.le2, Zn.le3, Zn.le4, Zn.le5, Zn.le6, Zn.le7, Zn.le8, Zn.le9, Zn.le10, Zn.le11, List.getElem?_cons_succ, List.getElem?_cons_zero, hx, hg]
omit K T2 h2 in
theorem st16 : b7_16 [x0, x1, x2, x3, x4, x5, x6, x7, x8, x9, x10, x11, some d1, x13, x14, x15, x16, x17] m = some (.nx [x0, x1, x2, x3, x4, x5, x6, x7, x8, x9, x10, x11, some d1, x13, x14, some (.ref m.length), x16, x17], m ++ [.lst [kT s1, kT s1, kT s1, kT s1]]) := by
  have q := flcC_any (i := 16) (f := s_law_e3) (fe := eLstS (aCons (eCon (.glo "is_log")) (aCons (eCon (.glo "plain_log")) (aCons (eCon (.glo "names_in")) (aCons (eCon (.glo "logs_of_length")) aNil))))) (ρ := [x0, x1, x2, x3, x4, x5, x6, x7, x8, x9, x10, x11, some d1, x13, x14, x15, x16, x17]) (m := m) (h := fun _ => kT s1) (ds := [.glo "is_log", .glo "plain_log", .glo "names_in", .glo "logs_of_length"])
    (wAny_sl (by simp only [sSeq, sAsg, sIf, sSet, sRet, sNil, sExpr, sPar, tOrF, tAndF, tNotF, tVal, tYesF, eBin, eUn, eBlt, eTup, eLstS, eIf, eAnd, eOr, eNot, eChain, eSl, oNo, oSome, aCons, aNil, fVar, Zn.rget0, Zn.rgetS, eCon, gNm, wipeR, Zn.bind_ok, Zn.bind_err, Zn.stm_ok, Zn.fin_rt, Zn.fin_nx, List.set_cons_zero, List.set_cons_succ, if_true, decide_true, decide_false, Bool.false_eq_true, if_false, Bool.not_true, Bool.not_false, List.replicate_succ, List.replicate_zero, Nat.reduceSub, Zn.le0, Zn.le1, Zn.le2, Zn.le3, Zn.le4, Zn.le5, Zn.le6, Zn.le7, Zn.le8, Zn.le9, Zn.le10, Zn.le11])) (by simp) fun d hd => by
      simp only [List.mem_cons, List.not_mem_nil, or_false] at hd
      rcases hd with rfl | rfl | rfl | rfl
      · exact e3_ok T1 h1 lk1 (k_is_log T1.nr h1)
      · exact e3_ok T1 h1 lk2 (k_plain_log T1.nr h1)
      · exact e3_ok T1 h1 lk3 (k_names_in T1.nr h1)
      · exact e3_ok T1 h1 lk4 (k_logs T1.nr h1)
  unfold b7_16
  simp only [sSeq, sAsg, sIf, sSet, sRet, sNil, sExpr, sPar, tOrF, tAndF, tNotF, tVal, tYesF, eBin, eUn, eBlt, eTup, eLstS, eIf, eAnd, eOr, eNot, eChain, eSl, oNo, oSome, aCons, aNil, fVar, Zn.rget0, Zn.rgetS, eCon, gNm, wipeR, Zn.bind_ok, Zn.bind_err, Zn.stm_ok, Zn.fin_rt, Zn.fin_nx, List.set_cons_zero, List.set_cons_succ, if_true, decide_true, decide_false, Bool.false_eq_true, if_false, Bool.not_true, Bool.not_false, List.replicate_succ, List.replicate_zero, Nat.reduceSub, Zn.le0, Zn.le1, Zn.le2, Zn.le3, Zn.le4, Zn.le5, Zn.le6, Zn.le7, Zn.le8, Zn.le9, Zn.le10, Zn.le11, q, List.map_cons, List.map_nil]
omit K T2 h2 in
theorem st17 {a : Nat} (h : m[a]? = some (.lst [kT s1, kT s1, kT s1, kT s1])) : b7_17 [x0, x1, x2, x3, x4, x5, x6, x7, x8, x9, x10, x11, some d1, x13, x14, some (.ref a), x16, x17] m = some (.nx [x0, x1, x2, x3, x4, x5, x6, x7, x8, x9, x10, x11, some d1, x13, x14, some (.ref m.length), x16, x17], m ++ [.lst [kT s1, kT s1, kT s1, kT s1, kT s1, kT s1]]) := by
  have q := flc_any (i := 16) (f := s_law_e4) (fe := eLstS (aCons (eCon (.glo "are_alike")) (aCons (eCon (.glo "is_less_log")) aNil))) (ρ := [x0, x1, x2, x3, x4, x5, x6, x7, x8, x9, x10, x11, some d1, x13, x14, some (.ref a), x16, x17]) (m := m) (h := fun _ => kT s1) (ds := [.glo "are_alike", .glo "is_less_log"])
    (wAny_sl (by simp only [sSeq, sAsg, sIf, sSet, sRet, sNil, sExpr, sPar, tOrF, tAndF, tNotF, tVal, tYesF, eBin, eUn, eBlt, eTup, eLstS, eIf, eAnd, eOr, eNot, eChain, eSl, oNo, oSome, aCons, aNil, fVar, Zn.rget0, Zn.rgetS, eCon, gNm, wipeR, Zn.bind_ok, Zn.bind_err, Zn.stm_ok, Zn.fin_rt, Zn.fin_nx, List.set_cons_zero, List.set_cons_succ, if_true, decide_true, decide_false, Bool.false_eq_true, if_false, Bool.not_true, Bool.not_false, List.replicate_succ, List.replicate_zero, Nat.reduceSub, Zn.le0, Zn.le1, Zn.le2, Zn.le3, Zn.le4, Zn.le5, Zn.le6, Zn.le7, Zn.le8, Zn.le9, Zn.le10, Zn.le11])) (by simp) fun d hd => by
      simp only [List.mem_cons, List.not_mem_nil, or_false] at hd
      rcases hd with rfl | rfl
      · exact e4_ok T1 h1 lk5 (k_alike T1.nr h1)
      · exact e4_ok T1 h1 lk6 (k_less T1.nr h1)
  have ad := add_cell (ys := [kT s1, kT s1]) h (by show 4 + 2 ≤ 1000; decide)
  unfold b7_17
  simp only [sSeq, sAsg, sIf, sSet, sRet, sNil, sExpr, sPar, tOrF, tAndF, tNotF, tVal, tYesF, eBin, eUn, eBlt, eTup, eLstS, eIf, eAnd, eOr, eNot, eChain, eSl, oNo, oSome, aCons, aNil, fVar, Zn.rget0, Zn.rgetS, eCon, gNm, wipeR, Zn.bind_ok, Zn.bind_err, Zn.stm_ok, Zn.fin_rt, Zn.fin_nx, List.set_cons_zero, List.set_cons_succ, if_true, decide_true, decide_false, Bool.false_eq_true, if_false, Bool.not_true, Bool.not_false, List.replicate_succ, List.replicate_zero, Nat.reduceSub, Zn.le0, Zn.le1, Zn.le2, Zn.le3, Zn.le4, Zn.le5, Zn.le6, Zn.le7, Zn.le8, Zn.le9, Zn.le10, Zn.le11, q, List.map_cons, List.map_nil, ad, List.cons_append, List.nil_append]
omit T1 h1 in
theorem st18 {a : Nat} (h : m[a]? = some (.lst [kT s1, kT s1, kT s1, kT s1, kT s1, kT s1])) : b7_18 [x0, x1, x2, x3, some (kindsD ks), x5, x6, x7, x8, x9, x10, x11, x12, some d2, x14, some (.ref a), x16, x17] m = some (.nx [x0, x1, x2, x3, some (kindsD ks), x5, x6, x7, x8, x9, x10, x11, x12, some d2, x14, some (.ref m.length), x16, x17], m ++ [.lst [kT s1, kT s1, kT s1, kT s1, kT s1, kT s1, lT s2, lT s2]]) := by
  have q := flc_any (i := 16) (f := s_law_e5) (fe := eLstS (aCons (eCon (.glo "plain_log")) (aCons (eCon (.glo "names_in")) aNil))) (ρ := [x0, x1, x2, x3, some (kindsD ks), x5, x6, x7, x8, x9, x10, x11, x12, some d2, x14, some (.ref a), x16, x17]) (m := m) (h := fun _ => lT s2) (ds := [.glo "plain_log", .glo "names_in"])
    (wAny_sl (by simp only [sSeq, sAsg, sIf, sSet, sRet, sNil, sExpr, sPar, tOrF, tAndF, tNotF, tVal, tYesF, eBin, eUn, eBlt, eTup, eLstS, eIf, eAnd, eOr, eNot, eChain, eSl, oNo, oSome, aCons, aNil, fVar, Zn.rget0, Zn.rgetS, eCon, gNm, wipeR, Zn.bind_ok, Zn.bind_err, Zn.stm_ok, Zn.fin_rt, Zn.fin_nx, List.set_cons_zero, List.set_cons_succ, if_true, decide_true, decide_false, Bool.false_eq_true, if_false, Bool.not_true, Bool.not_false, List.replicate_succ, List.replicate_zero, Nat.reduceSub, Zn.le0, Zn.le1, Zn.le2, Zn.le3, Zn.le4, Zn.le5, Zn.le6, Zn.le7, Zn.le8, Zn.le9, Zn.le10, Zn.le11])) (by simp) fun d hd => by
      simp only [List.mem_cons, List.not_mem_nil, or_false] at hd
      rcases hd with rfl | rfl
      · exact e5_ok T2 h2 lk2 (l_plain_log K.are T2.nr h2)
      · exact e5_ok T2 h2 lk3 (l_names_in K.are T2.nr h2)
  have ad := add_cell (ys := [lT s2, lT s2]) h (by show 6 + 2 ≤ 1000; decide)
  unfold b7_18
  simp only [sSeq, sAsg, sIf, sSet, sRet, sNil, sExpr, sPar, tOrF, tAndF, tNotF, tVal, tYesF, eBin, eUn, eBlt, eTup, eLstS, eIf, eAnd, eOr, eNot, eChain, eSl, oNo, oSome, aCons, aNil, fVar, Zn.rget0, Zn.rgetS, eCon, gNm, wipeR, Zn.bind_ok, Zn.bind_err, Zn.stm_ok, Zn.fin_rt, Zn.fin_nx, List.set_cons_zero, List.set_cons_succ, if_true, decide_true, decide_false, Bool.false_eq_true, if_false, Bool.not_true, Bool.not_false, List.replicate_succ, List.replicate_zero, Nat.reduceSub, Zn.le0, Zn.le1, Zn.le2, Zn.le3, Zn.le4, Zn.le5, Zn.le6, Zn.le7, Zn.le8, Zn.le9, Zn.le10, Zn.le11, q, List.map_cons, List.map_nil, ad, List.cons_append, List.nil_append]
omit T1 h1 in
include L in
theorem b6_ok {i : Nat} {xs : List D} {x : Str} {g : FF} (hx : tab_law.lookup x = some g) (hg : ∀ m, g [kindsD ks, d2, .non] m = .err ⟨"BadLog", [("log", d2)]⟩ m) (hg2 : ∀ m, g [kindsD ks, logD l, d2] m = .err ⟨"BadLog", [("log", d2)]⟩ m) (h : t[i]? = some (.lst xs)) (hl : xs.length ≤ 100) :
    s_law_b6 [x0, x1, x2, x3, some (kindsD ks), some (logD l), x6, x7, x8, x9, x10, x11, x12, some d2, x14, some (.ref (i + 1)), some (.glo x), x17] (c :: t) = some (.nx [x0, x1, x2, x3, some (kindsD ks), some (logD l), x6, x7, x8, x9, x10, x11, x12, some d2, x14, some (.ref (i + 1)), some (.glo x), x17], c :: t.set i (.lst (xs ++ [lT s2, lT s2]))) := by
  have it : i < t.length := (List.getElem?_eq_some_iff.mp h).1
  have r1 : ∀ m, eRef 2 1 hs__law_refused (eCallV tab_law 16 (aCons (fVar 4) (aCons (fVar 13) (aCons (eCon .non) aNil)))) [x0, x1, x2, x3, some (kindsD ks), some (logD l), x6, x7, x8, x9, x10, x11, x12, some d2, x14, some (.ref (i + 1)), some (.glo x), x17] m = .ok (lT s2) m := fun m => h_log T2 (by
    unfold eCallV
    simp only [sSeq, sAsg, sIf, sSet, sRet, sNil, sExpr, sPar, tOrF, tAndF, tNotF, tVal, tYesF, eBin, eUn, eBlt, eTup, eLstS, eIf, eAnd, eOr, eNot, eChain, eSl, oNo, oSome, aCons, aNil, fVar, Zn.rget0, Zn.rgetS, eCon, gNm, wipeR, Zn.bind_ok, Zn.bind_err, Zn.stm_ok, Zn.fin_rt, Zn.fin_nx, List.set_cons_zero, List.set_cons_succ, if_true, decide_true, decide_false, Bool.false_eq_true, if_false, Bool.not_true, Bool.not_false, List.replicate_succ, List.replicate_zero, Nat.reduceSub, Zn.le0, Zn.le1, Zn.le2, Zn.le3, Zn.le4, Zn.le5, Zn.le6, Zn.le7, Zn.le8, Zn.le9, Zn.le10, Zn.le11, List.getElem?_cons_succ, List.getElem?_cons_zero, hx, hg])
  have r2 : ∀ m, eRef 2 1 hs__law_refused (eCallV tab_law 16 (aCons (fVar 4) (aCons (fVar 5) (aCons (fVar 13) aNil)))) [x0, x1, x2, x3, some (kindsD ks), some (logD l), x6, x7, x8, x9, x10, x11, x12, some d2, x14, some (.ref (i + 1)), some (.glo x), x17] m = .ok (lT s2) m := fun m => h_log T2 (by
    unfold eCallV
    simp only [sSeq, sAsg, sIf, sSet, sRet, sNil, sExpr, sPar, tOrF, tAndF, tNotF, tVal, tYesF, eBin, eUn, eBlt, eTup, eLstS, eIf, eAnd, eOr, eNot, eChain, eSl, oNo, oSome, aCons, aNil, fVar, Zn.rget0, Zn.rgetS, eCon, gNm, wipeR, Zn.bind_ok, Zn.bind_err, Zn.stm_ok, Zn.fin_rt, Zn.fin_nx, List.set_cons_zero, List.set_cons_succ, if_true, decide_true, decide_false, Bool.false_eq_true, if_false, Bool.not_true, Bool.not_false, List.replicate_succ, List.replicate_zero, Nat.reduceSub, Zn.le0, Zn.le1, Zn.le2, Zn.le3, Zn.le4, Zn.le5, Zn.le6, Zn.le7, Zn.le8, Zn.le9, Zn.le10, Zn.le11, List.getElem?_cons_succ, List.getElem?_cons_zero, hx, hg2])
  have a1 := append_at (m := c :: t) (a := i + 1) h (by rw [lineN]; omega) (lT s2)
  have h' : (c :: t.set i (.lst (xs ++ [lT s2])))[i + 1]? = some (.lst (xs ++ [lT s2])) := by
    show (t.set i _)[i]? = _
    exact List.getElem?_set_self it
  have a2 := append_at h' (by rw [lineN, List.length_append, List.length_cons, List.length_nil]; omega) (lT s2)
  have e1 : lstIs (c :: t) (.ref (i + 1)) = true := lst_at (m := c :: t) (a := i + 1) h
  have e2 : lstIs (c :: t.set i (.lst (xs ++ [lT s2]))) (.ref (i + 1)) = true := lst_at h'
  unfold s_law_b6
  simp only [sSeq, sAsg, sIf, sSet, sRet, sNil, sExpr, sPar, tOrF, tAndF, tNotF, tVal, tYesF, eBin, eUn, eBlt, eTup, eLstS, eIf, eAnd, eOr, eNot, eChain, eSl, oNo, oSome, aCons, aNil, fVar, Zn.rget0, Zn.rgetS, eCon, gNm, wipeR, Zn.bind_ok, Zn.bind_err, Zn.stm_ok, Zn.fin_rt, Zn.fin_nx, List.set_cons_zero, List.set_cons_succ, if_true, decide_true, decide_false, Bool.false_eq_true, if_false, Bool.not_true, Bool.not_false, List.replicate_succ, List.replicate_zero, Nat.reduceSub, Zn.le0, Zn.le1, Zn.le2, Zn.le3, Zn.le4, Zn.le5, Zn.le6, Zn.le7, Zn.le8, Zn.le9, Zn.le10, Zn.le11, eMethL, e1, r1, a1]
  simp only [sSeq, sAsg, sIf, sSet, sRet, sNil, sExpr, sPar, tOrF, tAndF, tNotF, tVal, tYesF, eBin, eUn, eBlt, eTup, eLstS, eIf, eAnd, eOr, eNot, eChain, eSl, oNo, oSome, aCons, aNil, fVar, Zn.rget0, Zn.rgetS, eCon, gNm, wipeR, Zn.bind_ok, Zn.bind_err, Zn.stm_ok, Zn.fin_rt, Zn.fin_nx, List.set_cons_zero, List.set_cons_succ, if_true, decide_true, decide_false, Bool.false_eq_true, if_false, Bool.not_true, Bool.not_false, List.replicate_succ, List.replicate_zero, Nat.reduceSub, Zn.le0, Zn.le1, Zn.le2, Zn.le3, Zn.le4, Zn.le5, Zn.le6, Zn.le7, Zn.le8, Zn.le9, Zn.le10, Zn.le11, eMethL, e2, r2, a2]
  rw [List.set_set, List.append_assoc]
  rfl
omit T1 h1 in
include L in
theorem st19 {i : Nat} {xs : List D} (h : t[i]? = some (.lst xs)) (hl : xs.length ≤ 50) : ∃ x16', b7_19 [x0, x1, x2, x3, some (kindsD ks), some (logD l), x6, x7, x8, x9, x10, x11, x12, some d2, x14, some (.ref (i + 1)), x16, x17] (c :: t) = some (.nx [x0, x1, x2, x3, some (kindsD ks), some (logD l), x6, x7, x8, x9, x10, x11, x12, some d2, x14, some (.ref (i + 1)), x16', x17], c :: t.set i (.lst (xs ++ [lT s2, lT s2, lT s2, lT s2]))) := by
  have it : i < t.length := (List.getElem?_eq_some_iff.mp h).1
  refine ⟨some (.glo "is_less_log"), ?_⟩
  have q1 := b6_ok (x0 := x0) (x2 := x2) (x3 := x3) (x6 := x6) (x7 := x7) (x8 := x8) (x9 := x9) (x10 := x10) (x11 := x11) (x12 := x12) (x14 := x14) (x17 := x17) (c := c) K L T2 h2 lk5 (l_alike1 K.are T2.nr h2) (l_alike2 K.are T2.nr h2 L) h (by omega)
  have q2 := b6_ok (x0 := x0) (x2 := x2) (x3 := x3) (x6 := x6) (x7 := x7) (x8 := x8) (x9 := x9) (x10 := x10) (x11 := x11) (x12 := x12) (x14 := x14) (x17 := x17) (c := c) (t := t.set i (.lst (xs ++ [lT s2, lT s2]))) K L T2 h2 lk6 (l_less1 K.are T2.nr h2) (l_less2 K.are T2.nr h2 L) (List.getElem?_set_self it) (by rw [List.length_append, List.length_cons, List.length_cons, List.length_nil]; omega)
  unfold b7_19 fFor
  rw [wAny_sl (ds := [.glo "are_alike", .glo "is_less_log"]) (by simp only [sSeq, sAsg, sIf, sSet, sRet, sNil, sExpr, sPar, tOrF, tAndF, tNotF, tVal, tYesF, eBin, eUn, eBlt, eTup, eLstS, eIf, eAnd, eOr, eNot, eChain, eSl, oNo, oSome, aCons, aNil, fVar, Zn.rget0, Zn.rgetS, eCon, gNm, wipeR, Zn.bind_ok, Zn.bind_err, Zn.stm_ok, Zn.fin_rt, Zn.fin_nx, List.set_cons_zero, List.set_cons_succ, if_true, decide_true, decide_false, Bool.false_eq_true, if_false, Bool.not_true, Bool.not_false, List.replicate_succ, List.replicate_zero, Nat.reduceSub, Zn.le0, Zn.le1, Zn.le2, Zn.le3, Zn.le4, Zn.le5, Zn.le6, Zn.le7, Zn.le8, Zn.le9, Zn.le10, Zn.le11])]
  show forL (gNm 16) s_law_b6 [.glo "are_alike", .glo "is_less_log"] _ _ = _
  rw [forL_nx rfl q1, forL_nx rfl q2]
  rw [List.set_set, List.append_assoc]
  rfl
include T3 h3
omit T1 T2 h1 h2 in
theorem st20 {i : Nat} {xs : List D} (h : t[i]? = some (.lst xs)) (hl : xs.length ≤ 50) : b7_20 [x0, x1, x2, x3, some (kindsD ks), x5, x6, x7, x8, x9, x10, x11, x12, x13, some d3, some (.ref (i + 1)), x16, x17] (c :: t) = some (.nx [x0, x1, x2, x3, some (kindsD ks), x5, x6, x7, x8, x9, x10, x11, x12, x13, some d3, some (.ref (i + 1)), x16, x17], c :: t.set i (.lst (xs ++ [nT s3]))) := by
  have r1 : ∀ m, eRef 2 1 hs__law_refused (eBlt (fIso s_logs_of_length) (aCons (fVar 4) (aCons (fVar 14) aNil))) [x0, x1, x2, x3, some (kindsD ks), x5, x6, x7, x8, x9, x10, x11, x12, x13, some d3, some (.ref (i + 1)), x16, x17] m = .ok (nT s3) m := fun m => h_num T3 (by
    simp only [sSeq, sAsg, sIf, sSet, sRet, sNil, sExpr, sPar, tOrF, tAndF, tNotF, tVal, tYesF, eBin, eUn, eBlt, eTup, eLstS, eIf, eAnd, eOr, eNot, eChain, eSl, oNo, oSome, aCons, aNil, fVar, Zn.rget0, Zn.rgetS, eCon, gNm, wipeR, Zn.bind_ok, Zn.bind_err, Zn.stm_ok, Zn.fin_rt, Zn.fin_nx, List.set_cons_zero, List.set_cons_succ, if_true, decide_true, decide_false, Bool.false_eq_true, if_false, Bool.not_true, Bool.not_false, List.replicate_succ, List.replicate_zero, Nat.reduceSub, Zn.le0, Zn.le1, Zn.le2, Zn.le3, Zn.le4, Zn.le5, Zn.le6, Zn.le7, Zn.le8, Zn.le9, Zn.le10, Zn.le11, n_logs K.are T3.nr h3])
  have a1 := append_at (m := c :: t) (a := i + 1) h (by rw [lineN]; omega) (nT s3)
  have e1 : lstIs (c :: t) (.ref (i + 1)) = true := lst_at (m := c :: t) (a := i + 1) h
  unfold b7_20
  simp only [sSeq, sAsg, sIf, sSet, sRet, sNil, sExpr, sPar, tOrF, tAndF, tNotF, tVal, tYesF, eBin, eUn, eBlt, eTup, eLstS, eIf, eAnd, eOr, eNot, eChain, eSl, oNo, oSome, aCons, aNil, fVar, Zn.rget0, Zn.rgetS, eCon, gNm, wipeR, Zn.bind_ok, Zn.bind_err, Zn.stm_ok, Zn.fin_rt, Zn.fin_nx, List.set_cons_zero, List.set_cons_succ, if_true, decide_true, decide_false, Bool.false_eq_true, if_false, Bool.not_true, Bool.not_false, List.replicate_succ, List.replicate_zero, Nat.reduceSub, Zn.le0, Zn.le1, Zn.le2, Zn.le3, Zn.le4, Zn.le5, Zn.le6, Zn.le7, Zn.le8, Zn.le9, Zn.le10, Zn.le11, eMethL, e1, r1, a1]
omit K h1 h2 h3 in
theorem st21 {a : Nat} (h : m[a]? = some (.lst [kT s1, kT s1, kT s1, kT s1, kT s1, kT s1, lT s2, lT s2, lT s2, lT s2, lT s2, lT s2, nT s3])) : b7_21 [x0, x1, x2, x3, x4, x5, x6, x7, x8, x9, x10, x11, some d1, some d2, some d3, some (.ref a), x16, x17] m = some (.nx [x0, x1, x2, x3, x4, x5, x6, x7, x8, x9, x10, x11, some d1, some d2, some d3, some (.ref a), x16, x17], m) := by
  have ok1 : PyData.strOk ("kinds" : Str) = true := by decide +kernel
  have ok2 : PyData.strOk ("log" : Str) = true := by decide +kernel
  have ok3 : PyData.strOk ("n" : Str) = true := by decide +kernel
  have p1 : Pl 1 (kT s1) _ := pl_tup (.cons (pl_str ok1) (.cons (pl_str T1.ok) .nil))
  have p2 : Pl 1 (lT s2) _ := pl_tup (.cons (pl_str ok2) (.cons (pl_str T2.ok) .nil))
  have p3 : Pl 1 (nT s3) _ := pl_tup (.cons (pl_str ok3) (.cons (pl_str T3.ok) .nil))
  have m1 : ∀ m : M, oMul (.sl [kT s1]) (.int 6) m = .ok (.sl [kT s1, kT s1, kT s1, kT s1, kT s1, kT s1]) m := fun m => mul_sl (a := [kT s1]) (k := 6) (by simp) (by decide) (by decide) m
  have m2 : ∀ m : M, oMul (.sl [lT s2]) (.int 6) m = .ok (.sl [lT s2, lT s2, lT s2, lT s2, lT s2, lT s2]) m := fun m => mul_sl (a := [lT s2]) (k := 6) (by simp) (by decide) (by decide) m
  have a1 : ∀ m : M, oAddU (.sl [kT s1, kT s1, kT s1, kT s1, kT s1, kT s1]) (.sl [lT s2, lT s2, lT s2, lT s2, lT s2, lT s2]) m = .ok (.sl [kT s1, kT s1, kT s1, kT s1, kT s1, kT s1, lT s2, lT s2, lT s2, lT s2, lT s2, lT s2]) m := addU_sl (by show 6 + 6 ≤ 100000; decide)
  have a2 : ∀ m : M, oAddU (.sl [kT s1, kT s1, kT s1, kT s1, kT s1, kT s1, lT s2, lT s2, lT s2, lT s2, lT s2, lT s2]) (.sl [nT s3]) m = .ok (.sl [kT s1, kT s1, kT s1, kT s1, kT s1, kT s1, lT s2, lT s2, lT s2, lT s2, lT s2, lT s2, nT s3]) m := addU_sl (by show 12 + 1 ≤ 100000; decide)
  have q := ne_lst h (.cons p1 (.cons p1 (.cons p1 (.cons p1 (.cons p1 (.cons p1 (.cons p2 (.cons p2 (.cons p2 (.cons p2 (.cons p2 (.cons p2 (.cons p3 .nil))))))))))))) rfl (by decide)
  unfold b7_21
  simp only [sSeq, sAsg, sIf, sSet, sRet, sNil, sExpr, sPar, tOrF, tAndF, tNotF, tVal, tYesF, eBin, eUn, eBlt, eTup, eLstS, eIf, eAnd, eOr, eNot, eChain, eSl, oNo, oSome, aCons, aNil, fVar, Zn.rget0, Zn.rgetS, eCon, gNm, wipeR, Zn.bind_ok, Zn.bind_err, Zn.stm_ok, Zn.fin_rt, Zn.fin_nx, List.set_cons_zero, List.set_cons_succ, if_true, decide_true, decide_false, Bool.false_eq_true, if_false, Bool.not_true, Bool.not_false, List.replicate_succ, List.replicate_zero, Nat.reduceSub, Zn.le0, Zn.le1, Zn.le2, Zn.le3, Zn.le4, Zn.le5, Zn.le6, Zn.le7, Zn.le8, Zn.le9, Zn.le10, Zn.le11, T1.re, T2.re, T3.re, m1, m2, a1, a2, q]
end
end
end K01

namespace K01
open PySem PySem.Spec L2 Z Zn
theorem lap_ok {x0 x2 x3 x4 x5 x6 x7 x8 x9 x10 x11 x12 x13 x14 x15 x16 x17 : Option D} {c : Cell} {t : M} {n : Int} (hp : Pen n c) (hn : n + 1000 ≤ 1000000) :
    ∃ (y4 y5 y6 y7 y8 y9 y10 y11 y12 y13 y14 y15 y16 : Option D) (c' : Cell) (t' : M), Pen (n + 1000) c' ∧ s_law_b7 [x0, x1, x2, x3, x4, x5, x6, x7, x8, x9, x10, x11, x12, x13, x14, x15, x16, x17] (c :: t) = some (.nx [x0, x1, x2, x3, y4, y5, y6, y7, y8, y9, y10, y11, y12, y13, y14, y15, y16, x17], c' :: t') := by
  obtain ⟨ks, c1, t1, hks, hp1, e1⟩ := kinds_ok (t := t) hp (by omega)
  have K := ks_ok hks
  have kl := K.l1
  have kl2 : ks.length ≤ 10 := Nat.le_trans K.l2 (by decide)
  obtain ⟨l, c2, L, hp2, e2⟩ := log_draw kl kl2 (t := t1) hp1 (by omega)
  obtain ⟨o, c3, O, hp3, e3⟩ := log_draw kl kl2 (t := t1) hp2 (by omega)
  have hl : l.length ≤ 100 := Nat.le_trans L.ln (by decide)
  have a1 : (c3 :: t1 ++ [Cell.lst []])[(c3 :: t1).length]? = some (.lst []) := app_get _ _
  generalize ha : (c3 :: t1).length = a at *
  have ea : a = t1.length + 1 := by rw [← ha]; rfl
  obtain ⟨z10, e10⟩ := st10 (x0 := x0) (x2 := x2) (x3 := x3) (x4 := some (kindsD ks)) (x6 := some (logD o)) (x7 := some (logD (l.map turnE))) (x8 := some (.bl (lessB l o))) (x10 := x10) (x11 := x11) (x12 := x12) (x13 := x13) (x14 := x14) (x15 := x15) (x16 := x16) (x17 := x17) (m := c3 :: t1 ++ [Cell.lst []]) a1 hl
  have hm : (c3 :: t1 ++ [Cell.lst []]).set a (.lst ((namesL [] l).map fun n => .int (n : Nat))) = c3 :: (t1 ++ [Cell.lst ((namesL [] l).map fun n => .int (n : Nat))]) := by
    rw [ea, List.cons_append, List.set_cons_succ, List.set_append_right _ _ (Nat.le_refl _), Nat.sub_self]
    rfl
  rw [hm] at e10
  generalize ht2 : t1 ++ [Cell.lst ((namesL [] l).map fun n => .int (n : Nat))] = t2 at *
  have a2 : (c3 :: t2)[a]? = some (.lst ((namesL [] l).map fun n => .int (n : Nat))) := by
    rw [ea, ← ht2]
    show (t1 ++ _)[t1.length]? = _
    exact app_get _ _
  obtain ⟨r, c4, r0, r1, hp4, e12⟩ := drawK _ 4 c3 t2 hp3 (by omega) (by decide) (by decide)
  obtain ⟨d1, c5, hd1, hp5, e14⟩ := wrong_kinds_ok kl kl2 (t := t2) hp4 (by omega)
  obtain ⟨d2, w, c6, hw, hd2, hp6, e14b⟩ := wrong_log_ok kl kl2 hl (t := t2) hp5 (by omega)
  obtain ⟨d3, c7, hd3, hp7, e14c⟩ := pickK (xs := bads) (rest := t2) hp6 (by omega) (by decide) (by decide)
  obtain ⟨f1, s1, T1⟩ := K.wk d1 hd1
  obtain ⟨f2, s2, T2⟩ := wrong_is K L hw hd2
  obtain ⟨f3, s3, T3⟩ := bad_ok hd3
  have b1 : (c7 :: t2 ++ [Cell.lst [kT s1, kT s1, kT s1, kT s1]])[(c7 :: t2).length]? = some (.lst [kT s1, kT s1, kT s1, kT s1]) := app_get _ _
  have b2 : ((c7 :: t2 ++ [Cell.lst [kT s1, kT s1, kT s1, kT s1]]) ++ [Cell.lst [kT s1, kT s1, kT s1, kT s1, kT s1, kT s1]])[(c7 :: t2 ++ [Cell.lst [kT s1, kT s1, kT s1, kT s1]]).length]? = some (.lst [kT s1, kT s1, kT s1, kT s1, kT s1, kT s1]) := app_get _ _
  have q16 := st16 (x0 := x0) (x2 := x2) (x3 := x3) (x4 := some (kindsD ks)) (x5 := some (logD l)) (x6 := some (logD o)) (x7 := some (logD (l.map turnE))) (x8 := some (.bl (lessB l o))) (x9 := some (.ref a)) (x10 := z10) (x11 := some (.int r)) (x13 := some d2) (x14 := some d3) (x15 := x15) (x16 := x16) (x17 := x17) (m := c7 :: t2) T1 f1
  have q17 := st17 (x0 := x0) (x2 := x2) (x3 := x3) (x4 := some (kindsD ks)) (x5 := some (logD l)) (x6 := some (logD o)) (x7 := some (logD (l.map turnE))) (x8 := some (.bl (lessB l o))) (x9 := some (.ref a)) (x10 := z10) (x11 := some (.int r)) (x13 := some d2) (x14 := some d3) (x16 := x16) (x17 := x17) T1 f1 b1
  have q18 := st18 (x0 := x0) (x2 := x2) (x3 := x3) (x5 := some (logD l)) (x6 := some (logD o)) (x7 := some (logD (l.map turnE))) (x8 := some (.bl (lessB l o))) (x9 := some (.ref a)) (x10 := z10) (x11 := some (.int r)) (x12 := some d1) (x14 := some d3) (x16 := x16) (x17 := x17) K T2 f2 b2
  generalize hM : (c7 :: t2 ++ [Cell.lst [kT s1, kT s1, kT s1, kT s1]]) ++ [Cell.lst [kT s1, kT s1, kT s1, kT s1, kT s1, kT s1]] = m3 at *
  obtain ⟨t3, rfl⟩ : ∃ t3, m3 = c7 :: t3 := ⟨_, by rw [← hM]; rfl⟩
  have hs : c7 :: t3 ++ [Cell.lst [kT s1, kT s1, kT s1, kT s1, kT s1, kT s1, lT s2, lT s2]] = c7 :: (t3 ++ [Cell.lst [kT s1, kT s1, kT s1, kT s1, kT s1, kT s1, lT s2, lT s2]]) := rfl
  have hlen : (c7 :: t3).length = t3.length + 1 := rfl
  rw [hs, hlen] at q18
  have b3 : (t3 ++ [Cell.lst [kT s1, kT s1, kT s1, kT s1, kT s1, kT s1, lT s2, lT s2]])[t3.length]? = some (.lst [kT s1, kT s1, kT s1, kT s1, kT s1, kT s1, lT s2, lT s2]) := app_get _ _
  generalize hi : t3.length = i at *
  generalize ht4 : t3 ++ [Cell.lst [kT s1, kT s1, kT s1, kT s1, kT s1, kT s1, lT s2, lT s2]] = t4 at *
  have it : i < t4.length := (List.getElem?_eq_some_iff.mp b3).1
  obtain ⟨z16, q19⟩ := st19 (x0 := x0) (x2 := x2) (x3 := x3) (x6 := some (logD o)) (x7 := some (logD (l.map turnE))) (x8 := some (.bl (lessB l o))) (x9 := some (.ref a)) (x10 := z10) (x11 := some (.int r)) (x12 := some d1) (x14 := some d3) (x16 := x16) (x17 := x17) (c := c7) K L T2 f2 b3 (by simp)
  have b4 : (t4.set i (.lst ([kT s1, kT s1, kT s1, kT s1, kT s1, kT s1, lT s2, lT s2] ++ [lT s2, lT s2, lT s2, lT s2])))[i]? = some (.lst ([kT s1, kT s1, kT s1, kT s1, kT s1, kT s1, lT s2, lT s2] ++ [lT s2, lT s2, lT s2, lT s2])) := List.getElem?_set_self it
  generalize ht5 : t4.set i (.lst ([kT s1, kT s1, kT s1, kT s1, kT s1, kT s1, lT s2, lT s2] ++ [lT s2, lT s2, lT s2, lT s2])) = t5 at *
  have it5 : i < t5.length := (List.getElem?_eq_some_iff.mp b4).1
  have q20 := st20 (x0 := x0) (x2 := x2) (x3 := x3) (x5 := some (logD l)) (x6 := some (logD o)) (x7 := some (logD (l.map turnE))) (x8 := some (.bl (lessB l o))) (x9 := some (.ref a)) (x10 := z10) (x11 := some (.int r)) (x12 := some d1) (x13 := some d2) (x16 := z16) (x17 := x17) (c := c7) K T3 f3 b4 (by simp)
  have b5 : (c7 :: t5.set i (.lst ([kT s1, kT s1, kT s1, kT s1, kT s1, kT s1, lT s2, lT s2] ++ [lT s2, lT s2, lT s2, lT s2] ++ [nT s3])))[i + 1]? = some (.lst [kT s1, kT s1, kT s1, kT s1, kT s1, kT s1, lT s2, lT s2, lT s2, lT s2, lT s2, lT s2, nT s3]) := by
    show (t5.set i _)[i]? = _
    exact List.getElem?_set_self it5
  have q21 := st21 (x0 := x0) (x2 := x2) (x3 := x3) (x4 := some (kindsD ks)) (x5 := some (logD l)) (x6 := some (logD o)) (x7 := some (logD (l.map turnE))) (x8 := some (.bl (lessB l o))) (x9 := some (.ref a)) (x10 := z10) (x11 := some (.int r)) (x16 := z16) (x17 := x17) T1 T2 T3 b5
  have q9 := st9 (x0 := x0) (x2 := x2) (x3 := x3) (x4 := some (kindsD ks)) (x5 := some (logD l)) (x6 := some (logD o)) (x7 := some (logD (l.map turnE))) (x8 := some (.bl (lessB l o))) (x9 := x9) (x10 := x10) (x11 := x11) (x12 := x12) (x13 := x13) (x14 := x14) (x15 := x15) (x16 := x16) (x17 := x17) (m := c3 :: t1)
  rw [ha] at q9
  refine ⟨some (kindsD ks), some (logD l), some (logD o), some (logD (l.map turnE)), some (.bl (lessB l o)), some (.ref a), z10, some (.int r), some d1, some d2, some d3, some (.ref (i + 1)), z16, c7, t5.set i (.lst ([kT s1, kT s1, kT s1, kT s1, kT s1, kT s1, lT s2, lT s2] ++ [lT s2, lT s2, lT s2, lT s2] ++ [nT s3])), hp7.mono (by omega), ?_⟩
  rw [b7_eq]
  simp only [sSeq, st1 e1, st2 e2 e3, st3 K L, st4 K L, st5 K L, st6 K L O, st7 K L O, st8 K L O, q9, e10, st11 K L a2, st12 e12, st13 hks r0 r1, st14 e14 e14b e14c, st15 K T1 T2 f1 f2, q16, q17, q18, q19, q20, q21]
theorem laps_ok {x0 x3 x17 : Option D} : ∀ (ds : List D) (x2 x4 x5 x6 x7 x8 x9 x10 x11 x12 x13 x14 x15 x16 : Option D) (c : Cell) (t : M) (n : Int), Pen n c → n + 1000 * ds.length ≤ 1000000 →
    ∃ (y2 y4 y5 y6 y7 y8 y9 y10 y11 y12 y13 y14 y15 y16 : Option D) (m' : M), forL (gNm 2) s_law_b7 ds [x0, x1, x2, x3, x4, x5, x6, x7, x8, x9, x10, x11, x12, x13, x14, x15, x16, x17] (c :: t) = some (.nx [x0, x1, y2, x3, y4, y5, y6, y7, y8, y9, y10, y11, y12, y13, y14, y15, y16, x17], m')
  | [], x2, x4, x5, x6, x7, x8, x9, x10, x11, x12, x13, x14, x15, x16, c, t, n, _, _ => ⟨x2, x4, x5, x6, x7, x8, x9, x10, x11, x12, x13, x14, x15, x16, c :: t, rfl⟩
  | d :: ds, x2, x4, x5, x6, x7, x8, x9, x10, x11, x12, x13, x14, x15, x16, c, t, n, hp, hn => by
    rw [List.length_cons] at hn
    obtain ⟨y4, y5, y6, y7, y8, y9, y10, y11, y12, y13, y14, y15, y16, c', t', hp', e⟩ := lap_ok (x0 := x0) (x2 := some d) (x3 := x3) (x4 := x4) (x5 := x5) (x6 := x6) (x7 := x7) (x8 := x8) (x9 := x9) (x10 := x10) (x11 := x11) (x12 := x12) (x13 := x13) (x14 := x14) (x15 := x15) (x16 := x16) (x17 := x17) (t := t) hp (by omega)
    rw [forL_nx rfl e]
    exact laps_ok ds _ _ _ _ _ _ _ _ _ _ _ _ _ _ c' t' (n + 1000) hp' (by omega)
def words : List D := [.str "a", .str "new", .str "it", .str "rank", .str "1a", .non, .str "", .str "note"]
def freeW (d : D) : Bool := isBl true (fIso s_is_free_name [d] [])
theorem fact9 : words.map freeW = [true, false, false, false, false, false, false, true] := by decide +kernel
theorem fact10 : words.all (fun d => isBl (freeW d) (fIso s_is_free_name [d] [])) = true := by decide +kernel
theorem law_ok (ns : List Int) : ∃ m, s_law [.fl (ns.map .int)] [] = .ok (.bl true) m := by
  obtain ⟨c, hc, e0⟩ := penK ns
  obtain ⟨y2, y4, y5, y6, y7, y8, y9, y10, y11, y12, y13, y14, y15, y16, m', e1⟩ := laps_ok (x0 := some (.fl (ns.map .int))) (x3 := none) (x17 := none) (rangeD 0 6) none none none none none none none none none none none none none none c [] 0 hc (by rw [rangeD_len]; decide)
  refine ⟨m', ?_⟩
  unfold s_law
  rw [fn1]
  have f1 : ∀ (ρ : Rho) (m : M), fFor (wRange (aCons (eCon (.int 6)) aNil)) (gNm 2) s_law_b7 ρ m = forL (gNm 2) s_law_b7 (rangeD 0 6) ρ m := fun ρ m => by
    unfold fFor
    rw [wrange_ok (n := 6) (m1 := m) (by simp only [sSeq, sAsg, sIf, sSet, sRet, sNil, sExpr, sPar, tOrF, tAndF, tNotF, tVal, tYesF, eBin, eUn, eBlt, eTup, eLstS, eIf, eAnd, eOr, eNot, eChain, eSl, oNo, oSome, aCons, aNil, fVar, Zn.rget0, Zn.rgetS, eCon, gNm, wipeR, Zn.bind_ok, Zn.bind_err, Zn.stm_ok, Zn.fin_rt, Zn.fin_nx, List.set_cons_zero, List.set_cons_succ, if_true, decide_true, decide_false, Bool.false_eq_true, if_false, Bool.not_true, Bool.not_false, List.replicate_succ, List.replicate_zero, Nat.reduceSub, Zn.le0, Zn.le1, Zn.le2, Zn.le3, Zn.le4, Zn.le5, Zn.le6, Zn.le7, Zn.le8, Zn.le9, Zn.le10, Zn.le11]; rfl) (by decide)]
    rfl
  have f2 : ∀ (ρ : Rho) (m : M), ρ.length = 18 → fLc (wAny (eLstS (aCons (eCon (.str "a")) (aCons (eCon (.str "new")) (aCons (eCon (.str "it")) (aCons (eCon (.str "rank")) (aCons (eCon (.str "1a")) (aCons (eCon .non) (aCons (eCon (.str "")) (aCons (eCon (.str "note")) aNil)))))))))) [17] (gNm 17) tYesF s_law_e8 ρ m = .ok (.sl ((words.map freeW).map .bl)) m := fun ρ m hρ => by
    rw [List.map_map]
    refine flc_any (ds := words) (h := D.bl ∘ freeW) (wAny_sl (by unfold words; simp only [sSeq, sAsg, sIf, sSet, sRet, sNil, sExpr, sPar, tOrF, tAndF, tNotF, tVal, tYesF, eBin, eUn, eBlt, eTup, eLstS, eIf, eAnd, eOr, eNot, eChain, eSl, oNo, oSome, aCons, aNil, fVar, Zn.rget0, Zn.rgetS, eCon, gNm, wipeR, Zn.bind_ok, Zn.bind_err, Zn.stm_ok, Zn.fin_rt, Zn.fin_nx, List.set_cons_zero, List.set_cons_succ, if_true, decide_true, decide_false, Bool.false_eq_true, if_false, Bool.not_true, Bool.not_false, List.replicate_succ, List.replicate_zero, Nat.reduceSub, Zn.le0, Zn.le1, Zn.le2, Zn.le3, Zn.le4, Zn.le5, Zn.le6, Zn.le7, Zn.le8, Zn.le9, Zn.le10, Zn.le11])) (by decide) fun d hd => ?_
    unfold s_law_e8
    match ρ, hρ with
    | [a0, a1, a2, a3, a4, a5, a6, a7, a8, a9, a10, a11, a12, a13, a14, a15, a16, a17], _ =>
      simp only [sSeq, sAsg, sIf, sSet, sRet, sNil, sExpr, sPar, tOrF, tAndF, tNotF, tVal, tYesF, eBin, eUn, eBlt, eTup, eLstS, eIf, eAnd, eOr, eNot, eChain, eSl, oNo, oSome, aCons, aNil, fVar, Zn.rget0, Zn.rgetS, eCon, gNm, wipeR, Zn.bind_ok, Zn.bind_err, Zn.stm_ok, Zn.fin_rt, Zn.fin_nx, List.set_cons_zero, List.set_cons_succ, if_true, decide_true, decide_false, Bool.false_eq_true, if_false, Bool.not_true, Bool.not_false, List.replicate_succ, List.replicate_zero, Nat.reduceSub, Zn.le0, Zn.le1, Zn.le2, Zn.le3, Zn.le4, Zn.le5, Zn.le6, Zn.le7, Zn.le8, Zn.le9, Zn.le10, Zn.le11, isBl_ok (all_mem fact10 hd)]
      rfl
  have f3 : ∀ m : M, oMul (.sl [.bl false]) (.int 6) m = .ok (.sl [.bl false, .bl false, .bl false, .bl false, .bl false, .bl false]) m := fun m => mul_sl (a := [.bl false]) (k := 6) (by simp) (by decide) (by decide) m
  have f4 : ∀ m : M, oAddU (.sl [.bl true]) (.sl [.bl false, .bl false, .bl false, .bl false, .bl false, .bl false]) m = .ok (.sl [.bl true, .bl false, .bl false, .bl false, .bl false, .bl false, .bl false]) m := addU_sl (by show 1 + 6 ≤ 100000; decide)
  have f5 : ∀ m : M, oAddU (.sl [.bl true, .bl false, .bl false, .bl false, .bl false, .bl false, .bl false]) (.sl [.bl true]) m = .ok (.sl [.bl true, .bl false, .bl false, .bl false, .bl false, .bl false, .bl false, .bl true]) m := addU_sl (by show 7 + 1 ≤ 100000; decide)
  have f6 : ∀ m : M, oEq (.sl [.bl true, .bl false, .bl false, .bl false, .bl false, .bl false, .bl false, .bl true]) (.sl [.bl true, .bl false, .bl false, .bl false, .bl false, .bl false, .bl false, .bl true]) m = .ok (.bl true) m := fun _ => rfl
  unfold x1 at e1
  simp only [sSeq, sAsg, sIf, sSet, sRet, sNil, sExpr, sPar, tOrF, tAndF, tNotF, tVal, tYesF, eBin, eUn, eBlt, eTup, eLstS, eIf, eAnd, eOr, eNot, eChain, eSl, oNo, oSome, aCons, aNil, fVar, Zn.rget0, Zn.rgetS, eCon, gNm, wipeR, Zn.bind_ok, Zn.bind_err, Zn.stm_ok, Zn.fin_rt, Zn.fin_nx, List.set_cons_zero, List.set_cons_succ, if_true, decide_true, decide_false, Bool.false_eq_true, if_false, Bool.not_true, Bool.not_false, List.replicate_succ, List.replicate_zero, Nat.reduceSub, Zn.le0, Zn.le1, Zn.le2, Zn.le3, Zn.le4, Zn.le5, Zn.le6, Zn.le7, Zn.le8, Zn.le9, Zn.le10, Zn.le11, e0, f1, e1]
  rw [f2 _ _ rfl, fact9]
  simp only [sSeq, sAsg, sIf, sSet, sRet, sNil, sExpr, sPar, tOrF, tAndF, tNotF, tVal, tYesF, eBin, eUn, eBlt, eTup, eLstS, eIf, eAnd, eOr, eNot, eChain, eSl, oNo, oSome, aCons, aNil, fVar, Zn.rget0, Zn.rgetS, eCon, gNm, wipeR, Zn.bind_ok, Zn.bind_err, Zn.stm_ok, Zn.fin_rt, Zn.fin_nx, List.set_cons_zero, List.set_cons_succ, if_true, decide_true, decide_false, Bool.false_eq_true, if_false, Bool.not_true, Bool.not_false, List.replicate_succ, List.replicate_zero, Nat.reduceSub, Zn.le0, Zn.le1, Zn.le2, Zn.le3, Zn.le4, Zn.le5, Zn.le6, Zn.le7, Zn.le8, Zn.le9, Zn.le10, Zn.le11, List.map_cons, List.map_nil, f3, f4, f5, f6]
end K01

namespace K01
open PySem Z
theorem lam_eq : lamNames = ([("law" : Str)] : List Str) := rfl
theorem hsp : ∀ ns : List Int, ns.length ≤ 63 → ∃ m, s_law [.fl (ns.map .int)] [] = .ok (.bl true) m := fun ns _ => law_ok ns
end K01

open PySem PySem.W PyProof.Rows
set_option maxRecDepth 100000 in
set_option maxHeartbeats 0 in
theorem PySem.Challenge.cw_notednames_k01_whole_logs_holds : PySem.Challenge.rw_notednames_k01_whole_logs.Holds := by
  w_on; o_law; k_head; (case hw => w_witness2)
  k_fill
  refine' Z.walkZT (l := PySem.Challenge.rw_notednames_k01_whole_logs) (n := 63) (k := 9) (g := K01.s_law) (x := "script") rfl (by decide) rfl ⟨rfl, by decide, by decide⟩ (fun w h Y => PySem.W.km_in_of Y) (Z.TabsIn.cons (fun w => Z.tabIn_mk ?za0 ?zl0 ?zc0 ?zm0 ?zv0) Z.TabsIn.nil) (Z.all_cons_l K01.lam_eq ?zrec) (fun w => ?znt) ?znd ?zF K01.hsp
  (case za0 => k_is); (case zl0 => k_is); (case zc0 => rfl); (case zm0 => k_is); (case zv0 => rfl)
  case zrec => exact Z.all_cons ⟨_, rfl⟩ (Z.all_nil)
  case znt => first | rfl | k_is
  case znd => decide
  case zF =>
    intro w mg fa h KX G hmg
    refine' (fun (d__law_all : Z.DefAt _ mg "_law_all" K01.st__law_all ["kinds", "n"]) => ?zgo_1) (Z.def_mk KX G ?za_1 ?zl_1 ?zc_1 ?zk_1 K01.b__law_all)
    (case za_1 => k_is); (case zl_1 => k_is); (case zc_1 => k_is); (case zk_1 => k_is)
    refine' (fun (d__law_draw : Z.DefAt _ mg "_law_draw" K01.st__law_draw ["pen", "many"]) => ?zgo_2) (Z.def_mk KX G ?za_2 ?zl_2 ?zc_2 ?zk_2 K01.b__law_draw)
    (case za_2 => k_is); (case zl_2 => k_is); (case zc_2 => k_is); (case zk_2 => k_is)
    refine' (fun (d__law_shuffled : Z.DefAt _ mg "_law_shuffled" K01.st__law_shuffled ["pen", "items"]) => ?zgo_3) (Z.def_mk KX G ?za_3 ?zl_3 ?zc_3 ?zk_3 K01.b__law_shuffled)
    (case za_3 => k_is); (case zl_3 => k_is); (case zc_3 => k_is); (case zk_3 => k_is)
    refine' (fun (d__law_kinds : Z.DefAt _ mg "_law_kinds" K01.st__law_kinds ["pen"]) => ?zgo_4) (Z.def_mk KX G ?za_4 ?zl_4 ?zc_4 ?zk_4 K01.b__law_kinds)
    (case za_4 => k_is); (case zl_4 => k_is); (case zc_4 => k_is); (case zk_4 => k_is)
    refine' (fun (d__law_event : Z.DefAt _ mg "_law_event" K01.st__law_event ["pen", "kinds", "most"]) => ?zgo_5) (Z.def_mk KX G ?za_5 ?zl_5 ?zc_5 ?zk_5 K01.b__law_event)
    (case za_5 => k_is); (case zl_5 => k_is); (case zc_5 => k_is); (case zk_5 => k_is)
    refine' (fun (d__law_log : Z.DefAt _ mg "_law_log" K01.st__law_log ["pen", "kinds", "many", "most"]) => ?zgo_6) (Z.def_mk KX G ?za_6 ?zl_6 ?zc_6 ?zk_6 K01.b__law_log)
    (case za_6 => k_is); (case zl_6 => k_is); (case zc_6 => k_is); (case zk_6 => k_is)
    refine' (fun (d__law_pen : Z.DefAt _ mg "_law_pen" K01.st__law_pen ["script"]) => ?zgo_7) (Z.def_mk KX G ?za_7 ?zl_7 ?zc_7 ?zk_7 K01.b__law_pen)
    (case za_7 => k_is); (case zl_7 => k_is); (case zc_7 => k_is); (case zk_7 => k_is)
    refine' (fun (d__law_pick : Z.DefAt _ mg "_law_pick" K01.st__law_pick ["pen", "some"]) => ?zgo_8) (Z.def_mk KX G ?za_8 ?zl_8 ?zc_8 ?zk_8 K01.b__law_pick)
    (case za_8 => k_is); (case zl_8 => k_is); (case zc_8 => k_is); (case zk_8 => k_is)
    refine' (fun (d__law_plain : Z.DefAt _ mg "_law_plain" K01.st__law_plain ["log"]) => ?zgo_9) (Z.def_mk KX G ?za_9 ?zl_9 ?zc_9 ?zk_9 K01.b__law_plain)
    (case za_9 => k_is); (case zl_9 => k_is); (case zc_9 => k_is); (case zk_9 => k_is)
    refine' (fun (d__law_wrong_kinds : Z.DefAt _ mg "_law_wrong_kinds" K01.st__law_wrong_kinds ["pen", "kinds"]) => ?zgo_10) (Z.def_mk KX G ?za_10 ?zl_10 ?zc_10 ?zk_10 K01.b__law_wrong_kinds)
    (case za_10 => k_is); (case zl_10 => k_is); (case zc_10 => k_is); (case zk_10 => k_is)
    refine' (fun (d__law_wrong_log : Z.DefAt _ mg "_law_wrong_log" K01.st__law_wrong_log ["pen", "kinds", "log"]) => ?zgo_11) (Z.def_mk KX G ?za_11 ?zl_11 ?zc_11 ?zk_11 K01.b__law_wrong_log)
    (case za_11 => k_is); (case zl_11 => k_is); (case zc_11 => k_is); (case zk_11 => k_is)
    refine' (fun (d_is_name : Z.DefAt _ mg "is_name" K01.st_is_name ["value"]) => ?zgo_12) (Z.def_mk KX G ?za_12 ?zl_12 ?zc_12 ?zk_12 K01.b_is_name)
    (case za_12 => k_is); (case zl_12 => k_is); (case zc_12 => k_is); (case zk_12 => k_is)
    refine' (fun (d_is_free_name : Z.DefAt _ mg "is_free_name" K01.st_is_free_name ["value"]) => ?zgo_13) (Z.def_mk KX G ?za_13 ?zl_13 ?zc_13 ?zk_13 K01.b_is_free_name)
    (case za_13 => k_is); (case zl_13 => k_is); (case zc_13 => k_is); (case zk_13 => k_is)
    refine' (fun (d_are_kinds : Z.DefAt _ mg "are_kinds" K01.st_are_kinds ["value"]) => ?zgo_14) (Z.def_mk KX G ?za_14 ?zl_14 ?zc_14 ?zk_14 K01.b_are_kinds)
    (case za_14 => k_is); (case zl_14 => k_is); (case zc_14 => k_is); (case zk_14 => k_is)
    refine' (fun (d_need_kinds : Z.DefAt _ mg "need_kinds" K01.st_need_kinds ["kinds"]) => ?zgo_15) (Z.def_mk KX G ?za_15 ?zl_15 ?zc_15 ?zk_15 K01.b_need_kinds)
    (case za_15 => k_is); (case zl_15 => k_is); (case zc_15 => k_is); (case zk_15 => k_is)
    refine' (fun (d_is_whole : Z.DefAt _ mg "is_whole" K01.st_is_whole ["value"]) => ?zgo_16) (Z.def_mk KX G ?za_16 ?zl_16 ?zc_16 ?zk_16 K01.b_is_whole)
    (case za_16 => k_is); (case zl_16 => k_is); (case zc_16 => k_is); (case zk_16 => k_is)
    refine' (fun (d_is_count : Z.DefAt _ mg "is_count" K01.st_is_count ["value"]) => ?zgo_17) (Z.def_mk KX G ?za_17 ?zl_17 ?zc_17 ?zk_17 K01.b_is_count)
    (case za_17 => k_is); (case zl_17 => k_is); (case zc_17 => k_is); (case zk_17 => k_is)
    refine' (fun (d_is_event_in : Z.DefAt _ mg "is_event_in" K01.st_is_event_in ["kinds", "value"]) => ?zgo_18) (Z.def_mk KX G ?za_18 ?zl_18 ?zc_18 ?zk_18 K01.b_is_event_in)
    (case za_18 => k_is); (case zl_18 => k_is); (case zc_18 => k_is); (case zk_18 => k_is)
    refine' (fun (d_is_log_in : Z.DefAt _ mg "is_log_in" K01.st_is_log_in ["kinds", "value"]) => ?zgo_19) (Z.def_mk KX G ?za_19 ?zl_19 ?zc_19 ?zk_19 K01.b_is_log_in)
    (case za_19 => k_is); (case zl_19 => k_is); (case zc_19 => k_is); (case zk_19 => k_is)
    refine' (fun (d_need_log : Z.DefAt _ mg "need_log" K01.st_need_log ["kinds", "log"]) => ?zgo_20) (Z.def_mk KX G ?za_20 ?zl_20 ?zc_20 ?zk_20 K01.b_need_log)
    (case za_20 => k_is); (case zl_20 => k_is); (case zc_20 => k_is); (case zk_20 => k_is)
    refine' (fun (d_plain_in : Z.DefAt _ mg "plain_in" K01.st_plain_in ["log"]) => ?zgo_21) (Z.def_mk KX G ?za_21 ?zl_21 ?zc_21 ?zk_21 K01.b_plain_in)
    (case za_21 => k_is); (case zl_21 => k_is); (case zc_21 => k_is); (case zk_21 => k_is)
    refine' (fun (d_are_alike : Z.DefAt _ mg "are_alike" K01.st_are_alike ["kinds", "first", "second"]) => ?zgo_22) (Z.def_mk KX G ?za_22 ?zl_22 ?zc_22 ?zk_22 K01.b_are_alike)
    (case za_22 => k_is); (case zl_22 => k_is); (case zc_22 => k_is); (case zk_22 => k_is)
    refine' (fun (d_is_less_in : Z.DefAt _ mg "is_less_in" K01.st_is_less_in ["first", "second"]) => ?zgo_23) (Z.def_mk KX G ?za_23 ?zl_23 ?zc_23 ?zk_23 K01.b_is_less_in)
    (case za_23 => k_is); (case zl_23 => k_is); (case zc_23 => k_is); (case zk_23 => k_is)
    refine' (fun (d_is_less_log : Z.DefAt _ mg "is_less_log" K01.st_is_less_log ["kinds", "first", "second"]) => ?zgo_24) (Z.def_mk KX G ?za_24 ?zl_24 ?zc_24 ?zk_24 K01.b_is_less_log)
    (case za_24 => k_is); (case zl_24 => k_is); (case zc_24 => k_is); (case zk_24 => k_is)
    refine' (fun (d_is_log : Z.DefAt _ mg "is_log" K01.st_is_log ["kinds", "value"]) => ?zgo_25) (Z.def_mk KX G ?za_25 ?zl_25 ?zc_25 ?zk_25 K01.b_is_log)
    (case za_25 => k_is); (case zl_25 => k_is); (case zc_25 => k_is); (case zk_25 => k_is)
    refine' (fun (d_need_count : Z.DefAt _ mg "need_count" K01.st_need_count ["what", "value"]) => ?zgo_26) (Z.def_mk KX G ?za_26 ?zl_26 ?zc_26 ?zk_26 K01.b_need_count)
    (case za_26 => k_is); (case zl_26 => k_is); (case zc_26 => k_is); (case zk_26 => k_is)
    refine' (fun (d_plain_logs : Z.DefAt _ mg "plain_logs" K01.st_plain_logs ["kinds", "n"]) => ?zgo_27) (Z.def_mk KX G ?za_27 ?zl_27 ?zc_27 ?zk_27 K01.b_plain_logs)
    (case za_27 => k_is); (case zl_27 => k_is); (case zc_27 => k_is); (case zk_27 => k_is)
    refine' (fun (d_logs_of_length : Z.DefAt _ mg "logs_of_length" K01.st_logs_of_length ["kinds", "n"]) => ?zgo_28) (Z.def_mk KX G ?za_28 ?zl_28 ?zc_28 ?zk_28 K01.b_logs_of_length)
    (case za_28 => k_is); (case zl_28 => k_is); (case zc_28 => k_is); (case zk_28 => k_is)
    refine' (fun (d_names_in : Z.DefAt _ mg "names_in" K01.st_names_in ["kinds", "log"]) => ?zgo_29) (Z.def_mk KX G ?za_29 ?zl_29 ?zc_29 ?zk_29 K01.b_names_in)
    (case za_29 => k_is); (case zl_29 => k_is); (case zc_29 => k_is); (case zk_29 => k_is)
    refine' (fun (d_plain_log : Z.DefAt _ mg "plain_log" K01.st_plain_log ["kinds", "log"]) => ?zgo_30) (Z.def_mk KX G ?za_30 ?zl_30 ?zc_30 ?zk_30 K01.b_plain_log)
    (case za_30 => k_is); (case zl_30 => k_is); (case zc_30 => k_is); (case zk_30 => k_is)
    refine' (fun (d_law : Z.DefAt _ mg "law" K01.st_law ["script"]) => ?zgo_31) (Z.def_mk KX G ?za_31 ?zl_31 ?zc_31 ?zk_31 K01.b_law)
    (case za_31 => k_is); (case zl_31 => k_is); (case zc_31 => k_is); (case zk_31 => k_is)
    refine' (fun (d__law_refused : Z.DefAt _ mg "_law_refused" K01.st__law_refused ["call"]) => ?zgo_32) (Z.def_mk KX G ?za_32 ?zl_32 ?zc_32 ?zk_32 K01.b__law_refused)
    (case za_32 => k_is); (case zl_32 => k_is); (case zc_32 => k_is); (case zk_32 => k_is)
    refine' (fun (a_BadText : PySem.W.nsIn _ mainGlobals "BadText" = some (some (.ref _))) => ?zgo_33) (Z.ns_mk KX G ?za_33)
    (case za_33 => k_is)
    refine' (fun (x_BadText : Z.XCls _ _) => ?zgo_34) (Z.xcls_mk KX G a_BadText ?zga_34 ?zgg_34 ?zeB_34 ?zhC_34 ?zhc_34 ?zhn_34 ?zht_34 ?zhm_34 ?ziC_34)
    (case zga_34 => k_is); (case zgg_34 => k_is); (case zeB_34 => k_is); (case zhC_34 => k_is); (case zhc_34 => k_is); (case zhn_34 => k_is); (case zht_34 => k_is); (case zhm_34 => k_is); (case ziC_34 => k_is)
    refine' (fun (a_BadNumber : PySem.W.nsIn _ mainGlobals "BadNumber" = some (some (.ref _))) => ?zgo_35) (Z.ns_mk KX G ?za_35)
    (case za_35 => k_is)
    refine' (fun (x_BadNumber : Z.XCls _ _) => ?zgo_36) (Z.xcls_mk KX G a_BadNumber ?zga_36 ?zgg_36 ?zeB_36 ?zhC_36 ?zhc_36 ?zhn_36 ?zht_36 ?zhm_36 ?ziC_36)
    (case zga_36 => k_is); (case zgg_36 => k_is); (case zeB_36 => k_is); (case zhC_36 => k_is); (case zhc_36 => k_is); (case zhn_36 => k_is); (case zht_36 => k_is); (case zhm_36 => k_is); (case ziC_36 => k_is)
    refine' (fun (a_BadName : PySem.W.nsIn _ mainGlobals "BadName" = some (some (.ref _))) => ?zgo_37) (Z.ns_mk KX G ?za_37)
    (case za_37 => k_is)
    refine' (fun (x_BadName : Z.XCls _ _) => ?zgo_38) (Z.xcls_mk KX G a_BadName ?zga_38 ?zgg_38 ?zeB_38 ?zhC_38 ?zhc_38 ?zhn_38 ?zht_38 ?zhm_38 ?ziC_38)
    (case zga_38 => k_is); (case zgg_38 => k_is); (case zeB_38 => k_is); (case zhC_38 => k_is); (case zhc_38 => k_is); (case zhn_38 => k_is); (case zht_38 => k_is); (case zhm_38 => k_is); (case ziC_38 => k_is)
    refine' (fun (a_NoName : PySem.W.nsIn _ mainGlobals "NoName" = some (some (.ref _))) => ?zgo_39) (Z.ns_mk KX G ?za_39)
    (case za_39 => k_is)
    refine' (fun (x_NoName : Z.XCls _ _) => ?zgo_40) (Z.xcls_mk KX G a_NoName ?zga_40 ?zgg_40 ?zeB_40 ?zhC_40 ?zhc_40 ?zhn_40 ?zht_40 ?zhm_40 ?ziC_40)
    (case zga_40 => k_is); (case zgg_40 => k_is); (case zeB_40 => k_is); (case zhC_40 => k_is); (case zhc_40 => k_is); (case zhn_40 => k_is); (case zht_40 => k_is); (case zhm_40 => k_is); (case ziC_40 => k_is)
    refine' (fun (a_BadKinds : PySem.W.nsIn _ mainGlobals "BadKinds" = some (some (.ref _))) => ?zgo_41) (Z.ns_mk KX G ?za_41)
    (case za_41 => k_is)
    refine' (fun (x_BadKinds : Z.XCls _ _) => ?zgo_42) (Z.xcls_mk KX G a_BadKinds ?zga_42 ?zgg_42 ?zeB_42 ?zhC_42 ?zhc_42 ?zhn_42 ?zht_42 ?zhm_42 ?ziC_42)
    (case zga_42 => k_is); (case zgg_42 => k_is); (case zeB_42 => k_is); (case zhC_42 => k_is); (case zhc_42 => k_is); (case zhn_42 => k_is); (case zht_42 => k_is); (case zhm_42 => k_is); (case ziC_42 => k_is)
    refine' (fun (a_BadLog : PySem.W.nsIn _ mainGlobals "BadLog" = some (some (.ref _))) => ?zgo_43) (Z.ns_mk KX G ?za_43)
    (case za_43 => k_is)
    refine' (fun (x_BadLog : Z.XCls _ _) => ?zgo_44) (Z.xcls_mk KX G a_BadLog ?zga_44 ?zgg_44 ?zeB_44 ?zhC_44 ?zhc_44 ?zhn_44 ?zht_44 ?zhm_44 ?ziC_44)
    (case zga_44 => k_is); (case zgg_44 => k_is); (case zeB_44 => k_is); (case zhC_44 => k_is); (case zhc_44 => k_is); (case zhn_44 => k_is); (case zht_44 => k_is); (case zhm_44 => k_is); (case ziC_44 => k_is)
    refine' (fun (a_BadMachine : PySem.W.nsIn _ mainGlobals "BadMachine" = some (some (.ref _))) => ?zgo_45) (Z.ns_mk KX G ?za_45)
    (case za_45 => k_is)
    refine' (fun (x_BadMachine : Z.XCls _ _) => ?zgo_46) (Z.xcls_mk KX G a_BadMachine ?zga_46 ?zgg_46 ?zeB_46 ?zhC_46 ?zhc_46 ?zhn_46 ?zht_46 ?zhm_46 ?ziC_46)
    (case zga_46 => k_is); (case zgg_46 => k_is); (case zeB_46 => k_is); (case zhC_46 => k_is); (case zhc_46 => k_is); (case zhn_46 => k_is); (case zht_46 => k_is); (case zhm_46 => k_is); (case ziC_46 => k_is)
    refine' (fun (a_BadWriter : PySem.W.nsIn _ mainGlobals "BadWriter" = some (some (.ref _))) => ?zgo_47) (Z.ns_mk KX G ?za_47)
    (case za_47 => k_is)
    refine' (fun (x_BadWriter : Z.XCls _ _) => ?zgo_48) (Z.xcls_mk KX G a_BadWriter ?zga_48 ?zgg_48 ?zeB_48 ?zhC_48 ?zhc_48 ?zhn_48 ?zht_48 ?zhm_48 ?ziC_48)
    (case zga_48 => k_is); (case zgg_48 => k_is); (case zeB_48 => k_is); (case zhC_48 => k_is); (case zhc_48 => k_is); (case zhn_48 => k_is); (case zht_48 => k_is); (case zhm_48 => k_is); (case ziC_48 => k_is)
    refine' (fun (a_BadJob : PySem.W.nsIn _ mainGlobals "BadJob" = some (some (.ref _))) => ?zgo_49) (Z.ns_mk KX G ?za_49)
    (case za_49 => k_is)
    refine' (fun (x_BadJob : Z.XCls _ _) => ?zgo_50) (Z.xcls_mk KX G a_BadJob ?zga_50 ?zgg_50 ?zeB_50 ?zhC_50 ?zhc_50 ?zhn_50 ?zht_50 ?zhm_50 ?ziC_50)
    (case zga_50 => k_is); (case zgg_50 => k_is); (case zeB_50 => k_is); (case zhC_50 => k_is); (case zhc_50 => k_is); (case zhn_50 => k_is); (case zht_50 => k_is); (case zhm_50 => k_is); (case ziC_50 => k_is)
    refine' (fun (a_BadPaper : PySem.W.nsIn _ mainGlobals "BadPaper" = some (some (.ref _))) => ?zgo_51) (Z.ns_mk KX G ?za_51)
    (case za_51 => k_is)
    refine' (fun (x_BadPaper : Z.XCls _ _) => ?zgo_52) (Z.xcls_mk KX G a_BadPaper ?zga_52 ?zgg_52 ?zeB_52 ?zhC_52 ?zhc_52 ?zhn_52 ?zht_52 ?zhm_52 ?ziC_52)
    (case zga_52 => k_is); (case zgg_52 => k_is); (case zeB_52 => k_is); (case zhC_52 => k_is); (case zhc_52 => k_is); (case zhn_52 => k_is); (case zht_52 => k_is); (case zhm_52 => k_is); (case ziC_52 => k_is)
    refine' (fun (a_NotKept : PySem.W.nsIn _ mainGlobals "NotKept" = some (some (.ref _))) => ?zgo_53) (Z.ns_mk KX G ?za_53)
    (case za_53 => k_is)
    refine' (fun (x_NotKept : Z.XCls _ _) => ?zgo_54) (Z.xcls_mk KX G a_NotKept ?zga_54 ?zgg_54 ?zeB_54 ?zhC_54 ?zhc_54 ?zhn_54 ?zht_54 ?zhm_54 ?ziC_54)
    (case zga_54 => k_is); (case zgg_54 => k_is); (case zeB_54 => k_is); (case zhC_54 => k_is); (case zhc_54 => k_is); (case zhn_54 => k_is); (case zht_54 => k_is); (case zhm_54 => k_is); (case ziC_54 => k_is)
    refine' (fun (c_BadText : Z.Cls2 _ mg "BadText" K01.sc_BadText "line" "column") => ?zgo_55) (Z.cls2_mk KX G a_BadText ?zxL_55 ?zrB_55 ?zsa_55 ?zeC_55 ?ztC_55 ?zkC_55 x_BadText ?znf_55 ?znf2_55 ?za1_55 ?zt1_55 ?zl1_55 ?zc1_55 ?zk1_55 K01.b_BadText)
    (case zxL_55 => k_is); (case zrB_55 => decide +kernel); (case zsa_55 => k_is); (case zeC_55 => k_is); (case ztC_55 => k_is); (case zkC_55 => k_is); (case znf_55 => k_is); (case znf2_55 => k_is); (case za1_55 => k_is); (case zt1_55 => k_is); (case zl1_55 => k_is); (case zc1_55 => k_is); (case zk1_55 => k_is)
    refine' (fun (c_BadNumber : Z.Cls2 _ mg "BadNumber" K01.sc_BadNumber "what" "number") => ?zgo_56) (Z.cls2_mk KX G a_BadNumber ?zxL_56 ?zrB_56 ?zsa_56 ?zeC_56 ?ztC_56 ?zkC_56 x_BadNumber ?znf_56 ?znf2_56 ?za1_56 ?zt1_56 ?zl1_56 ?zc1_56 ?zk1_56 K01.b_BadNumber)
    (case zxL_56 => k_is); (case zrB_56 => decide +kernel); (case zsa_56 => k_is); (case zeC_56 => k_is); (case ztC_56 => k_is); (case zkC_56 => k_is); (case znf_56 => k_is); (case znf2_56 => k_is); (case za1_56 => k_is); (case zt1_56 => k_is); (case zl1_56 => k_is); (case zc1_56 => k_is); (case zk1_56 => k_is)
    refine' (fun (c_BadName : Z.Cls1 _ mg "BadName" K01.sc_BadName "name") => ?zgo_57) (Z.cls1_mk KX G a_BadName ?zxL_57 ?zrB_57 ?zsa_57 ?zeC_57 ?ztC_57 ?zkC_57 x_BadName ?znf_57 ?za1_57 ?zt1_57 ?zl1_57 ?zc1_57 ?zk1_57 K01.b_BadName)
    (case zxL_57 => k_is); (case zrB_57 => decide +kernel); (case zsa_57 => k_is); (case zeC_57 => k_is); (case ztC_57 => k_is); (case zkC_57 => k_is); (case znf_57 => k_is); (case za1_57 => k_is); (case zt1_57 => k_is); (case zl1_57 => k_is); (case zc1_57 => k_is); (case zk1_57 => k_is)
    refine' (fun (c_NoName : Z.Cls1 _ mg "NoName" K01.sc_NoName "name") => ?zgo_58) (Z.cls1_mk KX G a_NoName ?zxL_58 ?zrB_58 ?zsa_58 ?zeC_58 ?ztC_58 ?zkC_58 x_NoName ?znf_58 ?za1_58 ?zt1_58 ?zl1_58 ?zc1_58 ?zk1_58 K01.b_NoName)
    (case zxL_58 => k_is); (case zrB_58 => decide +kernel); (case zsa_58 => k_is); (case zeC_58 => k_is); (case ztC_58 => k_is); (case zkC_58 => k_is); (case znf_58 => k_is); (case za1_58 => k_is); (case zt1_58 => k_is); (case zl1_58 => k_is); (case zc1_58 => k_is); (case zk1_58 => k_is)
    refine' (fun (c_BadKinds : Z.Cls1 _ mg "BadKinds" K01.sc_BadKinds "kinds") => ?zgo_59) (Z.cls1_mk KX G a_BadKinds ?zxL_59 ?zrB_59 ?zsa_59 ?zeC_59 ?ztC_59 ?zkC_59 x_BadKinds ?znf_59 ?za1_59 ?zt1_59 ?zl1_59 ?zc1_59 ?zk1_59 K01.b_BadKinds)
    (case zxL_59 => k_is); (case zrB_59 => decide +kernel); (case zsa_59 => k_is); (case zeC_59 => k_is); (case ztC_59 => k_is); (case zkC_59 => k_is); (case znf_59 => k_is); (case za1_59 => k_is); (case zt1_59 => k_is); (case zl1_59 => k_is); (case zc1_59 => k_is); (case zk1_59 => k_is)
    refine' (fun (c_BadLog : Z.Cls1 _ mg "BadLog" K01.sc_BadLog "log") => ?zgo_60) (Z.cls1_mk KX G a_BadLog ?zxL_60 ?zrB_60 ?zsa_60 ?zeC_60 ?ztC_60 ?zkC_60 x_BadLog ?znf_60 ?za1_60 ?zt1_60 ?zl1_60 ?zc1_60 ?zk1_60 K01.b_BadLog)
    (case zxL_60 => k_is); (case zrB_60 => decide +kernel); (case zsa_60 => k_is); (case zeC_60 => k_is); (case ztC_60 => k_is); (case zkC_60 => k_is); (case znf_60 => k_is); (case za1_60 => k_is); (case zt1_60 => k_is); (case zl1_60 => k_is); (case zc1_60 => k_is); (case zk1_60 => k_is)
    refine' (fun (c_BadMachine : Z.Cls1 _ mg "BadMachine" K01.sc_BadMachine "machine") => ?zgo_61) (Z.cls1_mk KX G a_BadMachine ?zxL_61 ?zrB_61 ?zsa_61 ?zeC_61 ?ztC_61 ?zkC_61 x_BadMachine ?znf_61 ?za1_61 ?zt1_61 ?zl1_61 ?zc1_61 ?zk1_61 K01.b_BadMachine)
    (case zxL_61 => k_is); (case zrB_61 => decide +kernel); (case zsa_61 => k_is); (case zeC_61 => k_is); (case ztC_61 => k_is); (case zkC_61 => k_is); (case znf_61 => k_is); (case za1_61 => k_is); (case zt1_61 => k_is); (case zl1_61 => k_is); (case zc1_61 => k_is); (case zk1_61 => k_is)
    refine' (fun (c_BadWriter : Z.Cls1 _ mg "BadWriter" K01.sc_BadWriter "writer") => ?zgo_62) (Z.cls1_mk KX G a_BadWriter ?zxL_62 ?zrB_62 ?zsa_62 ?zeC_62 ?ztC_62 ?zkC_62 x_BadWriter ?znf_62 ?za1_62 ?zt1_62 ?zl1_62 ?zc1_62 ?zk1_62 K01.b_BadWriter)
    (case zxL_62 => k_is); (case zrB_62 => decide +kernel); (case zsa_62 => k_is); (case zeC_62 => k_is); (case ztC_62 => k_is); (case zkC_62 => k_is); (case znf_62 => k_is); (case za1_62 => k_is); (case zt1_62 => k_is); (case zl1_62 => k_is); (case zc1_62 => k_is); (case zk1_62 => k_is)
    refine' (fun (c_BadJob : Z.Cls1 _ mg "BadJob" K01.sc_BadJob "job") => ?zgo_63) (Z.cls1_mk KX G a_BadJob ?zxL_63 ?zrB_63 ?zsa_63 ?zeC_63 ?ztC_63 ?zkC_63 x_BadJob ?znf_63 ?za1_63 ?zt1_63 ?zl1_63 ?zc1_63 ?zk1_63 K01.b_BadJob)
    (case zxL_63 => k_is); (case zrB_63 => decide +kernel); (case zsa_63 => k_is); (case zeC_63 => k_is); (case ztC_63 => k_is); (case zkC_63 => k_is); (case znf_63 => k_is); (case za1_63 => k_is); (case zt1_63 => k_is); (case zl1_63 => k_is); (case zc1_63 => k_is); (case zk1_63 => k_is)
    refine' (fun (c_BadPaper : Z.Cls1 _ mg "BadPaper" K01.sc_BadPaper "paper") => ?zgo_64) (Z.cls1_mk KX G a_BadPaper ?zxL_64 ?zrB_64 ?zsa_64 ?zeC_64 ?ztC_64 ?zkC_64 x_BadPaper ?znf_64 ?za1_64 ?zt1_64 ?zl1_64 ?zc1_64 ?zk1_64 K01.b_BadPaper)
    (case zxL_64 => k_is); (case zrB_64 => decide +kernel); (case zsa_64 => k_is); (case zeC_64 => k_is); (case ztC_64 => k_is); (case zkC_64 => k_is); (case znf_64 => k_is); (case za1_64 => k_is); (case zt1_64 => k_is); (case zl1_64 => k_is); (case zc1_64 => k_is); (case zk1_64 => k_is)
    refine' (fun (c_NotKept : Z.Cls2 _ mg "NotKept" K01.sc_NotKept "promise" "witness") => ?zgo_65) (Z.cls2_mk KX G a_NotKept ?zxL_65 ?zrB_65 ?zsa_65 ?zeC_65 ?ztC_65 ?zkC_65 x_NotKept ?znf_65 ?znf2_65 ?za1_65 ?zt1_65 ?zl1_65 ?zc1_65 ?zk1_65 K01.b_NotKept)
    (case zxL_65 => k_is); (case zrB_65 => decide +kernel); (case zsa_65 => k_is); (case zeC_65 => k_is); (case ztC_65 => k_is); (case zkC_65 => k_is); (case znf_65 => k_is); (case znf2_65 => k_is); (case za1_65 => k_is); (case zt1_65 => k_is); (case zl1_65 => k_is); (case zc1_65 => k_is); (case zk1_65 => k_is)
    refine' (fun (f_all : mg "all" = none) => ?zgo_66) (Z.none_mk KX G ?zz_66)
    (case zz_66 => k_is)
    refine' (fun (f_bool : mg "bool" = none) => ?zgo_67) (Z.none_mk KX G ?zz_67)
    (case zz_67 => k_is)
    refine' (fun (f_enumerate : mg "enumerate" = none) => ?zgo_68) (Z.none_mk KX G ?zz_68)
    (case zz_68 => k_is)
    refine' (fun (f_int : mg "int" = none) => ?zgo_69) (Z.none_mk KX G ?zz_69)
    (case zz_69 => k_is)
    refine' (fun (f_isinstance : mg "isinstance" = none) => ?zgo_70) (Z.none_mk KX G ?zz_70)
    (case zz_70 => k_is)
    refine' (fun (f_len : mg "len" = none) => ?zgo_71) (Z.none_mk KX G ?zz_71)
    (case zz_71 => k_is)
    refine' (fun (f_list : mg "list" = none) => ?zgo_72) (Z.none_mk KX G ?zz_72)
    (case zz_72 => k_is)
    refine' (fun (f_max : mg "max" = none) => ?zgo_73) (Z.none_mk KX G ?zz_73)
    (case zz_73 => k_is)
    refine' (fun (f_range : mg "range" = none) => ?zgo_74) (Z.none_mk KX G ?zz_74)
    (case zz_74 => k_is)
    refine' (fun (f_repr : mg "repr" = none) => ?zgo_75) (Z.none_mk KX G ?zz_75)
    (case zz_75 => k_is)
    refine' (fun (f_str : mg "str" = none) => ?zgo_76) (Z.none_mk KX G ?zz_76)
    (case zz_76 => k_is)
    refine' (fun (f_tuple : mg "tuple" = none) => ?zgo_77) (Z.none_mk KX G ?zz_77)
    (case zz_77 => k_is)
    refine' (fun (k_MOST_KINDS : Z.GCon _ mg "MOST_KINDS" K01.k_MOST_KINDS) => ?zgo_78) (Z.gcon_int KX G ?zz_78)
    (case zz_78 => k_is)
    refine' (fun (k_SIGNS : Z.GCon _ mg "SIGNS" K01.k_SIGNS) => ?zgo_79) (Z.gcon_str KX G ?zz_79)
    (case zz_79 => k_is)
    refine' (fun (k_SMALL : Z.GCon _ mg "SMALL" K01.k_SMALL) => ?zgo_80) (Z.gcon_str KX G ?zz_80)
    (case zz_80 => k_is)
    refine' (fun (k_TOLD : Z.GCon _ mg "TOLD" K01.k_TOLD) => ?zgo_81) (Z.gcon_tup KX G ?za_81 ?zl_81 ?zs_81 ?zv_81)
    (case za_81 => k_is); (case zl_81 => k_is); (case zs_81 => rfl); (case zv_81 => rfl)
    refine' (fun (xt : Z.ExTab _ mg K01.xkids) => ?zgo_82) (Z.extab_of (Z.allat_cons KX G a_BadText x_BadText (Z.allat_cons KX G a_BadNumber x_BadNumber (Z.allat_cons KX G a_BadName x_BadName (Z.allat_cons KX G a_NoName x_NoName (Z.allat_cons KX G a_BadKinds x_BadKinds (Z.allat_cons KX G a_BadLog x_BadLog (Z.allat_cons KX G a_BadMachine x_BadMachine (Z.allat_cons KX G a_BadWriter x_BadWriter (Z.allat_cons KX G a_BadPaper x_BadPaper (Z.allat_cons KX G a_BadJob x_BadJob (Z.allat_cons KX G a_NotKept x_NotKept Z.allat_nil))))))))))) rfl ?zkk_82)
    (case zkk_82 => first | k_is | rfl | decide +kernel)
    exact fun base _ _ TBs => Z.fin_comp (K01.w_law ⟨d__law_all, d__law_draw, d__law_shuffled, d__law_kinds, d__law_event, d__law_log, d__law_pen, d__law_pick, d__law_plain, d__law_wrong_kinds, d__law_wrong_log, d_is_name, d_is_free_name, d_are_kinds, d_need_kinds, d_is_whole, d_is_count, d_is_event_in, d_is_log_in, d_need_log, d_plain_in, d_are_alike, d_is_less_in, d_is_less_log, d_is_log, d_need_count, d_plain_logs, d_logs_of_length, d_names_in, d_plain_log, d_law, d__law_refused, c_BadText, c_BadNumber, c_BadName, c_NoName, c_BadKinds, c_BadLog, c_BadMachine, c_BadWriter, c_BadJob, c_BadPaper, c_NotKept, f_all, f_bool, f_enumerate, f_int, f_isinstance, f_len, f_list, f_max, f_range, f_repr, f_str, f_tuple, k_MOST_KINDS, k_SIGNS, k_SMALL, k_TOLD, Z.kok_none, xt⟩ TBs) hmg

