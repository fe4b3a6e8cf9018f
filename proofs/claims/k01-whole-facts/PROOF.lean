import PyProof.Rows.All
import Wide.All
import OpenK.AllK
import Wide.FinOn
import HandS.ForMost
import HandS.Walk
import HandS.Flow
import HandS.TupAny
import HandS.Deep
import HandS.IsInst
import HandS.Conv
import HandS.Strs
import HandS.Defaults
import HandS.Property
import HandS.Zip
import KE.GoesMore
import HandS.MakeKwOnly
import HandS.HeadHook2
import HandS.Style
import HandS.Set
import PyProof.Rows.SetFrom
import PyProof.WalkLemmas
import HandS.DictComp
import HandS.DictEq
import HandS.Exc
import HandS.ExcOwn
import HandS.ExcValue
import HandS.TryOnly
import HandS.WordsExc
import HandS.Lambda
import HandS.EndTab
import HandS.HeadWalk
import HandS.HeadHook4
import KE.KExcIs
import HandS.HeadNt
import HandS.HeadEnd
import HandS.Head2
import PySem.Challenge.RW_inallworlds_k01_whole_facts
import PyProof.ExcBaseAll.ValueError
import KE.KStateDown
import HandS.Head0
import HandS.Head1
set_option Elab.async false
set_option linter.all false
set_option maxRecDepth 100000
set_option maxHeartbeats 0
/-! W1: data, cells, memory; what an expression does, told over data. -/
namespace Ww
open PySem L2
/-- what a value says, as a tree -/
inductive D where
  | non
  | bl (b : Bool)
  | int (i : Int)
  | str (x : Str)
  | tup (l : List D)
  | tpl (l : List D)
  | lst (l : List D)
  | dic (ks vs : List D)
  | ins (C : Addr) (ns : List Str) (vs : List D)
  | ty (n : String)
  | cls (C : Addr)
abbrev Fg := PySem.W.Frag
def kD : Key → D
  | .inl i => .int i
  | .inr x => .str x
mutual
def Rep (K : Fg) (F : Hp) : D → V → Prop
  | .non, v => v = .non
  | .bl b, v => v = .bl b
  | .int i, v => v = .int i
  | .str x, v => v = .str x
  | .tup l, v => ∃ a vs, v = .ref a ∧ SqT K F a vs ∧ RepL K F l vs
  | .tpl l, v => ∃ (a : Addr) (vs : List V) (o : Obj), v = .ref a ∧ F a = some (.frz o (.tup vs)) ∧ (o.cls = .type "tuple" ∧ o.dict = Option.none) ∧ RepL K F l vs
  | .lst l, v => ∃ a vs, v = .ref a ∧ Rd F a (.lst vs) ∧ RepL K F l vs
  | .dic ks ds, v => ∃ a, v = .ref a ∧
      ((∃ kvs : List (Key × V), F a = some (.dK kvs) ∧ ks = kvs.map (fun p => kD p.1) ∧ RepL K F ds (kvs.map (·.2))) ∨
       ∃ kvs : List (List Key × V), F a = some (.dT kvs) ∧ ks = kvs.map (fun p => D.tup (p.1.map kD)) ∧ RepL K F ds (kvs.map (·.2)))
  | .ins C ns ds, v => ∃ a dx fs, v = .ref a ∧ F a = some (.ins C dx fs) ∧ fs.map (·.1) = ns ∧ RepL K F ds (fs.map (·.2))
  | .ty n, v => v = .ty n
  | .cls C, v => v = .ref C
def RepL (K : Fg) (F : Hp) : List D → List V → Prop
  | [], vs => vs = []
  | d :: ds, vs => ∃ v r, vs = v :: r ∧ Rep K F d v ∧ RepL K F ds r
end
theorem rep_non {K : Fg} {F : Hp} : Rep K F .non .non := rfl
theorem rep_bl {K : Fg} {F : Hp} {b : Bool} : Rep K F (.bl b) (.bl b) := rfl
theorem rep_int {K : Fg} {F : Hp} {i : Int} : Rep K F (.int i) (.int i) := rfl
theorem rep_str {K : Fg} {F : Hp} {x : Str} : Rep K F (.str x) (.str x) := rfl
/-- read as data: a tuple that is known to have no dict is a tuple -/
def nrm : D → D
  | .tpl l => .tup l
  | d => d
theorem Rep.nrm {K : Fg} {F : Hp} : ∀ {d : D} {v : V}, Rep K F d v → Rep K F (Ww.nrm d) v
  | .non, _, h => h
  | .bl _, _, h => h
  | .int _, _, h => h
  | .str _, _, h => h
  | .tup _, _, h => h
  | .tpl l, _, ⟨a, vs, o, h1, h2, _, h3⟩ => ⟨a, vs, h1, .inl (.inr ⟨o, h2⟩), h3⟩
  | .lst _, _, h => h
  | .dic _ _, _, h => h
  | .ins _ _ _, _, h => h
  | .ty _, _, h => h
  | .cls _, _, h => h
def Sub (F F' : Hp) : Prop := ∀ a o, F a = some o → F' a = some o
theorem Sub.refl (F : Hp) : Sub F F := fun _ _ h => h
theorem Sub.trans {F F1 F2 : Hp} (a : Sub F F1) (b : Sub F1 F2) : Sub F F2 := fun x o h => b x o (a x o h)
theorem Sub.rd {F F' : Hp} {a : Addr} {u : HO} (e : Sub F F') (h : Rd F a u) : Rd F' a u :=
  h.elim (fun z => .inl (e a _ z)) fun ⟨o, z⟩ => .inr ⟨o, e a _ z⟩
theorem Sub.sqL {K : Fg} {F F' : Hp} {a : Addr} {xs : List V} (e : Sub F F') (h : SqL K F a xs) : SqL K F' a xs :=
  h.elim (fun z => .inl (e.rd z)) .inr
theorem Sub.sqT {K : Fg} {F F' : Hp} {a : Addr} {xs : List V} (e : Sub F F') (h : SqT K F a xs) : SqT K F' a xs :=
  h.elim (fun z => .inl (e.rd z)) .inr
mutual
theorem Rep.mono {K : Fg} {F F' : Hp} (e : Sub F F') : ∀ (d : D) (v : V), Rep K F d v → Rep K F' d v
  | .non, _, h => h
  | .bl _, _, h => h
  | .int _, _, h => h
  | .str _, _, h => h
  | .tup l, v, ⟨a, vs, h1, h2, h3⟩ => ⟨a, vs, h1, e.sqT h2, RepL.mono e l vs h3⟩
  | .tpl l, v, ⟨a, vs, o, h1, h2, h4, h3⟩ => ⟨a, vs, o, h1, e _ _ h2, h4, RepL.mono e l vs h3⟩
  | .lst l, v, ⟨a, vs, h1, h2, h3⟩ => ⟨a, vs, h1, e.rd h2, RepL.mono e l vs h3⟩
  | .dic ks ds, v, ⟨a, h1, h2⟩ => ⟨a, h1, by
      rcases h2 with ⟨kvs, g1, g2, g3⟩ | ⟨kvs, g1, g2, g3⟩
      · exact .inl ⟨kvs, e _ _ g1, g2, RepL.mono e ds _ g3⟩
      · exact .inr ⟨kvs, e _ _ g1, g2, RepL.mono e ds _ g3⟩⟩
  | .ins C ns ds, v, ⟨a, dx, fs, h1, h2, h3, h4⟩ => ⟨a, dx, fs, h1, e _ _ h2, h3, RepL.mono e ds _ h4⟩
  | .ty _, _, h => h
  | .cls _, _, h => h
theorem RepL.mono {K : Fg} {F F' : Hp} (e : Sub F F') : ∀ (ds : List D) (vs : List V), RepL K F ds vs → RepL K F' ds vs
  | [], _, h => h
  | d :: ds, vs, ⟨v, r, h1, h2, h3⟩ => ⟨v, r, h1, Rep.mono e d v h2, RepL.mono e ds r h3⟩
end
theorem RepL.mono' {K : Fg} {F F' : Hp} {ds : List D} {vs : List V} (h : RepL K F ds vs) (e : Sub F F') : RepL K F' ds vs := RepL.mono e ds vs h
theorem RepL.len {K : Fg} {F : Hp} : ∀ {ds : List D} {vs : List V}, RepL K F ds vs → vs.length = ds.length
  | [], _, h => by rw [show _ = [] from h]; rfl
  | d :: ds, _, ⟨v, r, h1, _, h3⟩ => by rw [h1, List.length_cons, List.length_cons, h3.len]
theorem RepL.get {K : Fg} {F : Hp} : ∀ {ds : List D} {vs : List V} {i : Nat} {v : V}, RepL K F ds vs → vs[i]? = some v → ∃ d, ds[i]? = some d ∧ Rep K F d v
  | [], _, i, v, h, e => by rw [show _ = [] from h] at e; simp at e
  | d :: ds, _, 0, v, ⟨v', r, h1, h2, _⟩, e => by subst h1; simp at e; subst e; exact ⟨d, rfl, h2⟩
  | d :: ds, _, i + 1, v, ⟨v', r, h1, _, h3⟩, e => by subst h1; exact RepL.get (i := i) h3 (by simpa using e)
theorem RepL.at_ {K : Fg} {F : Hp} : ∀ {ds : List D} {vs : List V} {i : Nat} {d : D}, RepL K F ds vs → ds[i]? = some d → ∃ v, vs[i]? = some v ∧ Rep K F d v
  | [], _, i, v, h, e => by simp at e
  | d :: ds, _, 0, _, ⟨v', r, h1, h2, _⟩, e => by subst h1; simp at e; subst e; exact ⟨v', rfl, h2⟩
  | d :: ds, _, i + 1, _, ⟨v', r, h1, _, h3⟩, e => by subst h1; exact RepL.at_ (i := i) h3 (by simpa using e)
theorem RepL.app {K : Fg} {F : Hp} : ∀ {ds es : List D} {vs us : List V}, RepL K F ds vs → RepL K F es us → RepL K F (ds ++ es) (vs ++ us)
  | [], _, _, _, h, g => by rw [show _ = [] from h]; exact g
  | d :: ds, _, _, _, ⟨v, r, h1, h2, h3⟩, g => by subst h1; exact ⟨v, _, rfl, h2, h3.app g⟩
theorem RepL.one {K : Fg} {F : Hp} {d : D} {v : V} (h : Rep K F d v) : RepL K F [d] [v] := ⟨v, [], rfl, h, rfl⟩
theorem RepL.drop {K : Fg} {F : Hp} : ∀ {ds : List D} {vs : List V} (n : Nat), RepL K F ds vs → RepL K F (ds.drop n) (vs.drop n)
  | _, _, 0, h => h
  | [], _, _ + 1, h => by rw [show _ = [] from h]; rfl
  | d :: ds, _, n + 1, ⟨v, r, h1, _, h3⟩ => by subst h1; exact RepL.drop n h3
theorem RepL.take {K : Fg} {F : Hp} : ∀ {ds : List D} {vs : List V} (n : Nat), RepL K F ds vs → RepL K F (ds.take n) (vs.take n)
  | _, _, 0, _ => rfl
  | [], _, _ + 1, h => by rw [show _ = [] from h]; rfl
  | d :: ds, _, n + 1, ⟨v, r, h1, h2, h3⟩ => by subst h1; exact ⟨v, _, rfl, h2, RepL.take n h3⟩
/-! ### slots, cells -/
/-- what a name or a cell holds: data, or the k-th cell -/
inductive Sl where
  | d (x : D)
  | m (k : Nat)
inductive Cell where
  | lst (l : List Sl)
  | dic (ks : List Key) (vs : List Sl)
  | ins (C : Addr) (ns : List Str) (vs : List Sl)
  | frz (x : D)
abbrev Mu := List Cell
abbrev Rho := List (Option Sl)
def RepS (K : Fg) (F : Hp) (as : List Addr) : Sl → V → Prop
  | .d x, v => Rep K F x v
  | .m k, v => ∃ a, as[k]? = some a ∧ v = .ref a
abbrev RepSs (K : Fg) (F : Hp) (as : List Addr) : List Sl → List V → Prop := Paired (RepS K F as)
def CellAt (K : Fg) (F H : Hp) (as : List Addr) (a : Addr) : Cell → Prop
  | .lst l => F a = none ∧ ∃ vs, H a = some (.lst vs) ∧ RepSs K F as l vs
  | .dic ks l => F a = none ∧ ∃ kvs : List (Key × V), H a = some (.dK kvs) ∧ kvs.map (·.1) = ks ∧ RepSs K F as l (kvs.map (·.2))
  | .ins C ns l => F a = none ∧ ∃ dx fs, H a = some (.ins C dx fs) ∧ fs.map (·.1) = ns ∧ RepSs K F as l (fs.map (·.2))
  | .frz x => Rep K F x (.ref a)
structure Mem (K : Fg) (F H : Hp) (μ : Mu) (as : List Addr) : Prop where
  sub : Sub F H
  len : as.length = μ.length
  nd : as.Nodup
  ex : ∀ a ∈ as, H a ≠ none
  at_ : ∀ (k : Nat) (c : Cell) (a : Addr), μ[k]? = some c → as[k]? = some a → CellAt K F H as a c
structure Later (F H : Hp) (as : List Addr) (F' H' : Hp) (as' : List Addr) : Prop where
  sub : Sub F F'
  pre : as <+: as'
  others : ∀ a o, H a = some o → a ∉ as → H' a = some o
  fresh : ∀ a ∈ as', a ∉ as → H a = none
  frzn : ∀ a, H a ≠ none → a ∉ as → F a = none → F' a = none
theorem Later.refl {F H : Hp} {as : List Addr} : Later F H as F H as :=
  ⟨Sub.refl F, List.prefix_refl as, fun _ _ h _ => h, fun _ h n => absurd h n, fun _ _ _ h => h⟩
theorem Later.trans {F H F1 H1 F2 H2 : Hp} {as as1 as2 : List Addr} (a : Later F H as F1 H1 as1) (b : Later F1 H1 as1 F2 H2 as2) : Later F H as F2 H2 as2 := by
  have key : ∀ x, H x ≠ none → x ∉ as → x ∉ as1 := fun x hx n h => hx (a.fresh x h n)
  refine ⟨a.sub.trans b.sub, a.pre.trans b.pre, fun x o h n => ?_, fun x h n => ?_, fun x h n f => ?_⟩
  · exact b.others x o (a.others x o h n) (key x (by rw [h]; simp) n)
  · by_cases h1 : x ∈ as1
    · exact a.fresh x h1 n
    · cases q : H x with
      | none => rfl
      | some o =>
        have z := b.fresh x h h1
        rw [a.others x o q n] at z
        cases z
  · refine b.frzn x ?_ (key x h n) (a.frzn x h n f)
    cases q : H x with
    | none => exact absurd q h
    | some o => rw [a.others x o q n]; simp
theorem Later.at_ {F H F' H' : Hp} {as as' : List Addr} (L : Later F H as F' H' as') {k : Nat} {a : Addr} (h : as[k]? = some a) : as'[k]? = some a := by
  obtain ⟨r, e⟩ := L.pre
  rw [← e, List.getElem?_append_left (List.getElem?_eq_some_iff.mp h).1]
  exact h
theorem RepS.later {K : Fg} {F H F' H' : Hp} {as as' : List Addr} (L : Later F H as F' H' as') : ∀ {s : Sl} {v : V}, RepS K F as s v → RepS K F' as' s v
  | .d x, v, h => Rep.mono L.sub x v h
  | .m k, _, ⟨a, h, e⟩ => ⟨a, L.at_ h, e⟩
theorem Paired.imp {α β : Type} {R S : α → β → Prop} (f : ∀ a b, R a b → S a b) : ∀ {xs : List α} {ys : List β}, Paired R xs ys → Paired S xs ys
  | _, _, .nil => .nil
  | _, _, .cons h t => .cons (f _ _ h) (Paired.imp f t)
theorem RepSs.later {K : Fg} {F H F' H' : Hp} {as as' : List Addr} (L : Later F H as F' H' as') {l : List Sl} {vs : List V} (h : RepSs K F as l vs) : RepSs K F' as' l vs :=
  Paired.imp (fun _ _ => RepS.later L) h
def EnvR (K : Fg) (F : Hp) (as : List Addr) (σ : L2.St) (ρ : Rho) : Prop :=
  ρ.length = σ.length ∧ ∀ (i : Nat) (s : Sl), ρ[i]? = some (some s) → ∃ v, σ[i]? = some (some v) ∧ RepS K F as s v
theorem EnvR.later {K : Fg} {F H F' H' : Hp} {as as' : List Addr} {σ : L2.St} {ρ : Rho} (L : Later F H as F' H' as') (h : EnvR K F as σ ρ) : EnvR K F' as' σ ρ :=
  ⟨h.1, fun i s e => let ⟨v, h1, h2⟩ := h.2 i s e; ⟨v, h1, h2.later L⟩⟩
theorem EnvR.set {K : Fg} {F : Hp} {as : List Addr} {σ : L2.St} {ρ : Rho} {s : Sl} {v : V} (h : EnvR K F as σ ρ) (i : Nat) (r : RepS K F as s v) : EnvR K F as (σ.set i (some v)) (ρ.set i (some s)) := by
  refine ⟨by rw [List.length_set, List.length_set, h.1], fun j z e => ?_⟩
  by_cases q : i = j
  · subst q
    have hi : i < ρ.length := by
      have := (List.getElem?_eq_some_iff.mp e).1
      rwa [List.length_set] at this
    rw [List.getElem?_set_self hi] at e
    cases e
    exact ⟨v, List.getElem?_set_self (by rw [← h.1]; exact hi), r⟩
  · rw [List.getElem?_set_ne q] at e ⊢
    exact h.2 j z e
/-! ### the memory changes -/
section
variable {K : Fg} {F H : Hp} {μ : Mu} {as : List Addr}
theorem Sub.free {F F' : Hp} (e : Sub F F') {a : Addr} (h : F' a = none) : F a = none := by
  cases q : F a with
  | none => rfl
  | some o => rw [e a o q] at h; cases h
theorem Sub.upd_new {F : Hp} {p : Addr} {o : HO} (h : F p = none) : Sub F (upd F p o) := fun a u e => by
  rw [upd_ne (ne_of_none e h)]
  exact e
theorem CellAt.later {F' H' : Hp} {as' : List Addr} {a : Addr} {c : Cell} (L : Later F H as F' H' as') (hf : F a = none → F' a = none) (hh : ∀ o, H a = some o → H' a = some o) (h : CellAt K F H as a c) : CellAt K F' H' as' a c := by
  cases c with
  | lst l =>
    obtain ⟨h1, vs, h2, h3⟩ := h
    exact ⟨hf h1, vs, hh _ h2, RepSs.later L h3⟩
  | dic ks l =>
    obtain ⟨h1, kvs, h2, h3, h4⟩ := h
    exact ⟨hf h1, kvs, hh _ h2, h3, RepSs.later L h4⟩
  | ins C ns l =>
    obtain ⟨h1, dx, fs, h2, h3, h4⟩ := h
    exact ⟨hf h1, dx, fs, hh _ h2, h3, RepSs.later L h4⟩
  | frz x => exact Rep.mono L.sub x _ h
/-- a new object, known from now on as data -/
theorem Mem.new (M : Mem K F H μ as) {p : Addr} {o : HO} (hp : H p = none) : Mem K (upd F p o) (upd H p o) μ as ∧ Later F H as (upd F p o) (upd H p o) as := by
  have fp : F p = none := M.sub.free hp
  have L : Later F H as (upd F p o) (upd H p o) as := by
    refine ⟨Sub.upd_new fp, List.prefix_refl as, fun a u e _ => by rw [upd_ne (ne_of_none e hp)]; exact e, fun a h n => absurd h n, fun a h _ f => ?_⟩
    rw [upd_ne (fun e => h (by rw [e]; exact hp))]
    exact f
  refine ⟨⟨fun a u e => ?_, M.len, M.nd, fun a h => ?_, fun k c a h1 h2 => ?_⟩, L⟩
  · unfold upd at e ⊢
    split at e
    · rename_i q
      rw [if_pos q]
      exact e
    · rename_i q
      rw [if_neg q]
      exact M.sub a u e
  · have hn := M.ex a h
    rw [upd_ne (fun e => hn (by rw [e]; exact hp))]
    exact hn
  · have ha : a ∈ as := List.mem_of_getElem? h2
    have hn := M.ex a ha
    have ne : a ≠ p := fun e => hn (by rw [e]; exact hp)
    exact (M.at_ k c a h1 h2).later L (fun f => by rw [upd_ne ne]; exact f) fun u e => by rw [upd_ne ne]; exact e
/-- a new cell -/
theorem Mem.cell (M : Mem K F H μ as) {p : Addr} {o : HO} {c : Cell} (hp : H p = none) (hc : ∀ as' : List Addr, (∀ (k : Nat) (a : Addr), as[k]? = some a → as'[k]? = some a) → CellAt K F (upd H p o) as' p c) :
    Mem K F (upd H p o) (μ ++ [c]) (as ++ [p]) ∧ Later F H as F (upd H p o) (as ++ [p]) := by
  have fp : F p = none := M.sub.free hp
  have pn : p ∉ as := fun h => M.ex p h hp
  have L : Later F H as F (upd H p o) (as ++ [p]) := by
    refine ⟨Sub.refl F, List.prefix_append as [p], fun a u e _ => by rw [upd_ne (ne_of_none e hp)]; exact e, fun a h n => ?_, fun a _ _ f => f⟩
    rcases List.mem_append.mp h with h | h
    · exact absurd h n
    · rw [List.mem_singleton.mp h]; exact hp
  refine ⟨⟨fun a u e => ?_, by simp [M.len], ?_, fun a h => ?_, fun k c' a h1 h2 => ?_⟩, L⟩
  · rw [upd_ne (ne_of_none e fp)]
    exact M.sub a u e
  · rw [List.nodup_append]
    exact ⟨M.nd, by simp, fun a h b h' => by rw [List.mem_singleton.mp h']; exact fun e => pn (e ▸ h)⟩
  · rcases List.mem_append.mp h with h | h
    · have hn := M.ex a h
      rw [upd_ne (fun e => hn (by rw [e]; exact hp))]
      exact hn
    · rw [List.mem_singleton.mp h, upd_same]; simp
  · by_cases hk : k < as.length
    · rw [List.getElem?_append_left hk] at h2
      rw [List.getElem?_append_left (by rw [← M.len]; exact hk)] at h1
      have ha : a ∈ as := List.mem_of_getElem? h2
      have ne : a ≠ p := fun e => pn (e ▸ ha)
      exact (M.at_ k c' a h1 h2).later L (fun f => f) fun u e => by rw [upd_ne ne]; exact e
    · have hk2 : k < (as ++ [p]).length := (List.getElem?_eq_some_iff.mp h2).1
      have ek : k = as.length := by simp at hk2; omega
      subst ek
      have e1 : (as ++ [p])[as.length]? = some p := by simp
      rw [e1] at h2
      have e2 : (μ ++ [c])[as.length]? = some c := by rw [M.len]; simp
      rw [e2] at h1
      cases h1
      cases h2
      exact hc _ fun k a h => by
        rw [List.getElem?_append_left (List.getElem?_eq_some_iff.mp h).1]
        exact h
/-- a cell is written -/
theorem Mem.put (M : Mem K F H μ as) {k : Nat} {p : Addr} {o : HO} {c : Cell} (hk : as[k]? = some p) (fp : F p = none) (hc : CellAt K F (upd H p o) as p c) :
    Mem K F (upd H p o) (μ.set k c) as ∧ Later F H as F (upd H p o) as := by
  have hp : p ∈ as := List.mem_of_getElem? hk
  have L : Later F H as F (upd H p o) as :=
    ⟨Sub.refl F, List.prefix_refl as, fun a u e n => by rw [upd_ne (fun q : a = p => n (by rw [q]; exact hp))]; exact e, fun a h n => absurd h n, fun a _ _ f => f⟩
  refine ⟨⟨fun a u e => ?_, by rw [List.length_set]; exact M.len, M.nd, fun a h => ?_, fun j c' a h1 h2 => ?_⟩, L⟩
  · rw [upd_ne (ne_of_none e fp)]
    exact M.sub a u e
  · by_cases e : a = p
    · subst e; rw [upd_same]; simp
    · rw [upd_ne e]; exact M.ex a h
  · by_cases ej : k = j
    · subst ej
      rw [hk] at h2
      cases h2
      have hl : k < μ.length := by rw [← M.len]; exact (List.getElem?_eq_some_iff.mp hk).1
      rw [List.getElem?_set_self hl] at h1
      cases h1
      exact hc
    · rw [List.getElem?_set_ne ej] at h1
      have ne : a ≠ p := fun e => by
        subst e
        obtain ⟨l1, e1⟩ := List.getElem?_eq_some_iff.mp hk
        obtain ⟨l2, e2⟩ := List.getElem?_eq_some_iff.mp h2
        exact ej ((List.getElem_inj M.nd).mp (e1.trans e2.symm))
      exact (M.at_ j c' a h1 h2).later L (fun f => f) fun u e => by rw [upd_ne ne]; exact e
/-- a cell becomes data -/
theorem Mem.frz (M : Mem K F H μ as) {k : Nat} {p : Addr} {o : HO} {x : D} (hk : as[k]? = some p) (fp : F p = none) (ho : H p = some o) (hr : Rep K (upd F p o) x (.ref p)) :
    Mem K (upd F p o) H (μ.set k (.frz x)) as ∧ Later F H as (upd F p o) H as := by
  have hp : p ∈ as := List.mem_of_getElem? hk
  have L : Later F H as (upd F p o) H as :=
    ⟨Sub.upd_new fp, List.prefix_refl as, fun a u e _ => e, fun a h n => absurd h n, fun a _ n f => by rw [upd_ne (fun q : a = p => n (by rw [q]; exact hp))]; exact f⟩
  refine ⟨⟨fun a u e => ?_, by rw [List.length_set]; exact M.len, M.nd, M.ex, fun j c' a h1 h2 => ?_⟩, L⟩
  · by_cases q : a = p
    · subst q; rw [upd_same] at e; rw [← e]; exact ho
    · rw [upd_ne q] at e; exact M.sub a u e
  · by_cases ej : k = j
    · subst ej
      rw [hk] at h2
      cases h2
      have hl : k < μ.length := by rw [← M.len]; exact (List.getElem?_eq_some_iff.mp hk).1
      rw [List.getElem?_set_self hl] at h1
      cases h1
      exact hr
    · rw [List.getElem?_set_ne ej] at h1
      have ne : a ≠ p := fun e => by
        subst e
        obtain ⟨l1, e1⟩ := List.getElem?_eq_some_iff.mp hk
        obtain ⟨l2, e2⟩ := List.getElem?_eq_some_iff.mp h2
        exact ej ((List.getElem_inj M.nd).mp (e1.trans e2.symm))
      exact (M.at_ j c' a h1 h2).later L (fun f => by rw [upd_ne ne]; exact f) fun u e => e
end
end Ww
/-! W2: expressions. -/
namespace Ww
open PySem L2
abbrev AE := Rho → Mu → (Sl → Mu → Prop) → Prop
abbrev AT := Rho → Mu → (Bool → Mu → Prop) → Prop
abbrev AA := Rho → Mu → (List Sl → Mu → Prop) → Prop
def SndE (K : Fg) (t : TE) (w : AE) : Prop := ∀ {F H : Hp} {σ : L2.St} {ρ : Rho} {μ : Mu} {as : List Addr} {k : Sl → Mu → Prop} {Q : VK},
  Mem K F H μ as → EnvR K F as σ ρ → w ρ μ k → (∀ F' H' μ' as' s v, Later F H as F' H' as' → Mem K F' H' μ' as' → RepS K F' as' s v → k s μ' → Q v H') → t σ H Q
def SndT (K : Fg) (t : TT) (w : AT) : Prop := ∀ {F H : Hp} {σ : L2.St} {ρ : Rho} {μ : Mu} {as : List Addr} {k : Bool → Mu → Prop} {Q : Bool → Hp → Prop},
  Mem K F H μ as → EnvR K F as σ ρ → w ρ μ k → (∀ F' H' μ' as' b, Later F H as F' H' as' → Mem K F' H' μ' as' → k b μ' → Q b H') → t σ H Q
def SndA (K : Fg) (t : TA) (w : AA) : Prop := ∀ {F H : Hp} {σ : L2.St} {ρ : Rho} {μ : Mu} {as : List Addr} {k : List Sl → Mu → Prop} {Q : List V → Hp → Prop},
  Mem K F H μ as → EnvR K F as σ ρ → w ρ μ k → (∀ F' H' μ' as' ss vs, Later F H as F' H' as' → Mem K F' H' μ' as' → RepSs K F' as' ss vs → k ss μ' → Q vs H') → t σ H Q
structure JE (X : Cx) (e : Expr) (t : TE) (w : AE) : Prop where
  pe : PE X e t
  snd : SndE X.K t w
structure JT (X : Cx) (e : Expr) (t : TT) (w : AT) : Prop where
  pt : PT X e t
  snd : SndT X.K t w
structure JW (X : Cx) (e : Expr) (t : TT) (w : AT) : Prop where
  pw : PW X e t
  snd : SndT X.K t w
structure JA (X : Cx) (es : List Expr) (t : TA) (w : AA) : Prop where
  pa : PA X es t
  snd : SndA X.K t w
/-! ### reading a slot as data -/
def dsOf : List Sl → Option (List D)
  | [] => some []
  | .d x :: r => (dsOf r).map (x :: ·)
  | .m _ :: _ => none
def rdD (μ : Mu) : Sl → Option D
  | .d x => some (nrm x)
  | .m k => match μ[k]? with
    | some (.frz x) => some (nrm x)
    | some (.lst l) => (dsOf l).map .lst
    | _ => none
@[simp] theorem rdD_d (μ : Mu) (x : D) : rdD μ (.d x) = some (nrm x) := rfl
theorem dsOf_map (l : List D) : dsOf (l.map .d) = some l := by
  induction l with
  | nil => rfl
  | cons x r ih => show (dsOf (r.map .d)).map (x :: ·) = _; rw [ih]; rfl
theorem dsOf_eq : ∀ {l : List Sl} {ds : List D}, dsOf l = some ds → l = ds.map .d
  | [], ds, h => by cases h; rfl
  | .d x :: r, ds, h => by
    have h1 : (dsOf r).map (x :: ·) = some ds := h
    obtain ⟨es, h2, rfl⟩ := Option.map_eq_some_iff.mp h1
    rw [dsOf_eq h2]; rfl
  | .m _ :: _, ds, h => by cases h
theorem reps_ds {K : Fg} {F : Hp} {as : List Addr} : ∀ {ds : List D} {vs : List V}, RepSs K F as (ds.map .d) vs → RepL K F ds vs
  | [], _, .nil => rfl
  | d :: ds, _, .cons h t => ⟨_, _, rfl, h, reps_ds t⟩
theorem ds_reps {K : Fg} {F : Hp} {as : List Addr} : ∀ {ds : List D} {vs : List V}, RepL K F ds vs → RepSs K F as (ds.map .d) vs
  | [], _, h => by rw [show _ = [] from h]; exact .nil
  | d :: ds, _, ⟨v, r, h1, h2, h3⟩ => by rw [h1]; exact .cons h2 (ds_reps h3)
/-- data, its outermost list perhaps a cell -/
def RepT (K : Fg) (F H : Hp) : D → V → Prop
  | .lst l, v => ∃ a vs, v = .ref a ∧ Rd H a (.lst vs) ∧ RepL K F l vs
  | d, v => Rep K F d v
theorem Rep.top {K : Fg} {F H : Hp} (e : Sub F H) : ∀ {d : D} {v : V}, Rep K F d v → RepT K F H d v
  | .lst _, _, ⟨a, vs, h1, h2, h3⟩ => ⟨a, vs, h1, e.rd h2, h3⟩
  | .non, _, h => h
  | .bl _, _, h => h
  | .int _, _, h => h
  | .str _, _, h => h
  | .tup _, _, h => h
  | .tpl l, v, h => h
  | .dic _ _, _, h => h
  | .ins _ _ _, _, h => h
  | .ty _, _, h => h
  | .cls _, _, h => h
theorem rd_ok {K : Fg} {F H : Hp} {μ : Mu} {as : List Addr} (M : Mem K F H μ as) {s : Sl} {v : V} {d : D} (r : RepS K F as s v) (h : rdD μ s = some d) : RepT K F H d v := by
  cases s with
  | d x => cases h; exact Rep.top M.sub r.nrm
  | m k =>
    obtain ⟨a, ha, rfl⟩ := r
    cases q : μ[k]? with
    | none => simp [rdD, q] at h
    | some c =>
      simp only [rdD, q] at h
      have c1 := M.at_ k c a q ha
      cases c with
      | frz x => cases h; exact Rep.top M.sub (Rep.nrm c1)
      | lst l =>
        obtain ⟨ds, h1, rfl⟩ := Option.map_eq_some_iff.mp h
        obtain ⟨_, vs, h2, h3⟩ := c1
        rw [dsOf_eq h1] at h3
        exact ⟨a, vs, rfl, .inl h2, reps_ds h3⟩
      | dic ks l => cases h
      | ins C ns l => cases h
section
variable {X : Cx} {e : Expr} {t ta tb tc : TE} {w wa wb wc : AE}
/-! ### names, constants -/
def aVar (i : Nat) : AE := fun ρ μ k => match ρ[i]? with
  | some (some s) => k s μ
  | _ => False
theorem snd_var {K : Fg} {i : Nat} : SndE K (tVar i) (aVar i) := by
  intro F H σ ρ μ as k Q M E h hQ
  unfold aVar at h
  split at h
  · rename_i s q
    obtain ⟨v, h1, h2⟩ := E.2 i s q
    exact ⟨v, h1, hQ _ _ _ _ _ _ .refl M h2 h⟩
  · exact h.elim
theorem jv (i : Nat) {x : Str} {pos : Pos} (hN : X.N[i]? = some x := by rfl) (hv : Vis X.env.scope x := by first | exact Or.inl rfl | exact Or.inr (Or.inl rfl) | exact Or.inr (Or.inr rfl)) (hd : (x == ("__debug__" : Str)) = false := by decide)
    (hcd : (x == ("__classdict__" : Str)) = false := by decide) : JE X (.Name x pos) (tVar i) (aVar i) := ⟨pe_var hN hv hd hcd, snd_var⟩
def aC (d : D) : AE := fun _ μ k => k (.d d) μ
theorem snd_c {K : Fg} {d : D} {v : V} (h : ∀ F : Hp, Rep K F d v) : SndE K (tC v) (aC d) := by
  intro F H σ ρ μ as k Q M E hk hQ
  exact hQ _ _ _ _ (.d d) v .refl M (h F) hk
theorem j_int {i j pos} : JE X (.Constant (.int i) j pos) (tC (.int i)) (aC (.int i)) := ⟨pe_int, snd_c fun _ => rep_int⟩
theorem j_bl {i j pos} : JE X (.Constant (.bool i) j pos) (tC (.bl i)) (aC (.bl i)) := ⟨pe_bl, snd_c fun _ => rep_bl⟩
theorem j_non {j pos} : JE X (.Constant .none j pos) (tC .non) (aC .non) := ⟨pe_non, snd_c fun _ => rep_non⟩
theorem j_str {x j pos} : JE X (.Constant (.str x) j pos) (tC (.str x)) (aC (.str x)) := ⟨pe_str, snd_c fun _ => rep_str⟩
/-- a module's constant -/
theorem j_glob {x : Str} {v : V} {u : Value} {d : D} {pos : Pos} (hg : Gl X x) (hm : X.mg x = some u) (r : RelV v u) (h : ∀ F : Hp, Rep X.K F d v) (hd : (x == ("__debug__" : Str)) = false := by decide) :
    JE X (.Name x pos) (tC v) (aC d) := ⟨pe_glob hg hm r hd, snd_c h⟩
/-! ### two operands -/
abbrev AR2 := Mu → Sl → Sl → (Sl → Mu → Prop) → Prop
def SndR (K : Fg) (r : R2) (g : AR2) : Prop := ∀ {F H : Hp} {μ : Mu} {as : List Addr} {x y : Sl} {v u : V} {k : Sl → Mu → Prop} {Q : VK},
  Mem K F H μ as → RepS K F as x v → RepS K F as y u → g μ x y k → (∀ F' H' μ' as' s v, Later F H as F' H' as' → Mem K F' H' μ' as' → RepS K F' as' s v → k s μ' → Q v H') → r v u H Q
def aOp (g : AR2) (wa wb : AE) : AE := fun ρ μ k => wa ρ μ fun x μ1 => wb ρ μ1 fun y μ2 => g μ2 x y k
theorem snd_op {K : Fg} {r : R2} {g : AR2} (hr : SndR K r g) (ha : SndE K ta wa) (hb : SndE K tb wb) : SndE K (tOp r ta tb) (aOp g wa wb) := by
  intro F H σ ρ μ as k Q M E h hQ
  refine ha M E h fun F1 H1 μ1 as1 x v L1 M1 r1 h1 => ?_
  refine hb M1 (E.later L1) h1 fun F2 H2 μ2 as2 y u L2 M2 r2 h2 => ?_
  exact hr M2 (r1.later L2) r2 h2 fun F3 H3 μ3 as3 z v' L3 M3 r3 h3 => hQ _ _ _ _ _ _ ((L1.trans L2).trans L3) M3 r3 h3
theorem j_op {op : Operator} {pos : Pos} {r : R2} {g : AR2} (o : OpR X (binaryOp op) r) (hr : SndR X.K r g) (ha : JE X e ta wa) {e2 : Expr} (hb : JE X e2 tb wb) : JE X (.BinOp e op e2 pos) (tOp r ta tb) (aOp g wa wb) :=
  ⟨pe_op o ha.pe hb.pe, snd_op hr ha.snd hb.snd⟩
def SndR.or {K : Fg} {r r' : R2} {g g' : AR2} (h : SndR K r g) (h' : SndR K r' g') : SndR K (fun x y H Q => r x y H Q ∨ r' x y H Q) (fun μ x y k => g μ x y k ∨ g' μ x y k) := fun M r1 r2 q hQ => by
  rcases q with q | q
  · exact .inl (h M r1 r2 q hQ)
  · exact .inr (h' M r1 r2 q hQ)
/-- both read as data -/
def rd2 (f : D → D → (Sl → Mu → Prop) → Mu → Prop) : AR2 := fun μ x y k => match rdD μ x, rdD μ y with
  | some a, some b => f a b k μ
  | _, _ => False
theorem rd2_elim {f : D → D → (Sl → Mu → Prop) → Mu → Prop} {μ : Mu} {x y : Sl} {k : Sl → Mu → Prop} (h : rd2 f μ x y k) : ∃ a b, rdD μ x = some a ∧ rdD μ y = some b ∧ f a b k μ := by
  unfold rd2 at h
  split at h
  · rename_i a b h1 h2
    exact ⟨a, b, h1, h2, h⟩
  · exact h.elim
/-- on two ints -/
def fI (C : Int → Int → Prop) (g : Int → Int → D) : D → D → (Sl → Mu → Prop) → Mu → Prop
  | .int i, .int j, k, μ => C i j ∧ k (.d (g i j)) μ
  | _, _, _, _ => False
theorem fI_elim {C : Int → Int → Prop} {g : Int → Int → D} {a b : D} {k : Sl → Mu → Prop} {μ : Mu} (h : fI C g a b k μ) : ∃ i j, a = .int i ∧ b = .int j ∧ C i j ∧ k (.d (g i j)) μ := by
  unfold fI at h
  split at h
  · exact ⟨_, _, rfl, rfl, h.1, h.2⟩
  · exact h.elim
theorem snd_I {K : Fg} {C : Int → Int → Prop} {g : Int → Int → V} {g' : Int → Int → D} (hg : ∀ (F : Hp) (i j : Int), Rep K F (g' i j) (g i j)) : SndR K (rI C g) (rd2 (fI C g')) := by
  intro F H μ as x y v u k Q M r1 r2 h hQ
  obtain ⟨a, b, h1, h2, h⟩ := rd2_elim h
  obtain ⟨i, j, rfl, rfl, hc, h⟩ := fI_elim h
  have e1 : v = .int i := rd_ok M r1 h1
  have e2 : u = .int j := rd_ok M r2 h2
  exact ⟨i, j, e1, e2, hc, hQ _ _ _ _ (.d (g' i j)) _ .refl M (hg F i j) h⟩
theorem snd_I0 {K : Fg} {g : Int → Int → V} {g' : Int → Int → D} (hg : ∀ (F : Hp) (i j : Int), Rep K F (g' i j) (g i j)) : SndR K (rI0 g) (rd2 (fI (fun _ _ => True) g')) := by
  intro F H μ as x y v u k Q M r1 r2 h hQ
  obtain ⟨a, b, h1, h2, h⟩ := rd2_elim h
  obtain ⟨i, j, rfl, rfl, _, h⟩ := fI_elim h
  have e1 : v = .int i := rd_ok M r1 h1
  have e2 : u = .int j := rd_ok M r2 h2
  exact ⟨i, j, e1, e2, hQ _ _ _ _ (.d (g' i j)) _ .refl M (hg F i j) h⟩
/-- +: ints, texts, lists, tuples -/
def fAdd : D → D → (Sl → Mu → Prop) → Mu → Prop
  | .int i, .int j, k, μ => k (.d (.int (i + j))) μ
  | .str a, .str b, k, μ => a.length + b.length ≤ sizeLine ∧ k (.d (.str (a ++ b))) μ
  | .lst a, .lst b, k, μ => a.length + b.length ≤ sizeLine ∧ k (.d (.lst (a ++ b))) μ
  | .tup a, .tup b, k, μ => a.length + b.length ≤ sizeLine ∧ k (.d (.tup (a ++ b))) μ
  | _, _, _, _ => False
def rAddS : R2 := fun x y H Q => ∃ i j, x = .str i ∧ y = .str j ∧ i.length + j.length ≤ sizeLine ∧ Q (.str (i ++ j)) H
/-- two lists that may be read -/
def rCatL : R2 := fun x y H Q => ∃ l b xs zs, x = .ref l ∧ y = .ref b ∧ Rd H l (.lst xs) ∧ Rd H b (.lst zs) ∧ xs.length + zs.length ≤ sizeLine ∧ ∀ p, H p = none → Q (.ref p) (upd H p (.lst (xs ++ zs)))
theorem lst_at {pins : List (Addr × Obj)} {σ : L2.St} {H : Hp} {s : Shared} {l : Addr} {xs : List V} (I : Inv X pins σ H s) (h : Rd H l (.lst xs)) :
    xs.length ≤ sizeLine ∧ ∃ (its : List Value) (n : Nat), Vals xs its ∧ xs.length = its.length ∧ s.heap.get? l = some { cls := .type "list", data := .seq its.toArray n } := by
  obtain ⟨z, its, n, r, e⟩ := h.ok I.hok
  exact ⟨z, its, n, r, r.length, e⟩
theorem op_catL : OpR X (binaryOp .Add) rCatL := by
  intro pins s σ H x y v u Q I rx ry ⟨l, b, xs, zs, e1, e2, h1, h2, hz, q⟩
  subst e1 e2
  cases rx
  cases ry
  obtain ⟨_, its, n, r, hl, g⟩ := lst_at I h1
  obtain ⟨_, jts, m, r', hm, g'⟩ := lst_at I h2
  have hs : its.toArray.size + jts.toArray.size ≤ sizeLine := by simp; omega
  refine PySem.P.add_list g g' ?_ hs
  have ea : its.toArray ++ jts.toArray = (its ++ jts).toArray := by simp
  rw [ea]
  have len : (xs ++ zs).length ≤ sizeLine := by rw [List.length_append]; exact hz
  exact ⟨V.ref s.heap.objs.size, _, I.lnew (t' := s.toks) (r.append r') len, rfl, q _ I.fresh⟩
theorem snd_new {K : Fg} {F H : Hp} {μ : Mu} {as : List Addr} (M : Mem K F H μ as) {o : HO} {d : D} {k : Sl → Mu → Prop} {Q : VK} (hr : ∀ p F', F' p = some o → Sub F F' → Rep K F' d (.ref p)) (hk : k (.d d) μ)
    (hQ : ∀ F' H' μ' as' s v, Later F H as F' H' as' → Mem K F' H' μ' as' → RepS K F' as' s v → k s μ' → Q v H') : ∀ p, H p = none → Q (.ref p) (upd H p o) := fun p hp => by
  obtain ⟨M', L⟩ := M.new (o := o) hp
  exact hQ _ _ _ _ (.d d) (.ref p) L M' (hr p _ upd_same L.sub) hk
def rAddU (K : Fg) : R2 := fun x y H Q => rI0 (fun i j => .int (i + j)) x y H Q ∨ rAddS x y H Q ∨ rCatL x y H Q ∨ rCatA K x y H Q
theorem snd_add {K : Fg} : SndR K (rAddU K) (rd2 fAdd) := by
  intro F H μ as x y v u k Q M r1 r2 h hQ
  obtain ⟨a, b, h1, h2, h⟩ := rd2_elim h
  have q1 := rd_ok M r1 h1
  have q2 := rd_ok M r2 h2
  unfold fAdd at h
  split at h
  · exact .inl ⟨_, _, q1, q2, hQ _ _ _ _ (.d (.int _)) _ .refl M rfl h⟩
  · exact .inr (.inl ⟨_, _, q1, q2, h.1, hQ _ _ _ _ (.d (.str _)) _ .refl M rfl h.2⟩)
  · obtain ⟨p, vs, rfl, g1, g2⟩ := q1
    obtain ⟨p', vs', rfl, g1', g2'⟩ := q2
    refine .inr (.inr (.inl ⟨p, p', vs, vs', rfl, rfl, g1, g1', by rw [g2.len, g2'.len]; exact h.1, snd_new M (d := .lst _) (fun q F' e sb => ⟨q, _, rfl, .inl e, (g2.mono' sb).app (g2'.mono' sb)⟩) h.2 hQ⟩))
  · obtain ⟨p, vs, rfl, g1, g2⟩ := q1
    obtain ⟨p', vs', rfl, g1', g2'⟩ := q2
    refine .inr (.inr (.inr ⟨p, p', vs, vs', rfl, rfl, M.sub.sqT g1, M.sub.sqT g1', by rw [g2.len, g2'.len]; exact h.1, fun e => ?_, fun _ (e : vs' = []) => ?_, fun _ _ => ?_⟩))
    · subst e
      have z := List.eq_nil_of_length_eq_zero g2.len.symm
      subst z
      exact hQ _ _ _ _ (.d (.tup ([] ++ _))) _ .refl M ⟨p', vs', rfl, g1', g2'⟩ h.2
    · subst e
      have z := List.eq_nil_of_length_eq_zero g2'.len.symm
      subst z
      exact hQ _ _ _ _ (.d (.tup (_ ++ []))) _ .refl M ⟨p, vs, rfl, g1, by rw [List.append_nil]; exact g2⟩ h.2
    · exact snd_new M (d := .tup _) (fun q F' e sb => ⟨q, _, rfl, .inl (.inl e), (g2.mono' sb).app (g2'.mono' sb)⟩) h.2 hQ
  · exact h.elim
theorem j_add {e2 : Expr} {pos : Pos} (ha : JE X e ta wa) (hb : JE X e2 tb wb) : JE X (.BinOp e .Add e2 pos) (tOp (rAddU X.K) ta tb) (aOp (rd2 fAdd) wa wb) := j_op (op_add.or (op_add_str.or (op_catL.or op_catA))) snd_add ha hb
end
end Ww
/-! W3: operators, tests, subscripts, displays. -/
namespace Ww
open PySem L2
section
variable {X : Cx} {e e1 e2 e3 : Expr} {t ta tb tc : TE} {w wa wb wc : AE} {pos : Pos}
/-! ### ints -/
abbrev aI (C : Int → Int → Prop) (g : Int → Int → D) : AR2 := rd2 (fI C g)
abbrev gI (g : Int → Int → Int) : Int → Int → D := fun i j => .int (g i j)
theorem j_sub (ha : JE X e1 ta wa) (hb : JE X e2 tb wb) : JE X (.BinOp e1 .Sub e2 pos) (tOp (rI0 fun i j => .int (i - j)) ta tb) (aOp (aI (fun _ _ => True) (gI fun i j => i - j)) wa wb) := j_op op_sub (snd_I0 fun _ _ _ => rep_int) ha hb
theorem j_fdiv (ha : JE X e1 ta wa) (hb : JE X e2 tb wb) : JE X (.BinOp e1 .FloorDiv e2 pos) (tOp (rI CDivN fun i j => .int (i.fdiv j)) ta tb) (aOp (aI CDivN (gI Int.fdiv)) wa wb) := j_op op_fdivN (snd_I fun _ _ _ => rep_int) ha hb
theorem j_mod (ha : JE X e1 ta wa) (hb : JE X e2 tb wb) : JE X (.BinOp e1 .Mod e2 pos) (tOp (rI (fun _ j => j ≠ 0) fun i j => .int (i.fmod j)) ta tb) (aOp (aI (fun _ j => j ≠ 0) (gI Int.fmod)) wa wb) := j_op op_modN (snd_I fun _ _ _ => rep_int) ha hb
theorem j_pow (ha : JE X e1 ta wa) (hb : JE X e2 tb wb) : JE X (.BinOp e1 .Pow e2 pos) (tOp (rI CPow fun i j => .int (i ^ j.toNat)) ta tb) (aOp (aI CPow (gI fun i j => i ^ j.toNat)) wa wb) := j_op op_pow (snd_I fun _ _ _ => rep_int) ha hb
theorem j_shl (ha : JE X e1 ta wa) (hb : JE X e2 tb wb) : JE X (.BinOp e1 .LShift e2 pos) (tOp (rI CPow fun i j => .int (i * 2 ^ j.toNat)) ta tb) (aOp (aI CPow (gI fun i j => i * 2 ^ j.toNat)) wa wb) := j_op op_shl (snd_I fun _ _ _ => rep_int) ha hb
theorem j_shr (ha : JE X e1 ta wa) (hb : JE X e2 tb wb) : JE X (.BinOp e1 .RShift e2 pos) (tOp (rI (fun _ j => 0 ≤ j) fun i j => .int (i / 2 ^ j.toNat)) ta tb) (aOp (aI (fun _ j => 0 ≤ j) (gI fun i j => i / 2 ^ j.toNat)) wa wb) := j_op op_shr (snd_I fun _ _ _ => rep_int) ha hb
theorem j_and2 (ha : JE X e1 ta wa) (hb : JE X e2 tb wb) : JE X (.BinOp e1 .BitAnd e2 pos) (tOp (rI0 fun i j => .int (Builtin.bitAnd i j)) ta tb) (aOp (aI (fun _ _ => True) (gI Builtin.bitAnd)) wa wb) := j_op op_and (snd_I0 fun _ _ _ => rep_int) ha hb
/-! * : ints, a list times an int -/
def rRepL : R2 := fun x y H Q => ∃ l k xs, x = .ref l ∧ y = .int k ∧ H l = some (.lst xs) ∧ -(2 ^ 63) ≤ k ∧ k < 2 ^ 63 ∧ xs.length * k.toNat ≤ sizeLine ∧ ∀ p, H p = none → Q (.ref p) (upd H p (.lst (List.replicate k.toNat xs).flatten))
def rMulU : R2 := fun x y H Q => rI CMul (fun i j => .int (i * j)) x y H Q ∨ rRep x y H Q
theorem op_mulU : OpR X (binaryOp .Mult) rMulU := op_mul.or op_rep
def fMul : D → D → (Sl → Mu → Prop) → Mu → Prop
  | .int i, .int j, k, μ => CMul i j ∧ k (.d (.int (i * j))) μ
  | .lst a, .int j, k, μ => 0 ≤ j ∧ a.length * j.toNat ≤ sizeLine ∧ j < 2 ^ 63 ∧ k (.d (.lst (List.replicate j.toNat a).flatten)) μ
  | _, _, _, _ => False
theorem RepL.rep {K : Fg} {F : Hp} {ds : List D} {vs : List V} (h : RepL K F ds vs) : ∀ n : Nat, RepL K F (List.replicate n ds).flatten (List.replicate n vs).flatten
  | 0 => rfl
  | n + 1 => by
    rw [List.replicate_succ, List.replicate_succ, List.flatten_cons, List.flatten_cons]
    exact h.app (h.rep n)
/-- a list that may be read, not the locked one -/
def NoFrz (H : Hp) : D → V → Prop
  | .lst _, v => ∃ a vs, v = .ref a ∧ H a = some (.lst vs)
  | _, _ => True
end
/-! ### == and != of data -/
mutual
def toPy : D → Option PyData
  | .non => some .none
  | .bl b => some (.bool b)
  | .int i => some (.int i)
  | .str x => some (.str x)
  | .tup l => (toPys l).map .tuple
  | .tpl l => (toPys l).map .tuple
  | .lst l => (toPys l).map .list
  | .dic _ _ => none
  | .ins _ _ _ => none
  | .ty _ => none
  | .cls _ => none
def toPys : List D → Option (List PyData)
  | [] => some []
  | d :: r => match toPy d, toPys r with
    | some a, some b => some (a :: b)
    | _, _ => none
end
mutual
theorem dp_of {K : Fg} {H : Hp} : ∀ (d : D) (v : V) (p : PyData), Rep K H d v → toPy d = some p → Dp K H v p
  | .non, _, _, h, e => by cases e; cases (show _ = _ from h); exact .non
  | .bl b, _, _, h, e => by cases e; cases (show _ = _ from h); exact .bl b
  | .int i, _, _, h, e => by cases e; cases (show _ = _ from h); exact .int i
  | .str x, _, _, h, e => by cases e; cases (show _ = _ from h); exact .str x
  | .tpl l, _, p, ⟨a, vs, o, h1, h2, h4, h3⟩, e => by
    obtain ⟨ps, e1, rfl⟩ := Option.map_eq_some_iff.mp (show (toPys l).map .tuple = some p from e)
    subst h1
    exact .tup (.inl (.inr ⟨o, h2⟩)) (dps_of l vs ps h3 e1)
  | .tup l, _, p, ⟨a, vs, h1, h2, h3⟩, e => by
    obtain ⟨ps, e1, rfl⟩ := Option.map_eq_some_iff.mp (show (toPys l).map .tuple = some p from e)
    subst h1
    exact .tup h2 (dps_of l vs ps h3 e1)
  | .lst l, _, p, ⟨a, vs, h1, h2, h3⟩, e => by
    obtain ⟨ps, e1, rfl⟩ := Option.map_eq_some_iff.mp (show (toPys l).map .list = some p from e)
    subst h1
    exact .lst (.inl h2) (dps_of l vs ps h3 e1)
  | .dic _ _, _, _, _, e => by cases e
  | .ins _ _ _, _, _, _, e => by cases e
  | .ty _, _, _, _, e => by cases e
  | .cls _, _, _, _, e => by cases e
theorem dps_of {K : Fg} {H : Hp} : ∀ (ds : List D) (vs : List V) (ps : List PyData), RepL K H ds vs → toPys ds = some ps → DpAll K H vs ps
  | [], _, _, h, e => by cases e; rw [show _ = [] from h]; exact .nil
  | d :: ds, _, ps, ⟨v, r, h1, h2, h3⟩, e => by
    have e0 : (match toPy d, toPys ds with | some a, some b => some (a :: b) | _, _ => none) = some ps := e
    split at e0
    · rename_i a b ea eb
      cases e0
      subst h1
      exact .cons (dp_of d v a h2 ea) (dps_of ds r b h3 eb)
    · cases e0
end
theorem RepT.rep {K : Fg} {F H : Hp} (e : Sub F H) : ∀ {d : D} {v : V}, RepT K F H d v → Rep K H d v
  | .lst _, _, ⟨a, vs, h1, h2, h3⟩ => ⟨a, vs, h1, h2, h3.mono' e⟩
  | .non, _, h => h
  | .bl _, _, h => h
  | .int _, _, h => h
  | .str _, _, h => h
  | .tup l, v, h => Rep.mono e (.tup l) v h
  | .tpl l, v, h => Rep.mono e (.tpl l) v h
  | .dic a b, v, h => Rep.mono e (.dic a b) v h
  | .ins a b c, v, h => Rep.mono e (.ins a b c) v h
  | .ty _, _, h => h
  | .cls _, _, h => h
theorem reps_bl {K : Fg} {F : Hp} {as : List Addr} {b : Bool} : RepS K F as (.d (.bl b)) (.bl b) := rep_bl (K := K) (F := F)
theorem reps_int {K : Fg} {F : Hp} {as : List Addr} {i : Int} : RepS K F as (.d (.int i)) (.int i) := rep_int (K := K) (F := F)
theorem reps_str {K : Fg} {F : Hp} {as : List Addr} {x : Str} : RepS K F as (.d (.str x)) (.str x) := rep_str (K := K) (F := F)
theorem reps_non {K : Fg} {F : Hp} {as : List Addr} : RepS K F as (.d .non) .non := rep_non (K := K) (F := F)
theorem kb {K : Fg} {F H : Hp} {μ : Mu} {as : List Addr} {k : Sl → Mu → Prop} {Q : VK} {b : Bool} (M : Mem K F H μ as)
    (hQ : ∀ F' H' μ' as' s v, Later F H as F' H' as' → Mem K F' H' μ' as' → RepS K F' as' s v → k s μ' → Q v H') (h : k (.d (.bl b)) μ) : Q (.bl b) H := hQ F H μ as (.d (.bl b)) (.bl b) .refl M reps_bl h
def fEq (neg : Bool) : D → D → (Sl → Mu → Prop) → Mu → Prop := fun a b k μ => match toPy a, toPy b with
  | some p, some q => SeqAt.shaped p = true ∧ SeqAt.shaped q = true ∧ k (.d (.bl (if neg then !PyData.eqv p q else PyData.eqv p q))) μ
  | _, _ => False
section
variable {X : Cx} {e e1 e2 e3 : Expr} {t ta tb tc : TE} {w wa wb wc : AE} {pos : Pos}
theorem snd_eq {K : Fg} : SndR K (rEqD K) (rd2 (fEq false)) := by
  intro F H μ as x y v u k Q M r1 r2 h hQ
  obtain ⟨a, b, h1, h2, h⟩ := rd2_elim h
  unfold fEq at h
  split at h
  · rename_i p q ep eq
    exact ⟨p, q, dp_of a v p ((rd_ok M r1 h1).rep M.sub) ep, dp_of b u q ((rd_ok M r2 h2).rep M.sub) eq, h.1, h.2.1, kb M hQ h.2.2⟩
  · exact h.elim
theorem snd_ne {K : Fg} : SndR K (rNeD K) (rd2 (fEq true)) := by
  intro F H μ as x y v u k Q M r1 r2 h hQ
  obtain ⟨a, b, h1, h2, h⟩ := rd2_elim h
  unfold fEq at h
  split at h
  · rename_i p q ep eq
    exact ⟨p, q, dp_of a v p ((rd_ok M r1 h1).rep M.sub) ep, dp_of b u q ((rd_ok M r2 h2).rep M.sub) eq, h.1, h.2.1, kb M hQ h.2.2⟩
  · exact h.elim
/-! ### a comparison, its rule and what it does over data -/
structure CmpJ (X : Cx) (op : CmpOp) (r : R2) (g : AR2) : Prop where
  op : OpR X (compareOp op) r
  snd : SndR X.K r g
theorem c_eq (hu : X.A.units + 64 < cLine) : CmpJ X .Eq (rEqD X.K) (rd2 (fEq false)) := ⟨op_eqD hu, snd_eq⟩
theorem c_ne (hu : X.A.units + 64 < cLine) : CmpJ X .NotEq (rNeD X.K) (rd2 (fEq true)) := ⟨op_neD hu, snd_ne⟩
abbrev gB (g : Int → Int → Bool) : Int → Int → D := fun i j => .bl (g i j)
abbrev aCI (g : Int → Int → Bool) : AR2 := rd2 (fI (fun _ _ => True) (gB g))
theorem c_lt : CmpJ X .Lt (rI0 fun i j => .bl (decide (i < j))) (aCI fun i j => decide (i < j)) := ⟨op_lt, snd_I0 fun _ _ _ => rep_bl⟩
theorem c_le : CmpJ X .LtE (rI0 fun i j => .bl (decide (i ≤ j))) (aCI fun i j => decide (i ≤ j)) := ⟨op_le, snd_I0 fun _ _ _ => rep_bl⟩
theorem c_gt : CmpJ X .Gt (rI0 fun i j => .bl (decide (j < i))) (aCI fun i j => decide (j < i)) := ⟨op_gt, snd_I0 fun _ _ _ => rep_bl⟩
theorem c_ge : CmpJ X .GtE (rI0 fun i j => .bl (decide (j ≤ i))) (aCI fun i j => decide (j ≤ i)) := ⟨op_ge, snd_I0 fun _ _ _ => rep_bl⟩
/-! is None -/
def isN : D → Bool
  | .non => true
  | _ => false
def fIs (neg : Bool) : D → D → (Sl → Mu → Prop) → Mu → Prop := fun a b k μ => match b with
  | .non => k (.d (.bl (if neg then !isN a else isN a))) μ
  | _ => False
def rIsN : R2 := fun x y H Q => y = .non ∧ Q (.bl (decide (x = .non))) H
def rNotN : R2 := fun x y H Q => y = .non ∧ Q (.bl (!decide (x = .non))) H
theorem isN_ok {K : Fg} {H : Hp} : ∀ {d : D} {v : V}, Rep K H d v → decide (v = .non) = isN d
  | .non, _, h => by cases (show _ = _ from h); rfl
  | .bl _, _, h => by cases (show _ = _ from h); rfl
  | .int _, _, h => by cases (show _ = _ from h); rfl
  | .str _, _, h => by cases (show _ = _ from h); rfl
  | .tup l, _, ⟨a, vs, h1, _⟩ => by subst h1; rfl
  | .tpl l, _, ⟨a, vs, o, h1, _⟩ => by subst h1; rfl
  | .lst l, _, ⟨a, vs, h1, _⟩ => by subst h1; rfl
  | .dic _ _, _, ⟨a, h1, _⟩ => by subst h1; rfl
  | .ins _ _ _, _, ⟨a, _, _, h1, _⟩ => by subst h1; rfl
  | .ty _, _, h => by cases (show _ = _ from h); rfl
  | .cls _, _, h => by cases (show _ = _ from h); rfl
theorem c_is : CmpJ X .Is rIsN (rd2 (fIs false)) := ⟨op_isN, by
  intro F H μ as x y v u k Q M r1 r2 h hQ
  obtain ⟨a, b, h1, h2, h⟩ := rd2_elim h
  unfold fIs at h
  split at h
  · refine ⟨(rd_ok M r2 h2 : u = .non), ?_⟩
    rw [isN_ok ((rd_ok M r1 h1).rep M.sub)]
    exact kb M hQ h
  · exact h.elim⟩
theorem c_isnot : CmpJ X .IsNot rNotN (rd2 (fIs true)) := ⟨op_notN, by
  intro F H μ as x y v u k Q M r1 r2 h hQ
  obtain ⟨a, b, h1, h2, h⟩ := rd2_elim h
  unfold fIs at h
  split at h
  · refine ⟨(rd_ok M r2 h2 : u = .non), ?_⟩
    rw [isN_ok ((rd_ok M r1 h1).rep M.sub)]
    exact kb M hQ h
  · exact h.elim⟩
/-! ### comparisons, chains -/
def aT (w : AE) : AT := fun ρ μ k => w ρ μ fun x μ1 => match rdD μ1 x with
  | some (.bl b) => k b μ1
  | _ => False
theorem aT_elim {w : AE} {μ : Mu} {x : Sl} {k : Bool → Mu → Prop} (h : match rdD μ x with | some (.bl b) => k b μ | _ => False) : ∃ b, rdD μ x = some (.bl b) ∧ k b μ := by
  split at h
  · rename_i b q
    exact ⟨b, q, h⟩
  · exact h.elim
theorem snd_test {K : Fg} (h : SndE K t w) : SndT K (tTest t) (aT w) := by
  intro F H σ ρ μ as k Q M E hw hQ
  refine h M E hw fun F1 H1 μ1 as1 x v L1 M1 r1 q => ?_
  obtain ⟨b, q1, q2⟩ := aT_elim (w := w) q
  exact ⟨b, rd_ok M1 r1 q1, hQ _ _ _ _ _ L1 M1 q2⟩
theorem snd_B {K : Fg} (h : SndE K t w) : SndT K (tB t) (aT w) := by
  intro F H σ ρ μ as k Q M E hw hQ
  refine h M E hw fun F1 H1 μ1 as1 x v L1 M1 r1 q => ?_
  obtain ⟨b, q1, q2⟩ := aT_elim (w := w) q
  exact ⟨b, rd_ok M1 r1 q1, hQ _ _ _ _ _ L1 M1 q2⟩
variable {op op' : CmpOp} {r r' : R2} {g g' : AR2}
theorem j_cmp (o : CmpJ X op r g) (ha : JE X e1 ta wa) (hb : JE X e2 tb wb) (hm : behindInMarks op e2 = false := by first | exact nomark _ | rfl) : JE X (.Compare e1 [op] [e2] pos) (tOp r ta tb) (aOp g wa wb) :=
  ⟨pe_cmpR o.op ha.pe hb.pe hm, snd_op o.snd ha.snd hb.snd⟩
theorem jt_cmp (o : CmpJ X op r g) (ha : JE X e1 ta wa) (hb : JE X e2 tb wb) (hm : behindInMarks op e2 = false := by first | exact nomark _ | rfl) : JT X (.Compare e1 [op] [e2] pos) (tTest (tOp r ta tb)) (aT (aOp g wa wb)) :=
  ⟨pt_cmpR o.op ha.pe hb.pe hm, snd_test (snd_op o.snd ha.snd hb.snd)⟩
def aChain (g g' : AR2) (wa wb wc : AE) : AE := fun ρ μ k => wa ρ μ fun x μ1 => wb ρ μ1 fun y μ2 => g μ2 x y fun z μ3 => match rdD μ3 z with
  | some (.bl true) => wc ρ μ3 fun u μ4 => g' μ4 y u k
  | some (.bl false) => k (.d (.bl false)) μ3
  | _ => False
theorem snd_chain {K : Fg} (hr : SndR K r g) (hr' : SndR K r' g') (ha : SndE K ta wa) (hb : SndE K tb wb) (hc : SndE K tc wc) : SndE K (tChain r r' ta tb tc) (aChain g g' wa wb wc) := by
  intro F H σ ρ μ as k Q M E h hQ
  refine ha M E h fun F1 H1 μ1 as1 x v L1 M1 r1 h1 => ?_
  refine hb M1 (E.later L1) h1 fun F2 H2 μ2 as2 y u L2 M2 r2 h2 => ?_
  refine hr M2 (r1.later L2) r2 h2 fun F3 H3 μ3 as3 z v' L3 M3 r3 h3 => ?_
  split at h3
  · rename_i q
    refine ⟨true, rd_ok M3 r3 q, ?_⟩
    refine iteT ?_
    refine hc M3 (E.later ((L1.trans L2).trans L3)) h3 fun F4 H4 μ4 as4 z' v4 L4 M4 r4 h4 => ?_
    exact hr' M4 ((r2.later L3).later L4) r4 h4 fun F5 H5 μ5 as5 z5 v5 L5 M5 r5 h5 => hQ _ _ _ _ _ _ ((((L1.trans L2).trans L3).trans L4).trans L5) M5 r5 h5
  · rename_i q
    refine ⟨false, rd_ok M3 r3 q, ?_⟩
    refine iteF ?_
    exact hQ _ _ _ _ (.d (.bl false)) _ ((L1.trans L2).trans L3) M3 reps_bl h3
  · exact h3.elim
theorem j_chain (o : CmpJ X op r g) (o' : CmpJ X op' r' g') (ha : JE X e1 ta wa) (hb : JE X e2 tb wb) (hc : JE X e3 tc wc) (hm : lastMarks [op, op'] [e2, e3] = false := by with_unfolding_all rfl) :
    JE X (.Compare e1 [op, op'] [e2, e3] pos) (tChain r r' ta tb tc) (aChain g g' wa wb wc) := ⟨pe_chain o.op o'.op ha.pe hb.pe hc.pe hm, snd_chain o.snd o'.snd ha.snd hb.snd hc.snd⟩
theorem jt_chain (o : CmpJ X op r g) (o' : CmpJ X op' r' g') (ha : JE X e1 ta wa) (hb : JE X e2 tb wb) (hc : JE X e3 tc wc) (hm : lastMarks [op, op'] [e2, e3] = false := by with_unfolding_all rfl) :
    JT X (.Compare e1 [op, op'] [e2, e3] pos) (tTest (tChain r r' ta tb tc)) (aT (aChain g g' wa wb wc)) := ⟨pt_chain o.op o'.op ha.pe hb.pe hc.pe hm, snd_test (snd_chain o.snd o'.snd ha.snd hb.snd hc.snd)⟩
/-! ### and, or, not -/
theorem jt_val (h : JE X e t w) (he : ∀ whole, isTrue e X.env whole = (do let v ← whole; standAt e.pos; holding [v] (truthy v)) := by intro _; rfl) : JT X e (tB t) (aT w) := ⟨pt_val h.pe he, snd_B h.snd⟩
def aAnd (u v : AT) : AT := fun ρ μ k => u ρ μ fun b μ1 => if b = true then v ρ μ1 k else k false μ1
def aOr (u v : AT) : AT := fun ρ μ k => u ρ μ fun b μ1 => if b = true then k true μ1 else v ρ μ1 k
def aNot (u : AT) : AT := fun ρ μ k => u ρ μ fun b μ1 => k (!b) μ1
variable {tt tu : TT} {u v : AT} {rest : List Expr}
theorem snd_and {K : Fg} (h1 : SndT K tt u) (h2 : SndT K tu v) : SndT K (tAnd tt tu) (aAnd u v) := by
  intro F H σ ρ μ as k Q M E h hQ
  refine h1 M E h fun F1 H1 μ1 as1 b L1 M1 q => ?_
  cases b with
  | true => exact h2 M1 (E.later L1) q fun F2 H2 μ2 as2 c L2 M2 q2 => hQ _ _ _ _ _ (L1.trans L2) M2 q2
  | false => exact hQ _ _ _ _ _ L1 M1 q
theorem snd_or {K : Fg} (h1 : SndT K tt u) (h2 : SndT K tu v) : SndT K (tOr tt tu) (aOr u v) := by
  intro F H σ ρ μ as k Q M E h hQ
  refine h1 M E h fun F1 H1 μ1 as1 b L1 M1 q => ?_
  cases b with
  | false => exact h2 M1 (E.later L1) q fun F2 H2 μ2 as2 c L2 M2 q2 => hQ _ _ _ _ _ (L1.trans L2) M2 q2
  | true => exact hQ _ _ _ _ _ L1 M1 q
theorem JW.jt (h : JW X e tt u) : JT X e tt u := ⟨h.pw.pt, h.snd⟩
theorem jw_and1 (h : JT X e tt u) : JW X (.BoolOp .And [e] pos) tt u := ⟨pw_and1 h.pt, h.snd⟩
theorem jw_or1 (h : JT X e tt u) : JW X (.BoolOp .Or [e] pos) tt u := ⟨pw_or1 h.pt, h.snd⟩
theorem jw_and (h1 : JT X e1 tt u) (h2 : JW X (.BoolOp .And (e2 :: rest) pos) tu v) : JW X (.BoolOp .And (e1 :: e2 :: rest) pos) (tAnd tt tu) (aAnd u v) := ⟨pw_and h1.pt h2.pw, snd_and h1.snd h2.snd⟩
theorem jw_or (h1 : JT X e1 tt u) (h2 : JW X (.BoolOp .Or (e2 :: rest) pos) tu v) : JW X (.BoolOp .Or (e1 :: e2 :: rest) pos) (tOr tt tu) (aOr u v) := ⟨pw_or h1.pt h2.pw, snd_or h1.snd h2.snd⟩
theorem jt_not (h : JT X e tt u) : JT X (.UnaryOp .Not e pos) (tNot tt) (aNot u) := ⟨pt_not h.pt, fun M E q hQ => h.snd M E q fun _ _ _ _ _ L M' q' => hQ _ _ _ _ _ L M' q'⟩
/-! as values -/
def aAndV (wa wb : AE) : AE := fun ρ μ k => wa ρ μ fun x μ1 => match rdD μ1 x with
  | some (.bl true) => wb ρ μ1 k
  | some (.bl false) => k (.d (.bl false)) μ1
  | _ => False
def aOrV (wa wb : AE) : AE := fun ρ μ k => wa ρ μ fun x μ1 => match rdD μ1 x with
  | some (.bl true) => k (.d (.bl true)) μ1
  | some (.bl false) => wb ρ μ1 k
  | _ => False
def aNotV (wa : AE) : AE := fun ρ μ k => wa ρ μ fun x μ1 => match rdD μ1 x with
  | some (.bl b) => k (.d (.bl (!b))) μ1
  | _ => False
theorem j_one {bop} (h : JE X e t w) : JE X (.BoolOp bop [e] pos) t w := ⟨pe_one h.pe, h.snd⟩
theorem j_and (ha : JE X e1 ta wa) (hb : JE X (.BoolOp .And (e2 :: rest) pos) tb wb) : JE X (.BoolOp .And (e1 :: e2 :: rest) pos) (tAndV ta tb) (aAndV wa wb) := ⟨pe_and ha.pe hb.pe, by
  intro F H σ ρ μ as k Q M E h hQ
  refine ha.snd M E h fun F1 H1 μ1 as1 x v L1 M1 r1 h1 => ?_
  split at h1
  · rename_i q
    exact ⟨true, rd_ok M1 r1 q, iteT (hb.snd M1 (E.later L1) h1 fun _ _ _ _ _ _ L2 M2 r2 h2 => hQ _ _ _ _ _ _ (L1.trans L2) M2 r2 h2)⟩
  · rename_i q
    exact ⟨false, rd_ok M1 r1 q, iteF (hQ _ _ _ _ (.d (.bl false)) _ L1 M1 reps_bl h1)⟩
  · exact h1.elim⟩
theorem j_or (ha : JE X e1 ta wa) (hb : JE X (.BoolOp .Or (e2 :: rest) pos) tb wb) : JE X (.BoolOp .Or (e1 :: e2 :: rest) pos) (tOrV ta tb) (aOrV wa wb) := ⟨pe_or ha.pe hb.pe, by
  intro F H σ ρ μ as k Q M E h hQ
  refine ha.snd M E h fun F1 H1 μ1 as1 x v L1 M1 r1 h1 => ?_
  split at h1
  · rename_i q
    exact ⟨true, rd_ok M1 r1 q, iteT (hQ _ _ _ _ (.d (.bl true)) _ L1 M1 reps_bl h1)⟩
  · rename_i q
    exact ⟨false, rd_ok M1 r1 q, iteF (hb.snd M1 (E.later L1) h1 fun _ _ _ _ _ _ L2 M2 r2 h2 => hQ _ _ _ _ _ _ (L1.trans L2) M2 r2 h2)⟩
  · exact h1.elim⟩
theorem j_not (ha : JE X e ta wa) : JE X (.UnaryOp .Not e pos) (tNotV ta) (aNotV wa) := ⟨pe_not ha.pe, by
  intro F H σ ρ μ as k Q M E h hQ
  refine ha.snd M E h fun F1 H1 μ1 as1 x v L1 M1 r1 h1 => ?_
  split at h1
  · rename_i b q
    exact ⟨b, rd_ok M1 r1 q, hQ F1 H1 μ1 as1 (.d (.bl _)) (.bl _) L1 M1 reps_bl h1⟩
  · exact h1.elim⟩
def aIfE (u : AT) (wa wb : AE) : AE := fun ρ μ k => u ρ μ fun b μ1 => if b = true then wa ρ μ1 k else wb ρ μ1 k
theorem j_if (hc : JT X e1 tt u) (ha : JE X e2 ta wa) (hb : JE X e3 tb wb) : JE X (.IfExp e1 e2 e3 pos) (tIf tt ta tb) (aIfE u wa wb) := ⟨pe_ifExp hc.pt ha.pe hb.pe, by
  intro F H σ ρ μ as k Q M E h hQ
  refine hc.snd M E h fun F1 H1 μ1 as1 b L1 M1 q => ?_
  cases b with
  | true => exact iteT (ha.snd M1 (E.later L1) q fun _ _ _ _ _ _ L2 M2 r2 h2 => hQ _ _ _ _ _ _ (L1.trans L2) M2 r2 h2)
  | false => exact iteF (hb.snd M1 (E.later L1) q fun _ _ _ _ _ _ L2 M2 r2 h2 => hQ _ _ _ _ _ _ (L1.trans L2) M2 r2 h2)⟩
/-! ### arguments, displays -/
def aNil : AA := fun _ μ k => k [] μ
def aCons (w : AE) (r : AA) : AA := fun ρ μ k => w ρ μ fun x μ1 => r ρ μ1 fun xs μ2 => k (x :: xs) μ2
variable {es : List Expr} {tr : TA} {wr : AA}
theorem ja_nil : JA X [] tNil aNil := ⟨pa_nil, fun M E h hQ => hQ _ _ _ _ _ _ .refl M .nil h⟩
theorem ja_cons (h : JE X e t w) (hr : JA X es tr wr) (hs : starEach (e :: es) X.env = (false, eval e X.env) :: starEach es X.env := by rfl) : JA X (e :: es) (tCons t tr) (aCons w wr) := ⟨pa_cons h.pe hr.pa hs, by
  intro F H σ ρ μ as k Q M E q hQ
  refine h.snd M E q fun F1 H1 μ1 as1 x v L1 M1 r1 h1 => ?_
  exact hr.snd M1 (E.later L1) h1 fun F2 H2 μ2 as2 xs vs L2 M2 r2 h2 => hQ _ _ _ _ _ _ (L1.trans L2) M2 (.cons (r1.later L2) r2) h2⟩
/-- what is put into a tuple, handed on, stays as it is from now on -/
def freeze (μ : Mu) : Sl → Option (D × Mu)
  | .d x => some (x, μ)
  | .m k => match μ[k]? with
    | some (.frz x) => some (x, μ)
    | some (.lst l) => (dsOf l).map fun ds => (.lst ds, μ.set k (.frz (.lst ds)))
    | some (.ins C ns l) => (dsOf l).map fun ds => (.ins C ns ds, μ.set k (.frz (.ins C ns ds)))
    | _ => none
theorem freeze_ok {K : Fg} {F H : Hp} {μ μ' : Mu} {as : List Addr} {s : Sl} {v : V} {d : D} (M : Mem K F H μ as) (r : RepS K F as s v) (h : freeze μ s = some (d, μ')) :
    ∃ F', Mem K F' H μ' as ∧ Later F H as F' H as ∧ Rep K F' d v := by
  cases s with
  | d x => cases h; exact ⟨F, M, .refl, r⟩
  | m k =>
    obtain ⟨a, ha, rfl⟩ := r
    cases q : μ[k]? with
    | none => simp [freeze, q] at h
    | some c =>
      have c1 := M.at_ k c a q ha
      cases c with
      | frz x => simp only [freeze, q, Option.some.injEq, Prod.mk.injEq] at h; obtain ⟨rfl, rfl⟩ := h; exact ⟨F, M, .refl, c1⟩
      | lst l =>
        simp only [freeze, q] at h
        obtain ⟨ds, h1, h2⟩ := Option.map_eq_some_iff.mp h
        cases h2
        obtain ⟨fa, vs, h3, h4⟩ := c1
        rw [dsOf_eq h1] at h4
        have hr : Rep K (upd F a (.lst vs)) (.lst ds) (.ref a) := ⟨a, vs, rfl, .inl upd_same, (reps_ds h4).mono' (Sub.upd_new fa)⟩
        obtain ⟨M', L⟩ := M.frz ha fa h3 hr
        exact ⟨_, M', L, hr⟩
      | dic ks l => simp [freeze, q] at h
      | ins C ns l =>
        simp only [freeze, q] at h
        obtain ⟨ds, h1, h2⟩ := Option.map_eq_some_iff.mp h
        cases h2
        obtain ⟨fa, dx, fs, h3, h5, h4⟩ := c1
        rw [dsOf_eq h1] at h4
        have hr : Rep K (upd F a (.ins C dx fs)) (.ins C ns ds) (.ref a) := ⟨a, dx, fs, rfl, upd_same, h5, (reps_ds h4).mono' (Sub.upd_new fa)⟩
        obtain ⟨M', L⟩ := M.frz ha fa h3 hr
        exact ⟨_, M', L, hr⟩
def aFz (w : AE) : AE := fun ρ μ k => w ρ μ fun x μ1 => match freeze μ1 x with
  | some (d, μ2) => k (.d d) μ2
  | none => False
theorem snd_fz {K : Fg} (h : SndE K t w) : SndE K t (aFz w) := by
  intro F H σ ρ μ as k Q M E q hQ
  refine h M E q fun F1 H1 μ1 as1 x v L1 M1 r1 h1 => ?_
  split at h1
  · rename_i d μ2 q2
    obtain ⟨F2, M2, L2, r2⟩ := freeze_ok M1 r1 q2
    exact hQ _ _ _ _ (.d d) v (L1.trans L2) M2 r2 h1
  · exact h1.elim
theorem jf (h : JE X e t w) : JE X e t (aFz w) := ⟨h.pe, snd_fz h.snd⟩
/-- all data -/
def aTup (w : AA) : AE := fun ρ μ k => w ρ μ fun xs μ1 => match dsOf xs with
  | some ds => ds.length ≤ sizeLine ∧ k (.d (.tup ds)) μ1
  | none => False
def aLst (w : AA) : AE := fun ρ μ k => w ρ μ fun xs μ1 => match dsOf xs with
  | some ds => ds.length ≤ sizeLine ∧ k (.d (.lst ds)) μ1
  | none => False
theorem paired_len {α β : Type} {R : α → β → Prop} : ∀ {xs : List α} {ys : List β}, Paired R xs ys → xs.length = ys.length
  | _, _, .nil => rfl
  | _, _, .cons _ t => congrArg (· + 1) (paired_len t)
theorem j_tup {x1} (h : JA X es tr wr) : JE X (.Tuple es x1 pos) (tTup tr) (aTup wr) := ⟨pe_tup h.pa, by
  intro F H σ ρ μ as k Q M E q hQ
  refine h.snd M E q fun F1 H1 μ1 as1 xs vs L1 M1 r1 h1 => ?_
  split at h1
  · rename_i ds e1
    rw [dsOf_eq e1] at r1
    have r2 := reps_ds r1
    refine ⟨by rw [r2.len]; exact h1.1, snd_new M1 (d := .tup ds) (fun p F' e sb => ⟨p, vs, rfl, .inl (.inl e), r2.mono' sb⟩) h1.2 fun F2 H2 μ2 as2 s v L2 M2 r3 h3 => hQ _ _ _ _ _ _ (L1.trans L2) M2 r3 h3⟩
  · exact h1.elim⟩
theorem j_lst (h : JA X es tr wr) : JE X (.List es pos) (tLst tr) (aLst wr) := ⟨pe_lst h.pa, by
  intro F H σ ρ μ as k Q M E q hQ
  refine h.snd M E q fun F1 H1 μ1 as1 xs vs L1 M1 r1 h1 => ?_
  split at h1
  · rename_i ds e1
    rw [dsOf_eq e1] at r1
    have r2 := reps_ds r1
    refine ⟨by rw [r2.len]; exact h1.1, snd_new M1 (d := .lst ds) (fun p F' e sb => ⟨p, vs, rfl, .inl e, r2.mono' sb⟩) h1.2 fun F2 H2 μ2 as2 s v L2 M2 r3 h3 => hQ _ _ _ _ _ _ (L1.trans L2) M2 r3 h3⟩
  · exact h1.elim⟩
/-- a list display that becomes a cell -/
def aLstC (w : AA) : AE := fun ρ μ k => w ρ μ fun xs μ1 => xs.length ≤ sizeLine ∧ k (.m μ1.length) (μ1 ++ [.lst xs])
theorem RepSs.pre {K : Fg} {F : Hp} {as as' : List Addr} (h : ∀ (k : Nat) (a : Addr), as[k]? = some a → as'[k]? = some a) {xs : List Sl} {vs : List V} (r : RepSs K F as xs vs) : RepSs K F as' xs vs :=
  Paired.imp (fun s v q => by
    cases s with
    | d x => exact q
    | m k => obtain ⟨a, q1, q2⟩ := q; exact ⟨a, h k a q1, q2⟩) r
theorem j_lstC (h : JA X es tr wr) : JE X (.List es pos) (tLst tr) (aLstC wr) := ⟨pe_lst h.pa, by
  intro F H σ ρ μ as k Q M E q hQ
  refine h.snd M E q fun F1 H1 μ1 as1 xs vs L1 M1 r1 h1 => ⟨by rw [← paired_len r1]; exact h1.1, fun p hp => ?_⟩
  obtain ⟨M2, L2⟩ := M1.cell (o := .lst vs) (c := .lst xs) hp fun as' hs => ⟨M1.sub.free hp, vs, upd_same, RepSs.pre hs r1⟩
  exact hQ _ _ _ _ (.m μ1.length) _ (L1.trans L2) M2 ⟨p, by rw [← M1.len]; simp, rfl⟩ h1.2⟩
end
end Ww
/-! W4: subscripts, slices, built-ins. -/
namespace Ww
open PySem L2
theorem PE_or {X : Cx} {e : Expr} {t t' : TE} (h : PE X e t) (h' : PE X e t') : PE X e (fun σ H Q => t σ H Q ∨ t' σ H Q) :=
  ⟨fun pins s σ H Q I q => q.elim (h.run pins s σ H Q I) (h'.run pins s σ H Q I)⟩
section
variable {X : Cx} {e e1 e2 e3 : Expr} {t ta tb tc : TE} {w wa wb wc : AE} {pos : Pos} {es : List Expr} {tr : TA} {wr : AA}
/-! ### a[i] -/
/-- the i-th thing of data -/
def ixD : D → D → Option D
  | .lst l, .int i => atI l i
  | .tup l, .int i => atI l i
  | .tpl l, .int i => atI l i
  | _, _ => none
theorem atI_rep {K : Fg} {F : Hp} {ds : List D} {vs : List V} {i : Int} {d : D} (h : RepL K F ds vs) (e : atI ds i = some d) : ∃ v, atI vs i = some v ∧ Rep K F d v := by
  unfold atI at e ⊢
  obtain ⟨j, h1, h2⟩ := Option.bind_eq_some_iff.mp e
  obtain ⟨v, h3, h4⟩ := h.at_ h2
  exact ⟨v, by rw [h.len, h1]; exact h3, h4⟩
theorem atI_reps {K : Fg} {F : Hp} {as : List Addr} {ls : List Sl} {vs : List V} {i : Int} {s : Sl} (h : RepSs K F as ls vs) (e : atI ls i = some s) : ∃ v, atI vs i = some v ∧ RepS K F as s v := by
  unfold atI at e ⊢
  obtain ⟨j, h1, h2⟩ := Option.bind_eq_some_iff.mp e
  obtain ⟨v, h3, h4⟩ := paired_get h h2
  exact ⟨v, by rw [← paired_len h, h1]; exact h3, h4⟩
def look2 (x : Key) : List Key → List Sl → Option Sl
  | k :: ks, v :: vs => if k = x then some v else look2 x ks vs
  | _, _ => none
/-- what a cell holds at a slot: a dict by a text, a list by a number -/
def cellAt (c : Cell) (i : D) : Option Sl := match c, i with
  | .dic ks vs, .str x => look2 (Sum.inr x) ks vs
  | .lst l, .int i => atI l i
  | .frz x, i => (ixD x i).map .d
  | _, _ => none
def ixC (μ : Mu) (x y : Sl) : Option Sl := match y with
  | .m _ => none
  | .d i => match x with
    | .d x => (ixD x i).map .d
    | .m k => (μ[k]?).bind fun c => cellAt c i
def gIx : AR2 := fun μ x y k => match ixC μ x y with
  | some s => k s μ
  | none => False
def rIxU (K : Fg) : R2 := fun x y H Q => rIxL K x y H Q ∨ rIxT K x y H Q
def rIxD : R2 := fun x y H Q => ∃ a v, x = .ref a ∧ DGet H a y (some v) ∧ Q v H
theorem zip_look {K : Fg} {F : Hp} {as : List Addr} {x : Key} {s : Sl} : ∀ {ls : List Sl} {kvs : List (Key × V)}, RepSs K F as ls (kvs.map (·.2)) → look2 x (kvs.map (·.1)) ls = some s →
    ∃ v, valV kvs x = some v ∧ RepS K F as s v
  | [], [], .nil, h => by cases h
  | l :: ls, kv :: kvs, .cons h1 h2, h => by
    have h' : (if kv.1 = x then some l else look2 x (kvs.map (·.1)) ls) = some s := h
    by_cases q : kv.1 = x
    · rw [if_pos q] at h'
      cases h'
      exact ⟨kv.2, valV_pos q, h1⟩
    · rw [if_neg q] at h'
      obtain ⟨v, h3, h4⟩ := zip_look h2 h'
      exact ⟨v, by rw [valV_neg q]; exact h3, h4⟩
theorem ix_dict (hu : X.A.units + 1 < cLine) : IxR X rIxD := by
  intro value slice pins s σ H x y v u Q I rx ry h hs
  obtain ⟨a, z, ex, g, q⟩ := h
  subst ex
  cases rx
  exact PyProof.Rows.tail_any (dict_typeIs I g) PySem.F.slot_dict_getitem.lookup (d_getItem hu I g ry fun w' s3 I3 rw' => ⟨z, H, I3, rw', q⟩) hs
theorem snd_ix {K : Fg} : SndR K (fun x y H Q => rIxU K x y H Q ∨ rIxD x y H Q) gIx := by
  intro F H μ as x y v u k Q M r1 r2 h hQ
  unfold gIx at h
  split at h
  · rename_i s q
    unfold ixC at q
    cases y with
    | m j => cases q
    | d i =>
      have fin : ∀ (d : D), Rep K H d v → RepT K F H d v → ixD d i = some (match s with | .d z => z | .m _ => .non) → (∃ z, s = .d z) → rIxU K v u H Q ∨ rIxD v u H Q := by
        rintro d _ hd e ⟨z, rfl⟩
        unfold ixD at e
        split at e
        · obtain ⟨a, vs, rfl, h1, h2⟩ := hd
          obtain ⟨v', h3, h4⟩ := atI_rep h2 e
          exact .inl (.inl ⟨a, vs, _, v', rfl, r2, .inl h1, h3, hQ _ _ _ _ (.d z) _ .refl M h4 h⟩)
        · obtain ⟨a, vs, rfl, h1, h2⟩ := hd
          obtain ⟨v', h3, h4⟩ := atI_rep h2 e
          exact .inl (.inr ⟨a, vs, _, v', rfl, r2, M.sub.sqT h1, h3, hQ _ _ _ _ (.d z) _ .refl M h4 h⟩)
        · obtain ⟨a, vs, o, rfl, h1, _, h2⟩ := hd
          obtain ⟨v', h3, h4⟩ := atI_rep h2 e
          exact .inl (.inr ⟨a, vs, _, v', rfl, r2, M.sub.sqT (.inl (.inr ⟨o, h1⟩)), h3, hQ _ _ _ _ (.d z) _ .refl M h4 h⟩)
        · cases e
      cases x with
      | d x =>
        obtain ⟨z, e, rfl⟩ := Option.map_eq_some_iff.mp q
        exact fin x (Rep.mono M.sub x v r1) (Rep.top M.sub r1) e ⟨z, rfl⟩
      | m j =>
        obtain ⟨c, h1, h2⟩ := Option.bind_eq_some_iff.mp q
        obtain ⟨a, ha, rfl⟩ := r1
        have c1 := M.at_ j c a h1 ha
        unfold cellAt at h2
        split at h2
        · obtain ⟨_, kvs, g1, g2, g3⟩ := c1
          subst g2
          obtain ⟨v', g4, g5⟩ := zip_look g3 h2
          refine .inr ⟨a, v', rfl, ?_, hQ _ _ _ _ s _ .refl M g5 h⟩
          have e2 : u = .str _ := r2
          rw [e2, ← g4]
          exact DGet.k (k := Sum.inr _) g1
        · obtain ⟨_, vs, g1, g2⟩ := c1
          obtain ⟨v', g3, g4⟩ := atI_reps g2 h2
          exact .inl (.inl ⟨a, vs, _, v', rfl, r2, .inl (.inl g1), g3, hQ _ _ _ _ s _ .refl M g4 h⟩)
        · obtain ⟨z, e, rfl⟩ := Option.map_eq_some_iff.mp h2
          exact fin _ (Rep.mono M.sub _ _ c1) (Rep.top M.sub c1) e ⟨z, rfl⟩
        · cases h2
  · exact h.elim
theorem j_ix (hu : X.A.units + 1 < cLine) (ha : JE X e1 ta wa) (hb : JE X e2 tb wb) (hs : PlainIx e2 := by exact fun _ _ => rfl) : JE X (.Subscript e1 e2 pos) (tOp (fun x y H Q => rIxU X.K x y H Q ∨ rIxD x y H Q) ta tb) (aOp gIx wa wb) :=
  ⟨pe_ix ((ix_list.or ix_tup).or (ix_dict hu)) ha.pe hb.pe hs, snd_op snd_ix ha.snd hb.snd⟩
end
end Ww
/-! W5: slices, built-ins. -/
namespace Ww
open PySem L2
section
variable {X : Cx} {e e1 e2 e3 : Expr} {t ta tb tc : TE} {w wa wb wc : AE} {pos : Pos} {es : List Expr} {tr : TA} {wr : AA}
/-! ### slices -/
abbrev AO := Rho → Mu → (Option Int → Mu → Prop) → Prop
def SndO (K : Fg) (t : TO) (w : AO) : Prop := ∀ {F H : Hp} {σ : L2.St} {ρ : Rho} {μ : Mu} {as : List Addr} {k : Option Int → Mu → Prop} {Q : Option Int → Hp → Prop},
  Mem K F H μ as → EnvR K F as σ ρ → w ρ μ k → (∀ F' H' μ' as' o, Later F H as F' H' as' → Mem K F' H' μ' as' → k o μ' → Q o H') → t σ H Q
structure JO (X : Cx) (e : Option Expr) (t : TO) (w : AO) : Prop where
  po : PO X e t
  snd : SndO X.K t w
def aNoP : AO := fun _ μ k => k none μ
def aPart (w : AE) : AO := fun ρ μ k => w ρ μ fun x μ1 => match rdD μ1 x with
  | some (.int i) => k (some i) μ1
  | _ => False
theorem jo_none : JO X none tNoPart aNoP := ⟨po_none, fun M E h hQ => hQ _ _ _ _ _ .refl M h⟩
theorem jo_some (h : JE X e t w) : JO X (some e) (tPart t) (aPart w) := ⟨po_some h.pe, by
  intro F H σ ρ μ as k Q M E q hQ
  refine h.snd M E q fun F1 H1 μ1 as1 x v L1 M1 r1 h1 => ?_
  split at h1
  · rename_i i q1
    exact ⟨i, rd_ok M1 r1 q1, hQ _ _ _ _ _ L1 M1 h1⟩
  · exact h1.elim⟩
def cut {α : Type} (xs : List α) (lo hi : Option Int) : List α := (xs.drop (HT.sIx xs.length 0 lo)).take (HT.sIx xs.length xs.length hi - HT.sIx xs.length 0 lo)
theorem RepL.cut {K : Fg} {F : Hp} {ds : List D} {vs : List V} (h : RepL K F ds vs) (lo hi : Option Int) : RepL K F (cut ds lo hi) (cutV vs lo hi) := by
  unfold Ww.cut cutV
  rw [h.len]
  exact (h.drop _).take _
def fSl (a : D) (lo hi : Option Int) (k : Sl → Mu → Prop) (μ : Mu) : Prop := match a with
  | .lst l => k (.d (.lst (cut l lo hi))) μ
  | .tup l => k (.d (.tup (cut l lo hi))) μ
  | _ => False
def aSl (wa : AE) (wl wh : AO) : AE := fun ρ μ k => wa ρ μ fun x μ1 => wl ρ μ1 fun lo μ2 => wh ρ μ2 fun hi μ3 => match rdD μ3 x with
  | some a => fSl a lo hi k μ3
  | none => False
def rSlU (K : Fg) : V → Option Int → Option Int → Hp → VK → Prop := fun x lo hi H Q => rSlL K x lo hi H Q ∨ rSlA K x lo hi H Q
theorem j_slice {lo hi : Option Expr} {tl th : TO} {wl wh : AO} {p2 : Pos} (ha : JE X e ta wa) (hl : JO X lo tl wl) (hh : JO X hi th wh) : JE X (.Subscript e (.Slice lo hi none p2) pos) (tSl (rSlU X.K) ta tl th) (aSl wa wl wh) := ⟨pe_slice (sl_list.or sl_tupA) ha.pe hl.po hh.po, by
  intro F H σ ρ μ as k Q M E q hQ
  refine ha.snd M E q fun F1 H1 μ1 as1 x v L1 M1 r1 h1 => ?_
  refine hl.snd M1 (E.later L1) h1 fun F2 H2 μ2 as2 o L2 M2 h2 => ?_
  refine hh.snd M2 (E.later (L1.trans L2)) h2 fun F3 H3 μ3 as3 o' L3 M3 h3 => ?_
  have LL := (L1.trans L2).trans L3
  split at h3
  · rename_i a q1
    have g := rd_ok M3 (r1.later (L2.trans L3)) q1
    unfold fSl at h3
    split at h3
    · obtain ⟨p, vs, rfl, g1, g2⟩ := g
      exact .inl ⟨p, vs, rfl, .inl g1, snd_new M3 (d := .lst _) (fun p' F' e sb => ⟨p', _, rfl, .inl e, (g2.cut o o').mono' sb⟩) h3 fun F4 H4 μ4 as4 s v L4 M4 r4 h4 => hQ _ _ _ _ _ _ (LL.trans L4) M4 r4 h4⟩
    · obtain ⟨p, vs, rfl, g1, g2⟩ := g
      refine .inr ⟨p, vs, rfl, M3.sub.sqT g1, fun c => ?_, fun _ => snd_new M3 (d := .tup _) (fun p' F' e sb => ⟨p', _, rfl, .inl (.inl e), (g2.cut o o').mono' sb⟩) h3 fun F4 H4 μ4 as4 s v L4 M4 r4 h4 => hQ _ _ _ _ _ _ (LL.trans L4) M4 r4 h4⟩
      rename_i l
      have e1 : cut l o o' = l := by
        unfold cut
        rw [← g2.len, c.1, c.2, List.drop_zero, Nat.sub_zero, g2.len, List.take_length]
      rw [e1] at h3
      exact hQ _ _ _ _ (.d (.tup l)) _ LL M3 ⟨p, vs, rfl, g1, g2⟩ h3
    · exact h3.elim
  · exact h3.elim⟩
/-! ### built-ins of one argument, by data -/
abbrev AR1 := Mu → List Sl → (Sl → Mu → Prop) → Prop
def SndC (K : Fg) (r : List V → Hp → VK → Prop) (g : AR1) : Prop := ∀ {F H : Hp} {μ : Mu} {as : List Addr} {xs : List Sl} {vs : List V} {k : Sl → Mu → Prop} {Q : VK},
  Mem K F H μ as → RepSs K F as xs vs → g μ xs k → (∀ F' H' μ' as' s v, Later F H as F' H' as' → Mem K F' H' μ' as' → RepS K F' as' s v → k s μ' → Q v H') → r vs H Q
structure CalJ (X : Cx) (f : Value) (r : List V → Hp → VK → Prop) (g : AR1) : Prop where
  call : CallR X f r
  snd : SndC X.K r g
def aCB (g : AR1) (w : AA) : AE := fun ρ μ k => w ρ μ fun xs μ1 => g μ1 xs k
theorem snd_cb {K : Fg} {r : List V → Hp → VK → Prop} {g : AR1} (hr : SndC K r g) (h : SndA K tr wr) : SndE K (tCB r tr) (aCB g wr) := by
  intro F H σ ρ μ as k Q M E q hQ
  refine h M E q fun F1 H1 μ1 as1 xs vs L1 M1 r1 h1 => ?_
  exact hr M1 r1 h1 fun F2 H2 μ2 as2 s v L2 M2 r2 h2 => hQ _ _ _ _ _ _ (L1.trans L2) M2 r2 h2
variable {x : Str} {p : Pos} {bid T : String} {r : List V → Hp → VK → Prop} {g : AR1}
theorem j_callB (c : CalJ X (.builtin bid) r g) (hg : Gl X x) (hm : X.mg x = none) (hv : bootBuiltins x = some (.builtin bid)) (ha : JA X (e :: es) tr wr) (hn : x ≠ "__name__" := by decide) (hdb : (x == ("__debug__" : Str)) = false := by decide)
    (he : starEach (e :: es) X.env = (false, eval e X.env) :: starEach es X.env := by rfl) (hpl : (backTo pos (starEach es X.env)).any (·.1) = false := by rfl) : JE X (.Call (.Name x p) (e :: es) [] pos) (tCB r tr) (aCB g wr) :=
  ⟨pe_callB c.call hg hm hv ha.pa hn hdb he hpl, snd_cb c.snd ha.snd⟩
theorem j_callTy (c : CalJ X (.type T) r g) (hg : Gl X x) (hm : X.mg x = none) (hv : bootBuiltins x = some (.type T)) (ha : JA X (e :: es) tr wr) (hn : x ≠ "__name__" := by decide) (hdb : (x == ("__debug__" : Str)) = false := by decide)
    (he : starEach (e :: es) X.env = (false, eval e X.env) :: starEach es X.env := by rfl) (hpl : (backTo pos (starEach es X.env)).any (·.1) = false := by rfl) : JE X (.Call (.Name x p) (e :: es) [] pos) (tCB r tr) (aCB g wr) :=
  ⟨pe_callTy c.call hg hm hv ha.pa hn hdb he hpl, snd_cb c.snd ha.snd⟩
/-- one argument, read as data -/
def on1 (f : D → (Sl → Mu → Prop) → Mu → Prop) : AR1 := fun μ xs k => match xs with
  | [s] => (match rdD μ s with
    | some d => f d k μ
    | none => False)
  | _ => False
theorem on1_elim {K : Fg} {F H : Hp} {as : List Addr} {f : D → (Sl → Mu → Prop) → Mu → Prop} {μ : Mu} {xs : List Sl} {vs : List V} {k : Sl → Mu → Prop} (M : Mem K F H μ as) (r : RepSs K F as xs vs) (h : on1 f μ xs k) : ∃ v d, vs = [v] ∧ RepT K F H d v ∧ f d k μ := by
  unfold on1 at h
  split at h
  · split at h
    · rename_i s d q
      cases r with
      | cons r1 r2 =>
        cases r2
        exact ⟨_, d, rfl, rd_ok M r1 q, h⟩
    · exact h.elim
  · exact h.elim
def fLen : D → (Sl → Mu → Prop) → Mu → Prop
  | .lst l, k, μ => k (.d (.int (l.length : Nat))) μ
  | .tup l, k, μ => k (.d (.int (l.length : Nat))) μ
  | .str x, k, μ => x.length ≤ sizeLine ∧ k (.d (.int (x.length : Nat))) μ
  | _, _, _ => False
def rLenU (K : Fg) : List V → Hp → VK → Prop := fun xs H Q => ∃ x n, xs = [x] ∧ LenV K x H n ∧ Q (.int n) H
theorem c_len : CalJ X (.builtin "len") (rLenU X.K) (on1 fLen) := ⟨call_len, by
  intro F H μ as xs vs k Q M r h hQ
  obtain ⟨v, d, rfl, g, h⟩ := on1_elim M r h
  unfold fLen at h
  split at h
  · obtain ⟨p, us, rfl, g1, g2⟩ := g
    exact ⟨_, _, rfl, .inl ⟨us, .inl g1, g2.len.symm⟩, hQ _ _ _ _ (.d (.int _)) _ .refl M reps_int h⟩
  · obtain ⟨p, us, rfl, g1, g2⟩ := g
    exact ⟨_, _, rfl, .inr ⟨us, M.sub.sqT g1, g2.len.symm⟩, hQ _ _ _ _ (.d (.int _)) _ .refl M reps_int h⟩
  · have e : v = .str _ := g
    subst e
    exact ⟨_, _, rfl, ⟨h.1, rfl⟩, hQ _ _ _ _ (.d (.int _)) _ .refl M reps_int h.2⟩
  · exact h.elim⟩
def bools : List D → Option (List Bool)
  | [] => some []
  | .bl b :: r => (bools r).map (b :: ·)
  | _ :: _ => none
theorem bools_ok {K : Fg} {F : Hp} : ∀ {ds : List D} {vs : List V} {bs : List Bool}, RepL K F ds vs → bools ds = some bs → vs = bs.map V.bl
  | [], _, _, h, e => by cases e; rw [show _ = [] from h]; rfl
  | .bl b :: ds, _, bs, ⟨v, r, h1, h2, h3⟩, e => by
    obtain ⟨cs, e1, rfl⟩ := Option.map_eq_some_iff.mp (show (bools ds).map (b :: ·) = some bs from e)
    subst h1
    have e2 : v = .bl b := h2
    rw [e2, bools_ok h3 e1]
    rfl
  | .non :: _, _, _, _, e => by cases e
  | .int _ :: _, _, _, _, e => by cases e
  | .str _ :: _, _, _, _, e => by cases e
  | .tup _ :: _, _, _, _, e => by cases e
  | .tpl _ :: _, _, _, _, e => by cases e
  | .lst _ :: _, _, _, _, e => by cases e
  | .dic _ _ :: _, _, _, _, e => by cases e
  | .ins _ _ _ :: _, _, _, _, e => by cases e
  | .ty _ :: _, _, _, _, e => by cases e
  | .cls _ :: _, _, _, _, e => by cases e
def fBools (f : List Bool → Bool) : D → (Sl → Mu → Prop) → Mu → Prop
  | .lst l, k, μ => (match bools l with
    | some bs => k (.d (.bl (f bs))) μ
    | none => False)
  | _, _, _ => False
theorem fBools_elim {f : List Bool → Bool} {d : D} {k : Sl → Mu → Prop} {μ : Mu} (h : fBools f d k μ) : ∃ l bs, d = .lst l ∧ bools l = some bs ∧ k (.d (.bl (f bs))) μ := by
  cases d with
  | lst l =>
    have h' : (match bools l with | some bs => k (.d (.bl (f bs))) μ | none => False) := h
    cases q : bools l with
    | some bs => rw [q] at h'; exact ⟨l, bs, rfl, q, h'⟩
    | none => rw [q] at h'; exact h'.elim
  | _ => exact (show False from h).elim
theorem c_all (hc : X.calm = true) : CalJ X (.builtin "all") (rAll X.K) (on1 (fBools fun bs => bs.all fun b => b)) := ⟨cr_all hc, by
  intro F H μ as xs vs k Q M r h hQ
  obtain ⟨v, d, rfl, g, h⟩ := on1_elim M r h
  obtain ⟨l, bs, rfl, q, h⟩ := fBools_elim h
  obtain ⟨p, us, rfl, g1, g2⟩ := g
  rw [bools_ok g2 q] at g1
  exact ⟨p, bs, rfl, .inl g1, kb M hQ h⟩⟩
theorem c_any (hc : X.calm = true) : CalJ X (.builtin "any") (rAny X.K) (on1 (fBools fun bs => bs.any fun b => b)) := ⟨cr_any hc, by
  intro F H μ as xs vs k Q M r h hQ
  obtain ⟨v, d, rfl, g, h⟩ := on1_elim M r h
  obtain ⟨l, bs, rfl, q, h⟩ := fBools_elim h
  obtain ⟨p, us, rfl, g1, g2⟩ := g
  rw [bools_ok g2 q] at g1
  exact ⟨p, bs, rfl, .inl g1, kb M hQ h⟩⟩
def fAbs : D → (Sl → Mu → Prop) → Mu → Prop
  | .int i, k, μ => k (.d (.int (if i < 0 then -i else i))) μ
  | _, _, _ => False
def rAbs : List V → Hp → VK → Prop := fun xs H Q => ∃ i, xs = [.int i] ∧ Q (.int (if i < 0 then -i else i)) H
theorem c_abs : CalJ X (.builtin "abs") rAbs (on1 fAbs) := ⟨call_abs, by
  intro F H μ as xs vs k Q M r h hQ
  obtain ⟨v, d, rfl, g, h⟩ := on1_elim M r h
  unfold fAbs at h
  split at h
  · have e : v = .int _ := g
    subst e
    exact ⟨_, rfl, hQ _ _ _ _ (.d (.int _)) _ .refl M reps_int h⟩
  · exact h.elim⟩
def fInt : D → (Sl → Mu → Prop) → Mu → Prop
  | .int i, k, μ => k (.d (.int i)) μ
  | _, _, _ => False
def rInt : List V → Hp → VK → Prop := fun xs H Q => (∃ i, xs = [.int i] ∧ Q (.int i) H) ∨ ∃ k, xs = [.bl k] ∧ Q (.int (if k then 1 else 0)) H
theorem c_int : CalJ X (.type "int") rInt (on1 fInt) := ⟨call_int1, by
  intro F H μ as xs vs k Q M r h hQ
  obtain ⟨v, d, rfl, g, h⟩ := on1_elim M r h
  unfold fInt at h
  split at h
  · have e : v = .int _ := g
    subst e
    exact .inl ⟨_, rfl, hQ _ _ _ _ (.d (.int _)) _ .refl M reps_int h⟩
  · exact h.elim⟩
/-! tuple(x), list(x) -/
def fTup : D → (Sl → Mu → Prop) → Mu → Prop
  | .lst l, k, μ => k (.d (.tup l)) μ
  | .tup l, k, μ => k (.d (.tup l)) μ
  | _, _, _ => False
def rTupOf (K : Fg) : List V → Hp → VK → Prop := fun xs H Q => ∃ p ys, xs = [.ref p] ∧ ((SqL K H p ys ∧ ∀ l, H l = none → Q (.ref l) (upd H l (.tup ys))) ∨ (SqT K H p ys ∧ Q (.ref p) H))
theorem c_tup : CalJ X (.type "tuple") (rTupOf X.K) (on1 fTup) := ⟨call_tuple_of, by
  intro F H μ as xs vs k Q M r h hQ
  obtain ⟨v, d, rfl, g, h⟩ := on1_elim M r h
  unfold fTup at h
  split at h
  · obtain ⟨p, us, rfl, g1, g2⟩ := g
    exact ⟨p, us, rfl, .inl ⟨.inl g1, snd_new M (d := .tup _) (fun p' F' e sb => ⟨p', _, rfl, .inl (.inl e), g2.mono' sb⟩) h hQ⟩⟩
  · obtain ⟨p, us, rfl, g1, g2⟩ := g
    exact ⟨p, us, rfl, .inr ⟨M.sub.sqT g1, hQ _ _ _ _ (.d (.tup _)) _ .refl M ⟨p, us, rfl, g1, g2⟩ h⟩⟩
  · exact h.elim⟩
def fLst : D → (Sl → Mu → Prop) → Mu → Prop
  | .lst l, k, μ => k (.d (.lst l)) μ
  | .tup l, k, μ => k (.d (.lst l)) μ
  | _, _, _ => False
def rLstOf (K : Fg) : List V → Hp → VK → Prop := fun xs H Q => ∃ p ys, xs = [.ref p] ∧ (SqL K H p ys ∨ SqT K H p ys) ∧ ∀ l, H l = none → Q (.ref l) (upd H l (.lst ys))
theorem c_lst : CalJ X (.type "list") (rLstOf X.K) (on1 fLst) := ⟨call_list_of, by
  intro F H μ as xs vs k Q M r h hQ
  obtain ⟨v, d, rfl, g, h⟩ := on1_elim M r h
  unfold fLst at h
  split at h
  · obtain ⟨p, us, rfl, g1, g2⟩ := g
    exact ⟨p, us, rfl, .inl (.inl g1), snd_new M (d := .lst _) (fun p' F' e sb => ⟨p', _, rfl, .inl e, g2.mono' sb⟩) h hQ⟩
  · obtain ⟨p, us, rfl, g1, g2⟩ := g
    exact ⟨p, us, rfl, .inr (M.sub.sqT g1), snd_new M (d := .lst _) (fun p' F' e sb => ⟨p', _, rfl, .inl e, g2.mono' sb⟩) h hQ⟩
  · exact h.elim⟩
/-- a new list that becomes a cell -/
def fLstC : D → (Sl → Mu → Prop) → Mu → Prop
  | .lst l, k, μ => k (.m μ.length) (μ ++ [.lst (l.map .d)])
  | .tup l, k, μ => k (.m μ.length) (μ ++ [.lst (l.map .d)])
  | _, _, _ => False
theorem snd_newC {K : Fg} {F H : Hp} {μ : Mu} {as : List Addr} (M : Mem K F H μ as) {vs : List V} {xs : List Sl} (r : RepSs K F as xs vs) {k : Sl → Mu → Prop} {Q : VK} (hk : k (.m μ.length) (μ ++ [.lst xs]))
    (hQ : ∀ F' H' μ' as' s v, Later F H as F' H' as' → Mem K F' H' μ' as' → RepS K F' as' s v → k s μ' → Q v H') : ∀ p, H p = none → Q (.ref p) (upd H p (.lst vs)) := fun p hp => by
  obtain ⟨M2, L2⟩ := M.cell (o := .lst vs) (c := .lst xs) hp fun as' hs => ⟨M.sub.free hp, vs, upd_same, RepSs.pre hs r⟩
  exact hQ _ _ _ _ (.m μ.length) _ L2 M2 ⟨p, by rw [← M.len]; simp, rfl⟩ hk
theorem c_lstC : CalJ X (.type "list") (rLstOf X.K) (on1 fLstC) := ⟨call_list_of, by
  intro F H μ as xs vs k Q M r h hQ
  obtain ⟨v, d, rfl, g, h⟩ := on1_elim M r h
  unfold fLstC at h
  split at h
  · obtain ⟨p, us, rfl, g1, g2⟩ := g
    exact ⟨p, us, rfl, .inl (.inl g1), snd_newC M (ds_reps g2) h hQ⟩
  · obtain ⟨p, us, rfl, g1, g2⟩ := g
    exact ⟨p, us, rfl, .inr (M.sub.sqT g1), snd_newC M (ds_reps g2) h hQ⟩
  · exact h.elim⟩
end
end Ww
/-! W6: isinstance, in, calls of defs, properties, methods of cells. -/
namespace Ww
open PySem L2
section
variable {X : Cx} {e e1 e2 e3 : Expr} {t ta tb tc : TE} {w wa wb wc : AE} {pos : Pos} {es : List Expr} {tr : TA} {wr : AA} {p : Pos} {x : Str}
/-! ### isinstance -/
/-- a built-in's name as a value -/
theorem j_ty {n : String} {pos : Pos} (hg : Gl X x) (hm : X.mg x = none) (hv : bootBuiltins x = some (.type n)) (hn : x ≠ "__name__" := by decide) (hd : (x == ("__debug__" : Str)) = false := by decide) : JE X (.Name x pos) (tC (.ty n)) (aC (.ty n)) :=
  ⟨pe_bltn hg hm hv rfl hn hd, snd_c fun F => by unfold Rep; rfl⟩
def tyName : D → Option String
  | .non => some "NoneType"
  | .bl _ => some "bool"
  | .int _ => some "int"
  | .str _ => some "str"
  | .tup _ => some "tuple"
  | .lst _ => some "list"
  | .dic _ _ => some "dict"
  | _ => none
theorem tyx_of {K : Fg} {F H : Hp} (e : Sub F H) : ∀ {d : D} {v : V} {n : String}, RepT K F H d v → tyName d = some n → TyX K H v (.type n)
  | .non, _, _, h, q => by cases q; cases (show _ = _ from h); exact .base .non
  | .bl b, _, _, h, q => by cases q; cases (show _ = _ from h); exact .base (.bl b)
  | .int b, _, _, h, q => by cases q; cases (show _ = _ from h); exact .base (.int b)
  | .str b, _, _, h, q => by cases q; cases (show _ = _ from h); exact .base (.str b)
  | .tup l, _, _, ⟨a, vs, h1, h2, h3⟩, q => by
    cases q
    subst h1
    rcases h2 with (h2 | ⟨o, h2⟩) | ⟨o, its, n, h2, h4, _⟩
    · exact .base (.tup (e _ _ h2))
    · exact .fTuple (e _ _ h2)
    · exact .kTuple h2 h4
  | .tpl _, _, _, _, q => by cases q
  | .ins _ _ _, _, _, _, q => by cases q
  | .ty _, _, _, _, q => by cases q
  | .cls _, _, _, _, q => by cases q
  | .lst l, _, _, ⟨a, vs, h1, h2, h3⟩, q => by
    cases q
    subst h1
    rcases h2 with h2 | ⟨o, h2⟩
    · exact .base (.lst h2)
    · exact .base (.frz h2)
  | .dic ks ds, _, _, ⟨a, h1, h2⟩, q => by
    cases q
    subst h1
    rcases h2 with ⟨kvs, g, _⟩ | ⟨kvs, g, _⟩
    · exact .base (.dK (e _ _ g))
    · exact .base (.dT (e _ _ g))
/-- of which kinds a value of a kind is -/
def isTyB (m n : String) : Bool := m == n || (m == "bool" && n == "int")
def knds : List String := ["NoneType", "bool", "int", "str", "tuple", "list", "dict"]
theorem kit_all : (knds.all fun m => knds.all fun n => decide (kitB m n = some (isTyB m n))) = true := by decide +kernel
theorem kit_is {m n : String} (hm : m ∈ knds) (hn : n ∈ knds) : kitB m n = some (isTyB m n) :=
  of_decide_eq_true (List.all_eq_true.mp (List.all_eq_true.mp kit_all m hm) n hn)
theorem tyName_mem : ∀ {d : D} {n : String}, tyName d = some n → n ∈ knds
  | .non, _, q => by cases q; decide
  | .bl _, _, q => by cases q; decide
  | .int _, _, q => by cases q; decide
  | .str _, _, q => by cases q; decide
  | .tup _, _, q => by cases q; decide
  | .lst _, _, q => by cases q; decide
  | .dic _ _, _, q => by cases q; decide
/-- what the top has of a class of its own -/
structure KindF (K : Fg) (C : Addr) : Prop where
  cl : Cls K C
  ha : PySem.W.findIn K (.ref C) "__class__" = some (some (.builtin "object.__class__"))
  hn : PySem.W.specialIn K (.builtin "object.__class__") "__get__" = some (some (.builtin "getset_descriptor.__get__"))
  htk : PySem.W.takesIn K (.builtin "object.__class__") = some true
  hm : PySem.W.mroIn K C (.type "object") = some true
  self : PySem.W.kitOne K (.ref C) (.ref C) = some true
  no : ∀ m ∈ knds, PySem.W.kitOne K (.type m) (.ref C) = some false
/-- isinstance: of a kind, of a class of one's own, of one of some kinds -/
def tys : List D → Option (List String)
  | [] => some []
  | .ty n :: r => if n ∈ knds then (tys r).map (n :: ·) else none
  | _ :: _ => none
def fIsi (K : Fg) : D → D → (Sl → Mu → Prop) → Mu → Prop
  | d, .ty n, k, μ => n ∈ knds ∧ ∃ m, tyName d = some m ∧ k (.d (.bl (isTyB m n))) μ
  | d, .tup l, k, μ => ∃ m ns, tyName d = some m ∧ tys l = some ns ∧ k (.d (.bl (ns.any fun n => isTyB m n))) μ
  | .ins C ns vs, .cls C', k, μ => C = C' ∧ KindF K C ∧ k (.d (.bl true)) μ
  | d, .cls C', k, μ => (∃ m, tyName d = some m) ∧ KindF K C' ∧ k (.d (.bl false)) μ
  | _, _, _, _ => False
def on2 (f : D → D → (Sl → Mu → Prop) → Mu → Prop) : AR1 := fun μ xs k => match xs with
  | [s, s'] => rd2 f μ s s' k
  | _ => False
theorem on2_elim {K : Fg} {F H : Hp} {as : List Addr} {f : D → D → (Sl → Mu → Prop) → Mu → Prop} {μ : Mu} {xs : List Sl} {vs : List V} {k : Sl → Mu → Prop} (M : Mem K F H μ as) (r : RepSs K F as xs vs) (h : on2 f μ xs k) :
    ∃ v d v' d', vs = [v, v'] ∧ RepT K F H d v ∧ RepT K F H d' v' ∧ f d d' k μ := by
  unfold on2 at h
  split at h
  · obtain ⟨a, b, h1, h2, h⟩ := rd2_elim h
    cases r with
    | cons r1 r2 =>
      cases r2 with
      | cons r2 r3 =>
        cases r3
        exact ⟨_, a, _, b, rfl, rd_ok M r1 h1, rd_ok M r2 h2, h⟩
  · exact h.elim
theorem tys_ok {K : Fg} {F : Hp} : ∀ {l : List D} {vs : List V} {ns : List String}, RepL K F l vs → tys l = some ns → Paired ClsV vs (ns.map Value.type) ∧ ∀ n ∈ ns, n ∈ knds
  | [], _, _, h, e => by cases e; rw [show _ = [] from h]; exact ⟨.nil, fun _ h => nomatch h⟩
  | .ty n :: l, _, ns, ⟨v, r, h1, h2, h3⟩, e => by
    have e' : (if n ∈ knds then (tys l).map (n :: ·) else none) = some ns := e
    by_cases q : n ∈ knds
    · rw [if_pos q] at e'
      obtain ⟨ms, e1, rfl⟩ := Option.map_eq_some_iff.mp e'
      obtain ⟨g1, g2⟩ := tys_ok h3 e1
      subst h1
      have e2 : v = .ty n := h2
      subst e2
      exact ⟨.cons (.ty n) g1, fun m hm => (List.mem_cons.mp hm).elim (fun z => z ▸ q) (g2 m)⟩
    · rw [if_neg q] at e'
      cases e'
  | .non :: _, _, _, _, e => by cases e
  | .bl _ :: _, _, _, _, e => by cases e
  | .int _ :: _, _, _, _, e => by cases e
  | .str _ :: _, _, _, _, e => by cases e
  | .tup _ :: _, _, _, _, e => by cases e
  | .tpl _ :: _, _, _, _, e => by cases e
  | .lst _ :: _, _, _, _, e => by cases e
  | .dic _ _ :: _, _, _, _, e => by cases e
  | .ins _ _ _ :: _, _, _, _, e => by cases e
  | .cls _ :: _, _, _, _, e => by cases e
theorem kit_anys {K : Fg} {m : String} (hm : m ∈ knds) : ∀ {ns : List String}, (∀ n ∈ ns, n ∈ knds) → PySem.W.kitAny K (.type m) (ns.map Value.type) = some (ns.any fun n => isTyB m n)
  | [], _ => rfl
  | n :: ns, h => by
    have h1 : PySem.W.kitOne K (.type m) (.type n) = some (isTyB m n) := kit_ty (kit_is hm (h n List.mem_cons_self))
    have h2 := kit_anys (K := K) hm (ns := ns) fun z hz => h z (List.mem_cons_of_mem _ hz)
    refine kitAny_cons h1 (fun e => ?_) fun e => ?_
    · rw [h2, List.any_cons, e, Bool.false_or]
    · rw [List.any_cons, e, Bool.true_or]
/-- isinstance(x, T), T any tuple that may be read -/
def rIsiS (K : Fg) : List V → Hp → VK → Prop := fun xs H Q => ∃ (x : V) (tp : Addr) (cs : List V) (t : Value) (us : List Value) (b : Bool), xs = [x, .ref tp] ∧ SqT K H tp cs ∧ Paired ClsV cs us ∧ TyX K H x t ∧ PySem.W.kitAny K t us = some b ∧ Q (.bl b) H
theorem call_isiS : CallR X (.builtin "isinstance") (rIsiS X.K) := by
  intro pins s σ H xs us Q I r h
  obtain ⟨x, tp, cs, t, ws, b, ex, hT, k, ty, ek, q⟩ := h
  subst ex
  obtain ⟨u1, u2, eu, r1, r2⟩ := vals2 r
  subst eu
  cases (show u2 = Value.ref tp from r2)
  obtain ⟨P, Z, pz, hx⟩ := kit_of I r1 ty
  obtain ⟨its, rv, ⟨⟨oc, od, dt, sl⟩, h1, h2, n, h3⟩, _⟩ := I.tuple hT
  have ei := ClsV.all k rv
  subst ei
  simp only at h2 h3
  subst h2 h3
  exact PySem.W.kia_tup Z I.kIn pz h1 ek hx fun tk => ⟨.bl b, H, I.tok tk, rfl, q⟩
def rIsiU (K : Fg) : List V → Hp → VK → Prop := fun xs H Q => rIsi K xs H Q ∨ rIsiS K xs H Q
theorem snd_isi {K : Fg} : SndC K (rIsiU K) (on2 (fIsi K)) := by
  intro F H μ as xs vs k Q M r h hQ
  obtain ⟨v, d, v', d', rfl, g, g', h⟩ := on2_elim M r h
  unfold fIsi at h
  split at h
  · obtain ⟨hn, m, e, h⟩ := h
    have e' : v' = .ty _ := g'
    subst e'
    exact .inl ⟨v, _, _, _, _, rfl, .ty _, tyx_of M.sub g e, kit_ty (kit_is (tyName_mem e) hn), kb M hQ h⟩
  · obtain ⟨m, ns, e, e1, h⟩ := h
    obtain ⟨a, us, rfl, g1, g2⟩ := g'
    obtain ⟨c1, c2⟩ := tys_ok g2 e1
    exact .inr ⟨v, a, us, _, _, _, rfl, M.sub.sqT g1, c1, tyx_of M.sub g e, kit_anys (tyName_mem e) c2, kb M hQ h⟩
  · obtain ⟨rfl, kf, h⟩ := h
    obtain ⟨a, dx, fs, rfl, g1, g2, g3⟩ := g
    have e' : v' = .ref _ := g'
    subst e'
    exact .inl ⟨_, _, _, _, true, rfl, .own _, .base (.ins (M.sub _ _ g1) kf.cl kf.ha kf.hn kf.htk kf.hm), kf.self, kb M hQ h⟩
  · obtain ⟨⟨m, e⟩, kf, h⟩ := h
    have e' : v' = .ref _ := g'
    subst e'
    exact .inl ⟨_, _, _, _, false, rfl, .own _, tyx_of M.sub g e, kf.no m (tyName_mem e), kb M hQ h⟩
  · exact h.elim
theorem c_isi : CalJ X (.builtin "isinstance") (rIsiU X.K) (on2 (fIsi X.K)) := ⟨call_isi.or call_isiS, snd_isi⟩
/-! ### in, not in -/
def flatD : D → Bool
  | .non => true
  | .bl _ => true
  | .int _ => true
  | .str _ => true
  | _ => false
/-- == of flat data -/
def eqF : D → D → Bool
  | .non, .non => true
  | .bl a, .bl b => a == b
  | .bl a, .int b => (if a then 1 else 0) == b
  | .int a, .bl b => a == (if b then 1 else 0)
  | .int a, .int b => a == b
  | .str a, .str b => a == b
  | _, _ => false
theorem flatV_of {K : Fg} {F : Hp} : ∀ {d : D} {v : V}, Rep K F d v → flatD d = true → flatV v = true
  | .non, _, h, _ => by cases (show _ = _ from h); rfl
  | .bl _, _, h, _ => by cases (show _ = _ from h); rfl
  | .int _, _, h, _ => by cases (show _ = _ from h); rfl
  | .str _, _, h, _ => by cases (show _ = _ from h); rfl
  | .tup _, _, _, q => by cases q
  | .tpl _, _, _, q => by cases q
  | .lst _, _, _, q => by cases q
  | .dic _ _, _, _, q => by cases q
  | .ins _ _ _, _, _, q => by cases q
  | .ty _, _, _, q => by cases q
  | .cls _, _, _, q => by cases q
theorem flat_eq {K : Fg} {F : Hp} : ∀ {d : D} {v : V}, Rep K F d v → flatD d = true → (d = .non ∧ v = .non) ∨ (∃ b, d = .bl b ∧ v = .bl b) ∨ (∃ i, d = .int i ∧ v = .int i) ∨ ∃ x, d = .str x ∧ v = .str x
  | .non, _, h, _ => .inl ⟨rfl, h⟩
  | .bl b, _, h, _ => .inr (.inl ⟨b, rfl, h⟩)
  | .int b, _, h, _ => .inr (.inr (.inl ⟨b, rfl, h⟩))
  | .str b, _, h, _ => .inr (.inr (.inr ⟨b, rfl, h⟩))
  | .tup _, _, _, q => by cases q
  | .tpl _, _, _, q => by cases q
  | .lst _, _, _, q => by cases q
  | .dic _ _, _, _, q => by cases q
  | .ins _ _ _, _, _, q => by cases q
  | .ty _, _, _, q => by cases q
  | .cls _, _, _, q => by cases q
theorem eqV_of {K : Fg} {F : Hp} {d e : D} {v u : V} (h : Rep K F d v) (h' : Rep K F e u) (f : flatD d = true) (f' : flatD e = true) : eqV v u = eqF d e := by
  rcases flat_eq h f with ⟨rfl, rfl⟩ | ⟨b, rfl, rfl⟩ | ⟨i, rfl, rfl⟩ | ⟨z, rfl, rfl⟩ <;> rcases flat_eq h' f' with ⟨rfl, rfl⟩ | ⟨b', rfl, rfl⟩ | ⟨i', rfl, rfl⟩ | ⟨z', rfl, rfl⟩ <;> rfl
theorem flats_of {K : Fg} {F : Hp} {x : D} {u : V} (hx : Rep K F x u) (fx : flatD x = true) : ∀ {l : List D} {vs : List V}, RepL K F l vs → l.all flatD = true → vs.all flatV = true ∧ inV u vs = l.any fun y => eqF y x
  | [], _, h, _ => by rw [show _ = [] from h]; exact ⟨rfl, rfl⟩
  | d :: l, _, ⟨v, r, h1, h2, h3⟩, f => by
    rw [List.all_cons, Bool.and_eq_true] at f
    obtain ⟨g1, g2⟩ := flats_of hx fx h3 f.2
    subst h1
    refine ⟨by rw [List.all_cons, flatV_of h2 f.1, g1]; rfl, ?_⟩
    have : inV u (v :: r) = (eqV v u || inV u r) := rfl
    rw [this, g2, eqV_of h2 hx f.1 fx, List.any_cons]
/-- in: flat data in a list or a tuple; any data in a list; a text in a text -/
def fIn (neg : Bool) (a b : D) (k : Sl → Mu → Prop) (μ : Mu) : Prop := match b with
  | .tup l => flatD a = true ∧ l.all flatD = true ∧ k (.d (.bl (if neg then !(l.any fun y => eqF y a) else l.any fun y => eqF y a))) μ
  | .lst l => (flatD a = true ∧ l.all flatD = true ∧ k (.d (.bl (if neg then !(l.any fun y => eqF y a) else l.any fun y => eqF y a))) μ) ∨
      ∃ p ps, toPy a = some p ∧ toPys l = some ps ∧ SeqAt.shaped p = true ∧ SeqAt.shaped (.list ps) = true ∧ k (.d (.bl (if neg then !(ps.any fun z => PyData.eqv z p) else ps.any fun z => PyData.eqv z p))) μ
  | .str y => ∃ x, a = .str x ∧ k (.d (.bl (if neg then !(!(Builtin.Str.occurrences y x 0 y.length 1).isEmpty) else !(Builtin.Str.occurrences y x 0 y.length 1).isEmpty))) μ
  | _ => False
def rInS (neg : Bool) : R2 := fun x y H Q => ∃ i j, x = .str i ∧ y = .str j ∧ Q (.bl (if neg then !(!(Builtin.Str.occurrences j i 0 j.length 1).isEmpty) else !(Builtin.Str.occurrences j i 0 j.length 1).isEmpty)) H
def rInDD (K : Fg) (neg : Bool) : R2 := fun x y H Q => ∃ d ds, Dp K H x d ∧ Dp K H y (.list ds) ∧ SeqAt.shaped d = true ∧ SeqAt.shaped (.list ds) = true ∧ Q (.bl (if neg then !ds.any fun z => PyData.eqv z d else ds.any fun z => PyData.eqv z d)) H
def rInU (K : Fg) (neg : Bool) : R2 := fun x y H Q => rIn K neg x y H Q ∨ rInDD K neg x y H Q ∨ rInS neg x y H Q
theorem snd_in {K : Fg} {neg : Bool} : SndR K (rInU K neg) (rd2 (fIn neg)) := by
  intro F H μ as x y v u k Q M r1 r2 h hQ
  obtain ⟨a, b, h1, h2, h⟩ := rd2_elim h
  have g1 := (rd_ok M r1 h1).rep M.sub
  have g2 := rd_ok M r2 h2
  unfold fIn at h
  split at h
  · obtain ⟨f1, f2, h⟩ := h
    obtain ⟨p, us, rfl, c1, c2⟩ := g2
    obtain ⟨q1, q2⟩ := flats_of g1 f1 (c2.mono' M.sub) f2
    refine .inl ⟨p, us, rfl, .inr (M.sub.sqT c1), flatV_of g1 f1, q1, ?_⟩
    rw [q2]
    exact kb M hQ h
  · obtain ⟨p, us, rfl, c1, c2⟩ := g2
    rcases h with ⟨f1, f2, h⟩ | ⟨d, ds, e1, e2, s1, s2, h⟩
    · obtain ⟨q1, q2⟩ := flats_of g1 f1 (c2.mono' M.sub) f2
      refine .inl ⟨p, us, rfl, .inl (.inl c1), flatV_of g1 f1, q1, ?_⟩
      rw [q2]
      exact kb M hQ h
    · exact .inr (.inl ⟨d, ds, dp_of a v d g1 e1, .lst (.inl c1) (dps_of _ us ds (c2.mono' M.sub) e2), s1, s2, kb M hQ h⟩)
  · obtain ⟨z, rfl, h⟩ := h
    exact .inr (.inr ⟨z, _, g1, g2, kb M hQ h⟩)
  · exact h.elim
theorem c_in (hu : X.A.units + 65 < cLine) : CmpJ X .In (rInU X.K false) (rd2 (fIn false)) := ⟨op_in_seq.or ((op_inD hu).or op_in_str), snd_in⟩
theorem c_nin (hu : X.A.units + 65 < cLine) : CmpJ X .NotIn (rInU X.K true) (rd2 (fIn true)) := ⟨op_notIn_seq.or ((op_notInD hu).or op_notin_str), snd_in⟩
/-! ### defs, by what they do over data -/
abbrev ASp := List Sl → Mu → (Sl → Mu → Prop) → Prop
def spOf (K : Fg) (S : ASp) : Sp := fun vs H Q _ => ∃ (F : Hp) (μ : Mu) (as : List Addr) (ss : List Sl) (k : Sl → Mu → Prop), Mem K F H μ as ∧ RepSs K F as ss vs ∧ S ss μ k ∧
  ∀ F' H' μ' as' s v, Later F H as F' H' as' → Mem K F' H' μ' as' → RepS K F' as' s v → k s μ' → Q v H'
def aCall (S : ASp) (w : AA) : AE := fun ρ μ k => w ρ μ fun ss μ1 => S ss μ1 k
theorem snd_call {K : Fg} {S : ASp} (h : SndA K tr wr) : SndE K (tCall (spOf K S) [] E0 tr) (aCall S wr) := by
  intro F H σ ρ μ as k Q M E q hQ
  refine h M E q fun F1 H1 μ1 as1 xs vs L1 M1 r1 h1 => ?_
  rw [List.append_nil]
  exact ⟨F1, μ1, as1, xs, k, M1, r1, h1, fun F2 H2 μ2 as2 s v L2 M2 r2 h2 => hQ _ _ _ _ _ _ (L1.trans L2) M2 r2 h2⟩
variable {CX : CXT} {n : Nat} {f C : Addr} {fd : FuncData} {ps : List Str} {S : ASp}
theorem j_call (G : FnOk X.prog X.w X.K X.mg X.base CX0 n f fd ps (spOf X.K S)) (hr : Room n X.A) (hg : Gl X x) (hm : X.mg x = some (.ref f)) (hk : PySem.W.keepIn X.K (.ref f) = true) (hb : Binds X.K fd ps [])
    (ha : JA X (e :: es) tr wr) (hdb : (x == ("__debug__" : Str)) = false := by decide) (he : starEach (e :: es) X.env = (false, eval e X.env) :: starEach es X.env := by rfl) (hpl : (backTo pos (starEach es X.env)).any (·.1) = false := by rfl) :
    JE X (.Call (.Name x p) (e :: es) [] pos) (tCall (spOf X.K S) [] E0 tr) (aCall S wr) := ⟨pe_call G hr hg hm hk hb .nil pass0 ha.pa hdb he hpl, snd_call ha.snd⟩
/-- e.f, a property -/
def aProp (S : ASp) (C : Addr) (w : AE) : AE := fun ρ μ k => w ρ μ fun s μ1 => ∃ ns ds, s = .d (.ins C ns ds) ∧ S [s] μ1 k
theorem j_prop {g pa : Addr} {m : Str} (ha : JE X e t w) (c : Cls X.K C) (hp : PropOf X.K C m pa g) (G : FnOk X.prog X.w X.K X.mg X.base CX0 n g fd ps (spOf X.K S)) (hr : Room (n + 1) X.A) (hb : Binds X.K fd ps [])
    (hab : attributeBase e m X.env (eval e X.env) = eval e X.env := by rfl) : JE X (.Attribute e m pos) (tProp C (spOf X.K S) [] E0 t) (aProp S C w) := ⟨pe_prop ha.pe c hp G hr hb .nil pass0 hab, by
  intro F H σ ρ μ as k Q M E q hQ
  refine ha.snd M E q fun F1 H1 μ1 as1 s v L1 M1 r1 h1 => ?_
  obtain ⟨ns, ds, rfl, h1⟩ := h1
  obtain ⟨a, dx, fs, rfl, g1, g2, g3⟩ := id r1
  exact ⟨a, dx, fs, rfl, M1.sub _ _ g1, F1, μ1, as1, _, k, M1, .cons r1 .nil, h1, fun F2 H2 μ2 as2 s v L2 M2 r2 h2 => hQ _ _ _ _ _ _ (L1.trans L2) M2 r2 h2⟩⟩
/-! ### methods of list cells -/
abbrev AR3 := Mu → Sl → List Sl → (Sl → Mu → Prop) → Prop
def SndM (K : Fg) (T : String) (r : V → List V → Hp → VK → Prop) (g : AR3) : Prop := ∀ {F H : Hp} {μ : Mu} {as : List Addr} {y : Sl} {u : V} {xs : List Sl} {vs : List V} {k : Sl → Mu → Prop} {Q : VK},
  Mem K F H μ as → RepS K F as y u → RepSs K F as xs vs → g μ y xs k → (∀ F' H' μ' as' s v, Later F H as F' H' as' → Mem K F' H' μ' as' → RepS K F' as' s v → k s μ' → Q v H') → r u vs H Q
/-- of the type T already: a cell of lists -/
def isLst (μ : Mu) : Sl → Prop
  | .d (.lst _) => True
  | .m k => (∃ l, μ[k]? = some (.lst l)) ∨ ∃ l, μ[k]? = some (.frz (.lst l))
  | _ => False
theorem isLst_ok {K : Fg} {F H : Hp} {μ : Mu} {as : List Addr} {y : Sl} {u : V} (M : Mem K F H μ as) (r : RepS K F as y u) (h : isLst μ y) : tyV K "list" u H := by
  have fin : ∀ l, Rep K F (.lst l) u → tyV K "list" u H := by
    rintro l ⟨a, vs, rfl, h1, _⟩
    exact .inl ⟨rfl, vs, .inl (M.sub.rd h1)⟩
  cases y with
  | d x => cases x with
    | lst l => exact fin l r
    | _ => exact (show False from h).elim
  | m k =>
    obtain ⟨a, ha, rfl⟩ := r
    rcases h with ⟨l, q⟩ | ⟨l, q⟩
    · obtain ⟨_, vs, h2, _⟩ := M.at_ k _ a q ha
      exact .inl ⟨rfl, vs, .inl (.inl h2)⟩
    · exact fin l (M.at_ k _ a q ha)
def aBM (g : AR3) (wo : AE) (w : AA) : AE := fun ρ μ k => wo ρ μ fun y μ1 => isLst μ1 y ∧ w ρ μ1 fun xs μ2 => g μ2 y xs k
def aBM0 (g : AR3) (wo : AE) : AE := fun ρ μ k => wo ρ μ fun y μ1 => isLst μ1 y ∧ g μ1 y [] k
variable {bid : String} {name : Str} {apos cpos : Pos} {r : V → List V → Hp → VK → Prop} {g : AR3} {o : Expr} {to : TE} {wo : AE}
theorem j_bm (slot : Slot "list" name bid) (hty : typeOf (.builtin bid) = pure (.type "method_descriptor")) (hm : MtR X bid r) (hs : SndM X.K "list" r g) (ho : JE X o to wo) (ha : JA X (e :: es) tr wr)
    (hbase : attributeBase o name X.env (eval o X.env) = eval o X.env := by rfl)
    (hfew : ((backTo cpos (starEach (e :: es) X.env)).all (fun x => !x.1) && (backToKw cpos (keywordEach [] X.env)).all (fun x => x.1.isSome)
      && decide ((e :: es).length + ([] : List Keyword).length + (if ([] : List Keyword).isEmpty then 0 else 1) < 30)) = true := by rfl)
    (hline : (apos.endLine == cpos.line) = true := by rfl) (hse : starEach (e :: es) X.env = (false, eval e X.env) :: starEach es X.env := by rfl) (hplain : (backTo cpos (starEach es X.env)).any (·.1) = false := by rfl) :
    JE X (.Call (.Attribute o name apos) (e :: es) [] cpos) (tBM X.K "list" r to tr) (aBM g wo wr) := ⟨pe_bm PySem.F.plainAttrs_list slot hty hm ho.pe ha.pa hbase hfew hline hse hplain, by
  intro F H σ ρ μ as k Q M E q hQ
  refine ho.snd M E q fun F1 H1 μ1 as1 y u L1 M1 r1 h1 => ⟨isLst_ok M1 r1 h1.1, ?_⟩
  refine ha.snd M1 (E.later L1) h1.2 fun F2 H2 μ2 as2 xs vs L2 M2 r2 h2 => ?_
  exact hs M2 (r1.later L2) r2 h2 fun F3 H3 μ3 as3 s v L3 M3 r3 h3 => hQ _ _ _ _ _ _ ((L1.trans L2).trans L3) M3 r3 h3⟩
theorem j_bm0 (slot : Slot "list" name bid) (hty : typeOf (.builtin bid) = pure (.type "method_descriptor")) (hm : MtR X bid r) (hs : SndM X.K "list" r g) (ho : JE X o to wo)
    (hbase : attributeBase o name X.env (eval o X.env) = eval o X.env := by rfl) (hline : (apos.endLine == cpos.line) = true := by rfl) : JE X (.Call (.Attribute o name apos) [] [] cpos) (tBM0 X.K "list" r to) (aBM0 g wo) :=
  ⟨pe_bm0 PySem.F.plainAttrs_list slot hty hm ho.pe hbase hline, by
  intro F H σ ρ μ as k Q M E q hQ
  refine ho.snd M E q fun F1 H1 μ1 as1 y u L1 M1 r1 h1 => ⟨isLst_ok M1 r1 h1.1, ?_⟩
  exact hs M1 r1 .nil h1.2 fun F3 H3 μ3 as3 s v L3 M3 r3 h3 => hQ _ _ _ _ _ _ (L1.trans L3) M3 r3 h3⟩
/-- a list cell at a slot -/
def cellL (μ : Mu) (y : Sl) (f : Nat → List Sl → Prop) : Prop := match y with
  | .m k => (match μ[k]? with
    | some (.lst l) => f k l
    | _ => False)
  | _ => False
theorem cellL_elim {K : Fg} {F H : Hp} {μ : Mu} {as : List Addr} {y : Sl} {u : V} {f : Nat → List Sl → Prop} (M : Mem K F H μ as) (r : RepS K F as y u) (h : cellL μ y f) :
    ∃ k l a vs, y = .m k ∧ as[k]? = some a ∧ u = .ref a ∧ F a = none ∧ H a = some (.lst vs) ∧ RepSs K F as l vs ∧ f k l := by
  cases y with
  | d x => exact (show False from h).elim
  | m k =>
    have h' : (match μ[k]? with | some (.lst l) => f k l | _ => False) := h
    obtain ⟨a, ha, rfl⟩ := r
    cases q : μ[k]? with
    | none => rw [q] at h'; exact h'.elim
    | some c =>
      rw [q] at h'
      cases c with
      | lst l =>
        obtain ⟨h1, vs, h2, h3⟩ := M.at_ k _ a q ha
        exact ⟨k, l, a, vs, rfl, ha, rfl, h1, h2, h3, h'⟩
      | _ => exact (show False from h').elim
def gAppend : AR3 := fun μ y xs k => match xs with
  | [x] => cellL μ y fun j l => l.length < sizeLine ∧ k (.d .non) (μ.set j (.lst (l ++ [x])))
  | _ => False
theorem paired_app {α β : Type} {R : α → β → Prop} : ∀ {xs : List α} {ys : List β} {xs' : List α} {ys' : List β}, Paired R xs ys → Paired R xs' ys' → Paired R (xs ++ xs') (ys ++ ys')
  | _, _, _, _, .nil, h => h
  | _, _, _, _, .cons h t, h' => .cons h (paired_app t h')
theorem snd_append {K : Fg} : SndM K "list" rAppend gAppend := by
  intro F H μ as y u xs vs k Q M r rs h hQ
  unfold gAppend at h
  split at h
  · obtain ⟨j, l, a, us, rfl, ha, rfl, fa, h2, h3, h4, h5⟩ := cellL_elim M r h
    cases rs with
    | cons r1 r2 =>
      cases r2
      obtain ⟨M', L⟩ := M.put (c := .lst _) ha fa ⟨fa, _, upd_same, paired_app h3 (.cons r1 .nil)⟩
      exact ⟨a, us, _, rfl, rfl, h2, by rw [← paired_len h3]; exact h4, hQ _ _ _ _ (.d .non) _ L M' reps_non h5⟩
  · exact h.elim
/-- append at the end -/
theorem j_append (ho : JE X o to wo) (ha : JA X [e] tr wr) (hbase : attributeBase o "append" X.env (eval o X.env) = eval o X.env := by rfl)
    (hfew : ((backTo cpos (starEach [e] X.env)).all (fun x => !x.1) && (backToKw cpos (keywordEach [] X.env)).all (fun x => x.1.isSome)
      && decide ([e].length + ([] : List Keyword).length + (if ([] : List Keyword).isEmpty then 0 else 1) < 30)) = true := by rfl)
    (hline : (apos.endLine == cpos.line) = true := by rfl) (hse : starEach [e] X.env = (false, eval e X.env) :: starEach [] X.env := by rfl) (hplain : (backTo cpos (starEach [] X.env)).any (·.1) = false := by rfl) :
    JE X (.Call (.Attribute o "append" apos) [e] [] cpos) (tBM X.K "list" rAppend to tr) (aBM gAppend wo wr) := j_bm PySem.F.slot_list_append PySem.F.type_list_append mt_append snd_append ho ha hbase hfew hline hse hplain
def gExtend : AR3 := fun μ y xs k => match xs with
  | [.d (.lst ds)] => cellL μ y fun j l => l.length + ds.length ≤ sizeLine ∧ k (.d .non) (μ.set j (.lst (l ++ ds.map .d)))
  | _ => False
theorem snd_pop_aux {α β : Type} {R : α → β → Prop} {xs : List α} {ys : List β} (h : Paired R xs ys) : Paired R xs.dropLast ys.dropLast := by
  induction h with
  | nil => exact .nil
  | cons h t ih => cases t with
    | nil => exact .nil
    | cons h' t' => exact .cons h ih
def gPop : AR3 := fun μ y xs k => match xs with
  | [] => cellL μ y fun j l => (match l.getLast? with
    | some s => k s (μ.set j (.lst l.dropLast))
    | none => False)
  | [.d (.int i)] => cellL μ y fun j l => 0 ≤ i ∧ i < 2 ^ 63 ∧ (match l[i.toNat]? with
    | some s => k s (μ.set j (.lst (l.eraseIdx i.toNat)))
    | none => False)
  | _ => False
theorem paired_erase {α β : Type} {R : α → β → Prop} : ∀ {xs : List α} {ys : List β} (i : Nat), Paired R xs ys → Paired R (xs.eraseIdx i) (ys.eraseIdx i)
  | _, _, _, .nil => .nil
  | _, _, 0, .cons _ t => t
  | _, _, i + 1, .cons h t => .cons h (paired_erase i t)
def rPopU : V → List V → Hp → VK → Prop := fun x vs H Q => rPop x vs H Q ∨ rPopAt x vs H Q
theorem snd_pop {K : Fg} : SndM K "list" rPopU gPop := by
  intro F H μ as y u xs vs k Q M r rs h hQ
  unfold gPop at h
  split at h
  · cases rs
    obtain ⟨j, l, a, us, rfl, ha, rfl, fa, h2, h3, h4⟩ := cellL_elim M r h
    split at h4
    · rename_i s q
      have q' : l[l.length - 1]? = some s := by rw [← List.getLast?_eq_getElem?]; exact q
      obtain ⟨v, g1, g2⟩ := paired_get h3 q'
      obtain ⟨M', L⟩ := M.put (c := .lst _) ha fa ⟨fa, _, upd_same, snd_pop_aux h3⟩
      exact .inl ⟨a, us, v, rfl, rfl, h2, by rw [← paired_len h3]; exact g1, hQ _ _ _ _ s _ L M' (g2.later L) h4⟩
    · exact h4.elim
  · rename_i i
    cases rs with
    | cons r1 r2 =>
      cases r2
      obtain ⟨j, l, a, us, rfl, ha, rfl, fa, h2, h3, h0, hi, h4⟩ := cellL_elim M r h
      split at h4
      · rename_i s q
        obtain ⟨v, g1, g2⟩ := paired_get h3 q
        obtain ⟨M', L⟩ := M.put (c := .lst _) ha fa ⟨fa, _, upd_same, paired_erase i.toNat h3⟩
        have hl := (List.getElem?_eq_some_iff.mp g1).1
        have ei : seqIndex? i us.length = some i.toNat := by
          unfold seqIndex?
          simp
          omega
        have e' : (_ : V) = .int i := r1
        refine .inr ⟨a, us, i, i.toNat, v, rfl, by rw [e'], h2, by omega, hi, ei, g1, hQ _ _ _ _ s _ L M' (g2.later L) h4⟩
      · exact h4.elim
  · exact h.elim
end
end Ww
/-! W7: statements, loops, comprehensions, a def's promise. -/
namespace Ww
open PySem L2
structure AEnds where
  nx : Rho → Mu → Prop
  rt : Sl → Mu → Prop
  bk : Rho → Mu → Prop := fun _ _ => False
  ct : Rho → Mu → Prop := fun _ _ => False
abbrev AS := AEnds → Rho → Mu → Prop
structure EndsOk (K : Fg) (F H : Hp) (as : List Addr) (A : AEnds) (D : Ends) : Prop where
  nx : ∀ F' H' σ' ρ' μ' as', Later F H as F' H' as' → Mem K F' H' μ' as' → EnvR K F' as' σ' ρ' → A.nx ρ' μ' → D.nx σ' H'
  rt : ∀ F' H' μ' as' s v, Later F H as F' H' as' → Mem K F' H' μ' as' → RepS K F' as' s v → A.rt s μ' → D.rt v H'
  bk : ∀ F' H' σ' ρ' μ' as', Later F H as F' H' as' → Mem K F' H' μ' as' → EnvR K F' as' σ' ρ' → A.bk ρ' μ' → D.bk σ' H'
  ct : ∀ F' H' σ' ρ' μ' as', Later F H as F' H' as' → Mem K F' H' μ' as' → EnvR K F' as' σ' ρ' → A.ct ρ' μ' → D.ct σ' H'
theorem EndsOk.later {K : Fg} {F H F1 H1 : Hp} {as as1 : List Addr} {A : AEnds} {D : Ends} (L : Later F H as F1 H1 as1) (h : EndsOk K F H as A D) : EndsOk K F1 H1 as1 A D :=
  ⟨fun _ _ _ _ _ _ L' => h.nx _ _ _ _ _ _ (L.trans L'), fun _ _ _ _ _ _ L' => h.rt _ _ _ _ _ _ (L.trans L'), fun _ _ _ _ _ _ L' => h.bk _ _ _ _ _ _ (L.trans L'), fun _ _ _ _ _ _ L' => h.ct _ _ _ _ _ _ (L.trans L')⟩
def SndS (K : Fg) (t : TS) (w : AS) : Prop := ∀ {F H : Hp} {σ : L2.St} {ρ : Rho} {μ : Mu} {as : List Addr} {A : AEnds} {D : Ends},
  Mem K F H μ as → EnvR K F as σ ρ → w A ρ μ → EndsOk K F H as A D → t D σ H
structure JS (X : Cx) (st : Stmt) (t : TS) (w : AS) : Prop where
  ps : PS X st t
  snd : SndS X.K t w
structure JSs (X : Cx) (st : List Stmt) (t : TS) (w : AS) : Prop where
  pss : PSs X st t
  snd : SndS X.K t w
section
variable {X : Cx} {e e1 e2 e3 : Expr} {t ta tb tc : TE} {w wa wb wc : AE} {pos : Pos} {es : List Expr} {tr : TA} {wr : AA} {p : Pos} {x : Str} {st : Stmt} {rest sts sts2 : List Stmt} {ts us : TS} {a b : AS} {tt : TT} {u : AT}
def aSeq (a b : AS) : AS := fun A ρ μ => a { A with nx := b A } ρ μ
theorem snd_seq {K : Fg} (h1 : SndS K ts a) (h2 : SndS K us b) : SndS K (tSeq ts us) (aSeq a b) := by
  intro F H σ ρ μ as A D M E h k
  refine h1 (D := { D with nx := us D }) M E h ⟨fun F' H' σ' ρ' μ' as' L M' E' q => ?_, k.rt, k.bk, k.ct⟩
  exact h2 M' E' q (k.later L)
theorem jss_cons (h1 : JS X st ts a) (h2 : JSs X rest us b) : JSs X (st :: rest) (tSeq ts us) (aSeq a b) := ⟨pss_cons h1.ps h2.pss, snd_seq h1.snd h2.snd⟩
theorem jss_one (h : JS X st ts a) : JSs X [st] ts a := ⟨pss_one h.ps, h.snd⟩
def aNext : AS := fun A ρ μ => A.nx ρ μ
theorem jss_nil : JSs X [] tNext aNext := ⟨pss_nil, fun M E h k => k.nx _ _ _ _ _ _ .refl M E h⟩
theorem js_pass : JS X (.Pass pos) tNext aNext := ⟨ps_pass, fun M E h k => k.nx _ _ _ _ _ _ .refl M E h⟩
def aNever : AS := fun _ _ _ => False
/-- a statement that is never come to -/
theorem js_never : JS X st tNever aNever := ⟨ps_never, fun _ _ h _ => h.elim⟩
theorem jss_never : JSs X sts tNever aNever := ⟨pss_never, fun _ _ h _ => h.elim⟩
def aBrk : AS := fun A ρ μ => A.bk ρ μ
def aCnt : AS := fun A ρ μ => A.ct ρ μ
theorem js_break : JS X (.Break pos) tBreak aBrk := ⟨ps_break, fun M E h k => k.bk _ _ _ _ _ _ .refl M E h⟩
theorem js_continue : JS X (.Continue pos) tCont aCnt := ⟨ps_continue, fun M E h k => k.ct _ _ _ _ _ _ .refl M E h⟩
/-! ### return, expressions, if -/
def aRet (w : AE) : AS := fun A ρ μ => aFz w ρ μ A.rt
theorem js_ret (h : JE X e t w) : JS X (.Return (some e) pos) (tRet t) (aRet w) := ⟨ps_ret h.pe, fun {F H σ ρ μ as A D} M E q k => snd_fz h.snd M E q fun F' H' μ' as' s v L M' r z => k.rt F' H' μ' as' s v L M' r z⟩
/-- what is handed back stays a cell -/
def aRetC (w : AE) : AS := fun A ρ μ => w ρ μ A.rt
theorem js_retC (h : JE X e t w) : JS X (.Return (some e) pos) (tRet t) (aRetC w) := ⟨ps_ret h.pe, fun {F H σ ρ μ as A D} M E q k => h.snd M E q fun F' H' μ' as' s v L M' r z => k.rt F' H' μ' as' s v L M' r z⟩
def aRetN : AS := fun A _ μ => A.rt (.d .non) μ
theorem js_retN : JS X (.Return none pos) tRetN aRetN := ⟨ps_retN, fun M E q k => k.rt _ _ _ _ (.d .non) .non .refl M reps_non q⟩
def aDrop (w : AE) : AS := fun A ρ μ => w ρ μ fun _ μ1 => A.nx ρ μ1
theorem js_expr (h : JE X e t w) (hs : swapsWith e none pos.line X.env = pure false := by rfl) : JS X (.Expr e pos) (tDrop t) (aDrop w) :=
  ⟨ps_expr h.pe hs, fun {F H σ ρ μ as A D} M E q k => h.snd M E q fun F' H' μ' as' s v L M' r z => k.nx F' H' σ ρ μ' as' L M' (E.later L) z⟩
def aIfS (c : AT) (a b : AS) : AS := fun A ρ μ => c ρ μ fun v μ1 => if v = true then a A ρ μ1 else b A ρ μ1
theorem js_if (hc : JT X e tt u) (h1 : JSs X sts ts a) (h2 : JSs X sts2 us b) : JS X (.If e sts sts2 pos) (tIfS tt ts us) (aIfS u a b) := ⟨ps_if hc.pt h1.pss h2.pss, by
  intro F H σ ρ μ as A D M E q k
  refine hc.snd M E q fun F1 H1 μ1 as1 v L1 M1 z => ?_
  cases v with
  | true => exact iteT (h1.snd M1 (E.later L1) z (k.later L1))
  | false => exact iteF (h2.snd M1 (E.later L1) z (k.later L1))⟩
/-! ### targets -/
abbrev AG := Sl → Rho → Mu → (Rho → Mu → Prop) → Prop
abbrev AGs := List Sl → Rho → Mu → (Rho → Mu → Prop) → Prop
def SndG (K : Fg) (g : TG) (w : AG) : Prop := ∀ {F H : Hp} {σ : L2.St} {ρ : Rho} {μ : Mu} {as : List Addr} {s : Sl} {v : V} {k : Rho → Mu → Prop} {Q : L2.St → Hp → Prop},
  Mem K F H μ as → EnvR K F as σ ρ → RepS K F as s v → w s ρ μ k → (∀ F' H' σ' ρ' μ' as', Later F H as F' H' as' → Mem K F' H' μ' as' → EnvR K F' as' σ' ρ' → k ρ' μ' → Q σ' H') → g v σ H Q
def SndGs (K : Fg) (g : TGs) (w : AGs) : Prop := ∀ {F H : Hp} {σ : L2.St} {ρ : Rho} {μ : Mu} {as : List Addr} {s : List Sl} {v : List V} {k : Rho → Mu → Prop} {Q : L2.St → Hp → Prop},
  Mem K F H μ as → EnvR K F as σ ρ → RepSs K F as s v → w s ρ μ k → (∀ F' H' σ' ρ' μ' as', Later F H as F' H' as' → Mem K F' H' μ' as' → EnvR K F' as' σ' ρ' → k ρ' μ' → Q σ' H') → g v σ H Q
structure JG (X : Cx) (e : Expr) (g : TG) (w : AG) : Prop where
  pg : PG X e g
  snd : SndG X.K g w
structure JGs (X : Cx) (es : List Expr) (g : TGs) (w : AGs) : Prop where
  pgs : PGs X es g
  snd : SndGs X.K g w
def aGn (i : Nat) : AG := fun s ρ μ k => k (ρ.set i (some s)) μ
theorem snd_gn {K : Fg} {i : Nat} : SndG K (gName i) (aGn i) := fun M E r h hQ => hQ _ _ _ _ _ _ .refl M (E.set i r) h
theorem jg_name (i : Nat) (hN : X.N.Nodup) (hi : X.N[i]? = some x := by rfl) (hx : Loc X.env.scope x := by first | exact Or.inl rfl | exact Or.inr rfl) (hf : X.fn x = true ∨ X.env.scope.names.lookup x = some .local := by first | exact .inl rfl | exact .inr rfl | assumption) : JG X (.Name x pos) (gName i) (aGn i) :=
  ⟨pg_name hN hi hx hf, snd_gn⟩
def aGnil : AGs := fun ss ρ μ k => ss = [] ∧ k ρ μ
def aGcons (g : AG) (r : AGs) : AGs := fun ss ρ μ k => match ss with
  | s :: ss => g s ρ μ fun ρ1 μ1 => r ss ρ1 μ1 k
  | [] => False
variable {gt : TG} {gts : TGs} {ga : AG} {gas : AGs}
theorem jgs_nil : JGs X [] gNil aGnil := ⟨pgs_nil, by
  intro F H σ ρ μ as s v k Q M E r h hQ
  obtain ⟨rfl, h⟩ := h
  cases r
  exact ⟨rfl, hQ _ _ _ _ _ _ .refl M E h⟩⟩
theorem jgs_cons (h1 : JG X e gt ga) (h2 : JGs X es gts gas) (hs : (assignEach (e :: es) X.env).map (·.2) = assign e X.env :: (assignEach es X.env).map (·.2) := by rfl) : JGs X (e :: es) (gCons gt gts) (aGcons ga gas) := ⟨pgs_cons h1.pg h2.pgs hs, by
  intro F H σ ρ μ as s v k Q M E r h hQ
  cases r with
  | nil => exact (show False from h).elim
  | cons r1 r2 =>
    refine ⟨_, _, rfl, h1.snd M E r1 h fun F1 H1 σ1 ρ1 μ1 as1 L1 M1 E1 q => ?_⟩
    exact h2.snd M1 E1 (RepSs.later L1 r2) q fun F2 H2 σ2 ρ2 μ2 as2 L2 M2 E2 z => hQ _ _ _ _ _ _ (L1.trans L2) M2 E2 z⟩
/-- a tuple is taken apart -/
def aGtup (n : Nat) (g : AGs) : AG := fun s ρ μ k => match rdD μ s with
  | some (.tup l) => l.length = n ∧ g (l.map .d) ρ μ k
  | _ => False
theorem snd_gtup {K : Fg} {n : Nat} (h : SndGs K gts gas) : SndG K (gTup K n gts) (aGtup n gas) := by
  intro F H σ ρ μ as s v k Q M E r q hQ
  unfold aGtup at q
  split at q
  · rename_i l q1
    obtain ⟨a, vs, rfl, g1, g2⟩ := rd_ok M r q1
    exact ⟨a, vs, rfl, M.sub.sqT g1, by rw [g2.len]; exact q.1, h M E (ds_reps g2) q.2 hQ⟩
  · exact q.elim
theorem jg_tup {k n : Nat} (hc : X.calm = true) (h : JGs X es gts gas) (hn : (assignEach es X.env).length = n := by rfl) (hst : (assignEach es X.env).findIdx? (·.1) = none := by rfl) : JG X (.Tuple es k pos) (gTup X.K n gts) (aGtup n gas) := ⟨pg_tup hc h.pgs hn hst, snd_gtup h.snd⟩
/-! ### x = e -/
def aAsg (w : AE) (g : AG) : AS := fun A ρ μ => w ρ μ fun s μ1 => g s ρ μ1 A.nx
theorem snd_asg {K : Fg} (h : SndE K t w) (hg : SndG K gt ga) : SndS K (tAsg t gt) (aAsg w ga) := by
  intro F H σ ρ μ as A D M E q k
  refine h M E q fun F1 H1 μ1 as1 s v L1 M1 r1 z => ?_
  exact hg M1 (E.later L1) r1 z fun F2 H2 σ2 ρ2 μ2 as2 L2 M2 E2 z2 => k.nx _ _ _ _ _ _ (L1.trans L2) M2 E2 z2
theorem js_asg {tg : Expr} (he : JE X e t w) (hg : JG X tg gt ga) (hs : swapsWithSole [tg] e pos.line X.env = pure false := by rfl) (hw : swappedStores [tg] e X.env = pure none := by rfl) (h1 : (assignEach [tg] X.env).map (·.2) = [assign tg X.env] := by rfl) : JS X (.Assign [tg] e pos) (tAsg t gt) (aAsg w ga) :=
  ⟨ps_asg he.pe hg.pg hs hw h1, snd_asg he.snd hg.snd⟩
theorem js_set (i : Nat) {pos' : Pos} (hN : X.N.Nodup) (he : JE X e t w) (hi : X.N[i]? = some x := by rfl) (hx : Loc X.env.scope x := by first | exact Or.inl rfl | exact Or.inr rfl) (hs : swapsWith e (some (.Name x pos')) pos.line X.env = pure false := by rfl)
    (hf : X.fn x = true ∨ X.env.scope.names.lookup x = some .local := by first | exact .inl rfl | exact .inr rfl | assumption) : JS X (.Assign [.Name x pos'] e pos) (tAsg t (gName i)) (aAsg w (aGn i)) :=
  ⟨ps_set hN hi hx he.pe hs hf, snd_asg he.snd snd_gn⟩
/-- a, b = e1, e2, local names -/
def aPar (i j : Nat) (w : AA) : AS := fun A ρ μ => w ρ μ fun ss μ1 => match ss with
  | [s, s'] => A.nx ((ρ.set i (some s)).set j (some s')) μ1
  | _ => False
theorem js_par (i j : Nat) {y z : Str} {px py pt : Pos} {kt k2 pt2} (hc : X.calm = true) (hN : X.N.Nodup) (ha : JA X [e1, e2] tr wr) (hi : X.N[i]? = some y := by rfl) (hj : X.N[j]? = some z := by rfl) (hij : i ≠ j := by decide)
    (hx : X.env.scope.names.lookup y = some .local := by rfl) (hy : X.env.scope.names.lookup z = some .local := by rfl) (hw : swappedStores [.Tuple [.Name y px, .Name z py] kt pt] (.Tuple [e1, e2] k2 pt2) X.env = pure (some [y, z]) := by rfl)
    (hs : swapsWithSole [.Tuple [.Name y px, .Name z py] kt pt] (.Tuple [e1, e2] k2 pt2) pos.line X.env = pure false := by rfl) :
    JS X (.Assign [.Tuple [.Name y px, .Name z py] kt pt] (.Tuple [e1, e2] k2 pt2) pos) (tPar i j tr) (aPar i j wr) := ⟨ps_par hc hN hi hj hij hx hy ha.pa hw hs, by
  intro F H σ ρ μ as A D M E q k
  refine ha.snd M E q fun F1 H1 μ1 as1 ss vs L1 M1 r1 q1 => ?_
  split at q1
  · cases r1 with
    | cons r1 r2 => cases r2 with
      | cons r2 r3 =>
        cases r3
        exact ⟨_, _, rfl, k.nx _ _ _ _ _ _ L1 M1 (((E.later L1).set i r1).set j r2) q1⟩
  · exact q1.elim⟩
/-! ### while -/
def aWhile (c : AT) (b : AS) : AS := fun A ρ μ => ∃ I : Nat → Rho → Mu → Prop, (∃ m, I m ρ μ) ∧ ∀ m ρ' μ', I m ρ' μ' →
  c ρ' μ' fun v μ1 => if v = true then b { A with nx := fun ρ2 μ2 => ∃ m', m' < m ∧ I m' ρ2 μ2, ct := fun ρ2 μ2 => ∃ m', m' < m ∧ I m' ρ2 μ2, bk := A.nx } ρ' μ1 else A.nx ρ' μ1
theorem js_while (hp : PassesOwn (model X.prog X.w) X.A X.env X.xe) (hc : JT X e tt u) (hb : JSs X sts ts a) : JS X (.While e sts [] pos) (tWhile tt ts) (aWhile u a) := ⟨ps_while hp hc.pt hb.pss, by
  intro F H σ ρ μ as A D M E q k
  obtain ⟨I, ⟨m, i0⟩, hI⟩ := q
  refine ⟨fun m σ' H' => ∃ F' ρ' μ' as', Later F H as F' H' as' ∧ Mem X.K F' H' μ' as' ∧ EnvR X.K F' as' σ' ρ' ∧ I m ρ' μ', ⟨m, F, ρ, μ, as, .refl, M, E, i0⟩, ?_⟩
  rintro m σ' H' ⟨F', ρ', μ', as', L, M', E', i⟩
  refine hc.snd M' E' (hI m ρ' μ' i) fun F1 H1 μ1 as1 v L1 M1 z => ?_
  cases v with
  | false => exact iteF (k.nx _ _ _ _ _ _ (L.trans L1) M1 (E'.later L1) z)
  | true =>
    refine iteT ⟨fun σ2 H2 => ∃ F2 ρ2 μ2 as2, Later F H as F2 H2 as2 ∧ Mem X.K F2 H2 μ2 as2 ∧ EnvR X.K F2 as2 σ2 ρ2 ∧ ∃ m', m' < m ∧ I m' ρ2 μ2, ?_, ?_⟩
    · rintro σ2 H2 ⟨F2, ρ2, μ2, as2, L2, M2, E2, m', h1, h2⟩
      exact ⟨m', h1, F2, ρ2, μ2, as2, L2, M2, E2, h2⟩
    · have LL := L.trans L1
      refine hb.snd M1 (E'.later L1) z ⟨fun F2 H2 σ2 ρ2 μ2 as2 L2 M2 E2 z2 => ⟨F2, ρ2, μ2, as2, LL.trans L2, M2, E2, z2⟩, (k.later LL).rt, fun F2 H2 σ2 ρ2 μ2 as2 L2 M2 E2 z2 => k.nx _ _ _ _ _ _ (LL.trans L2) M2 E2 z2, fun F2 H2 σ2 ρ2 μ2 as2 L2 M2 E2 z2 => ⟨F2, ρ2, μ2, as2, LL.trans L2, M2, E2, z2⟩⟩⟩
/-! ### what is walked -/
/-- J gives ds, one by one, while what is known from F0 on stands -/
def WalkD (K : Fg) (F0 : Hp) (J : It) (ds : List D) : Prop := ∃ (G : Hp → Prop) (Y : Nat → Hp → V → Hp → Prop), L2.Walk J ds.length G Y ∧ (∀ H, Sub F0 H → G H) ∧
  ∀ i H x H' d, Sub F0 H → ds[i]? = some d → Y i H x H' → (H' = H ∧ Rep K F0 d x) ∨ ∃ T o, H T = none ∧ H' = upd H T o ∧ ∀ F, Sub F0 F → F T = some o → Rep K F d x
theorem WalkD.later {K : Fg} {F0 F1 : Hp} {J : It} {ds : List D} (h : WalkD K F0 J ds) (e : Sub F0 F1) : WalkD K F1 J ds := by
  obtain ⟨G, Y, h1, h2, h3⟩ := h
  refine ⟨G, Y, h1, fun H q => h2 H (e.trans q), fun i H x H' d q hd y => ?_⟩
  rcases h3 i H x H' d (e.trans q) hd y with ⟨a, b⟩ | ⟨T, o, a, b, c⟩
  · exact .inl ⟨a, Rep.mono e d x b⟩
  · exact .inr ⟨T, o, a, b, fun F s f => c F (e.trans s) f⟩
abbrev AIt := Rho → Mu → (List D → Mu → Prop) → Prop
def SndI (K : Fg) (wi : TI) (w : AIt) : Prop := ∀ {F H : Hp} {σ : L2.St} {ρ : Rho} {μ : Mu} {as : List Addr} {k : List D → Mu → Prop} {R : It → Hp → Prop},
  Mem K F H μ as → EnvR K F as σ ρ → w ρ μ k → (∀ F' H' μ' as' J ds, Later F H as F' H' as' → Mem K F' H' μ' as' → WalkD K F' J ds → k ds μ' → R J H') → wi σ H R
structure JI (X : Cx) (tg e : Expr) (wi : TI) (w : AIt) : Prop where
  pi : PI X tg e wi
  snd : SndI X.K wi w
/-- one step: the item's slot -/
theorem WalkD.step {K : Fg} {F0 F H H' : Hp} {ds : List D} {as : List Addr} {μ : Mu} {Y : Nat → Hp → V → Hp → Prop} {i : Nat} {x : V} {d : D} (e : Sub F0 F) (M : Mem K F H μ as) (hd : ds[i]? = some d)
    (h3 : ∀ i H x H' d, Sub F0 H → ds[i]? = some d → Y i H x H' → (H' = H ∧ Rep K F0 d x) ∨ ∃ T o, H T = none ∧ H' = upd H T o ∧ ∀ F, Sub F0 F → F T = some o → Rep K F d x) (y : Y i H x H') :
    ∃ F', Later F H as F' H' as ∧ Mem K F' H' μ as ∧ Rep K F' d x := by
  rcases h3 i H x H' d (e.trans M.sub) hd y with ⟨rfl, r⟩ | ⟨T, o, hT, rfl, r⟩
  · exact ⟨F, .refl, M, Rep.mono e d x r⟩
  · obtain ⟨M', L⟩ := M.new (o := o) hT
    exact ⟨_, L, M', r _ (e.trans L.sub) upd_same⟩
/-! ### for -/
def aFor (wi : AIt) (g : AG) (b : AS) : AS := fun A ρ μ => wi ρ μ fun ds μ1 => ∃ I : Nat → Rho → Mu → Prop, I 0 ρ μ1 ∧
  (∀ i d ρ' μ', ds[i]? = some d → I i ρ' μ' → g (.d d) ρ' μ' fun ρ2 μ2 => b { A with nx := I (i + 1), ct := I (i + 1), bk := A.nx } ρ2 μ2) ∧ ∀ ρ' μ', I ds.length ρ' μ' → A.nx ρ' μ'
theorem snd_for {K : Fg} {wi : TI} {w : AIt} (hi : SndI K wi w) (hg : SndG K gt ga) (hb : SndS K ts a) : SndS K (tFor wi gt ts) (aFor w ga a) := by
  intro F H σ ρ μ as A D M E q k
  refine hi M E q fun F1 H1 μ1 as1 J ds L1 M1 W z => ?_
  obtain ⟨I, i0, hs, hd⟩ := z
  obtain ⟨G, Y, h1, h2, h3⟩ := W
  refine L2.for_it h1 (fun i σ' H' => ∃ F' ρ' μ' as', Later F1 H1 as1 F' H' as' ∧ Mem K F' H' μ' as' ∧ EnvR K F' as' σ' ρ' ∧ I i ρ' μ') ⟨F1, ρ, μ1, as1, .refl, M1, E.later L1, i0⟩ ?_ ?_ ?_
  · rintro i σ' H' _ ⟨F', ρ', μ', as', L', M', _⟩
    exact h2 H' (L'.sub.trans M'.sub)
  · rintro i x σ' H' H'' hlt ⟨F', ρ', μ', as', L', M', E', i'⟩ y
    obtain ⟨d, ed⟩ : ∃ d, ds[i]? = some d := ⟨ds[i], by simp [hlt]⟩
    obtain ⟨F2, L2', M2, r2⟩ := WalkD.step L'.sub M' ed h3 y
    refine hg M2 (E'.later L2') (s := .d d) r2 (hs i d ρ' μ' ed i') fun F3 H3 σ3 ρ3 μ3 as3 L3 M3 E3 z3 => ?_
    have LL := (L'.trans L2').trans L3
    refine hb M3 E3 z3 ⟨fun F4 H4 σ4 ρ4 μ4 as4 L4 M4 E4 z4 => ⟨F4, ρ4, μ4, as4, LL.trans L4, M4, E4, z4⟩, (k.later (L1.trans LL)).rt, fun F4 H4 σ4 ρ4 μ4 as4 L4 M4 E4 z4 => k.nx _ _ _ _ _ _ ((L1.trans LL).trans L4) M4 E4 z4, fun F4 H4 σ4 ρ4 μ4 as4 L4 M4 E4 z4 => ⟨F4, ρ4, μ4, as4, LL.trans L4, M4, E4, z4⟩⟩
  · rintro σ' H' ⟨F', ρ', μ', as', L', M', E', i'⟩
    exact k.nx _ _ _ _ _ _ (L1.trans L') M' E' (hd ρ' μ' i')
theorem js_for {tg : Expr} {wi : TI} {w : AIt} (hp : PassesOwn (model X.prog X.w) X.A X.env X.xe) (hc : X.calm = true) (hi : JI X tg e wi w) (hg : JG X tg gt ga) (hb : JSs X sts ts a) (hs : ∀ x, foldedSetIterable e X.env x = pure x := by intro _; rfl) : JS X (.For tg e sts [] pos) (tFor wi gt ts) (aFor w ga a) :=
  ⟨ps_for hp hc hi.pi hg.pg hb.pss hs, snd_for hi.snd hg.snd hb.snd⟩
end
end Ww
/-! W8: what is walked, comprehensions, a def's promise. -/
namespace Ww
open PySem L2
section
variable {X : Cx} {e e1 e2 e3 tg : Expr} {t ta tb tc : TE} {w wa wb wc : AE} {pos : Pos} {es : List Expr} {tr : TA} {wr : AA} {p : Pos} {x : Str} {tt : TT} {u : AT} {gt : TG} {ga : AG}
/-! ### lists and tuples -/
def iSeq (K : Fg) (tl : TE) : TI := fun σ H R => tl σ H fun x H1 => ∃ a, x = .ref a ∧ ((∃ xs, SqL K H1 a xs ∧ R (Itl K a) H1) ∨ ∃ xs, SqT K H1 a xs ∧ R (Itt K a) H1)
theorem pi_seq (hl : PE X e t) : PI X tg e (iSeq X.K t) := by
  refine ⟨fun pins s σ H R I h => ?_⟩
  refine thn (hl.run pins s σ H _ I h) fun v s1 ⟨y, H1, I1, r1, q1⟩ => ?_
  obtain ⟨a, ey, q⟩ := q1
  subst ey
  cases r1
  have hf : ∀ b ∈ [s1.heap.objs.size], FpOk X pins H1 b := fun b hb => by
    rw [List.mem_singleton.mp hb]
    exact I1.fpOk (Nat.le_refl _) (I1.hok.fresh (Nat.le_refl _))
  rcases q with ⟨xs, hq, q⟩ | ⟨xs, hq, q⟩
  · obtain ⟨its, rv, pl, hz⟩ := I1.list hq
    exact wpAny_pyIter_list pl.isList ⟨s1.heap.objs.size, [s1.heap.objs.size], _, _, H1, rfl, I1.kept (t' := s1.toks) fun b o z => Heap.get?_push_of_some _ z, turn_list a _, ⟨_, Heap.get?_push_size _ rfl, rfl, rfl⟩, hf, q⟩
  · obtain ⟨its, rv, pl, hz⟩ := I1.tuple hq
    exact wpAny_pyIter_tuple (show s1.heap.IsTuple a its.toArray from pl) ⟨s1.heap.objs.size, [s1.heap.objs.size], _, _, H1, rfl, I1.kept (t' := s1.toks) fun b o z => Heap.get?_push_of_some _ z, turn_tuple a _, ⟨_, Heap.get?_push_size _ rfl, rfl, rfl⟩, hf, q⟩
def itemsD : D → Option (List D)
  | .lst l => some l
  | .tup l => some l
  | .tpl l => some l
  | _ => none
def seqK (k : List D → Mu → Prop) : Sl → Mu → Prop := fun s μ1 => match rdD μ1 s with
  | some d => (match itemsD d with
    | some l => k l μ1
    | none => False)
  | none => False
def aSeqI (w : AE) : AIt := fun ρ μ k => aFz w ρ μ (seqK k)
theorem walkD_list {K : Fg} {F : Hp} {a : Addr} {vs : List V} {ds : List D} (h : SqL K F a vs) (r : RepL K F ds vs) : WalkD K F (Itl K a) ds := by
  refine ⟨fun H => SqL K H a vs, YAt vs, by rw [← r.len]; exact walk_list, fun H q => q.sqL h, fun i H x H' d _ hd y => .inl ⟨y.1, ?_⟩⟩
  obtain ⟨v, h1, h2⟩ := r.at_ hd
  rw [y.2] at h1
  cases h1
  exact h2
theorem walkD_tup {K : Fg} {F : Hp} {a : Addr} {vs : List V} {ds : List D} (h : SqT K F a vs) (r : RepL K F ds vs) : WalkD K F (Itt K a) ds := by
  refine ⟨fun H => SqT K H a vs, YAt vs, by rw [← r.len]; exact walk_tup, fun H q => q.sqT h, fun i H x H' d _ hd y => .inl ⟨y.1, ?_⟩⟩
  obtain ⟨v, h1, h2⟩ := r.at_ hd
  rw [y.2] at h1
  cases h1
  exact h2
theorem snd_fz1 {K : Fg} {F H : Hp} {μ : Mu} {as : List Addr} {s : Sl} {v : V} {k : Sl → Mu → Prop} (M : Mem K F H μ as) (r : RepS K F as s v)
    (h : match freeze μ s with | some (d, μ2) => k (.d d) μ2 | none => False) : ∃ F' μ' d, Mem K F' H μ' as ∧ Later F H as F' H as ∧ Rep K F' d v ∧ k (.d d) μ' := by
  split at h
  · rename_i d μ2 q2
    obtain ⟨F2, M2, L2, r2⟩ := freeze_ok M r q2
    exact ⟨F2, μ2, d, M2, L2, r2, h⟩
  · exact h.elim
theorem aSeqI_elim {μ : Mu} {d : D} {k : List D → Mu → Prop} (h : match rdD μ (.d d) with | some d => (match itemsD d with | some l => k l μ | none => False) | none => False) : ∃ l, itemsD d = some l ∧ k l μ := by
  rw [rdD_d] at h
  have en : itemsD (nrm d) = itemsD d := by cases d <;> rfl
  simp only [en] at h
  cases q2 : itemsD d with
  | none => simp [q2] at h
  | some l => simp only [q2] at h; exact ⟨l, rfl, h⟩
theorem ji_seq (h : JE X e t w) : JI X tg e (iSeq X.K t) (aSeqI w) := ⟨pi_seq h.pe, by
  intro F H σ ρ μ as k R M E q hQ
  refine h.snd M E q fun F1 H1 μ1 as1 s v L1 M1 r1 q1 => ?_
  obtain ⟨F2, μ2, d, M2, L2, r2, q2⟩ := snd_fz1 (k := seqK k) M1 r1 q1
  obtain ⟨l, e2, q3⟩ := aSeqI_elim q2
  cases d with
  | lst l' =>
    cases e2
    obtain ⟨a, vs, rfl, g1, g2⟩ := r2
    exact ⟨a, rfl, .inl ⟨vs, .inl (M2.sub.rd g1), hQ _ _ _ _ _ _ (L1.trans L2) M2 (walkD_list (.inl g1) g2) q3⟩⟩
  | tup l' =>
    cases e2
    obtain ⟨a, vs, rfl, g1, g2⟩ := r2
    exact ⟨a, rfl, .inr ⟨vs, M2.sub.sqT g1, hQ _ _ _ _ _ _ (L1.trans L2) M2 (walkD_tup g1 g2) q3⟩⟩
  | tpl l' =>
    cases e2
    obtain ⟨a, vs, o, rfl, g1, _, g2⟩ := r2
    exact ⟨a, rfl, .inr ⟨vs, M2.sub.sqT (.inl (.inr ⟨o, g1⟩)), hQ _ _ _ _ _ _ (L1.trans L2) M2 (walkD_tup (.inl (.inr ⟨o, g1⟩)) g2) q3⟩⟩
  | _ => cases e2⟩
/-! ### range, texts, pairs -/
def aRng1 (w : AA) : AIt := fun ρ μ k => w ρ μ fun ss μ1 => match ss with
  | [s] => (match rdD μ1 s with
    | some (.int j) => (-(2 ^ 62) ≤ j ∧ j < 2 ^ 62) ∧ k ((List.range j.toNat).map fun i => .int (i : Nat)) μ1
    | _ => False)
  | _ => False
theorem walkD_range {K : Fg} {F : Hp} {lo : Int} {n : Nat} : WalkD K F (Itr lo n) ((List.range n).map fun i => .int (lo + (i : Nat))) := by
  refine ⟨fun _ => True, YFn fun i => .int (lo + i), by simpa using walk_range, fun _ _ => trivial, fun i H x H' d _ hd y => .inl ⟨y.1, ?_⟩⟩
  rw [y.2]
  obtain ⟨j, h1, rfl⟩ := (by simpa using hd : ∃ j, (List.range n)[i]? = some j ∧ D.int (lo + (j : Nat)) = d)
  obtain ⟨h2, h3⟩ := List.getElem?_eq_some_iff.mp h1
  rw [List.getElem_range] at h3
  rw [h3]
  exact rep_int
theorem ji_range1 (hg : Gl X "range") (hm : X.mg "range" = none) (ha : JA X [e] tr wr) (hs : starEach [e] X.env = [(false, eval e X.env)] := by rfl) : JI X tg (.Call (.Name "range" p) [e] [] pos) (iRng1 tr) (aRng1 wr) := ⟨pi_range1 hg hm ha.pa hs, by
  intro F H σ ρ μ as k R M E q hQ
  refine ha.snd M E q fun F1 H1 μ1 as1 ss vs L1 M1 r1 q1 => ?_
  split at q1
  · rename_i s
    split at q1
    · rename_i j e1
      cases r1 with
      | cons r1 r2 =>
        cases r2
        have e2 : _ = V.int j := rd_ok M1 r1 e1
        subst e2
        have W : WalkD X.K F1 (Itr 0 j.toNat) ((List.range j.toNat).map fun i => .int (i : Nat)) := by
          have z := walkD_range (K := X.K) (F := F1) (lo := 0) (n := j.toNat)
          simpa using z
        exact ⟨j, rfl, q1.1.1, q1.1.2, hQ _ _ _ _ _ _ L1 M1 W q1.2⟩
    · exact q1.elim
  · exact q1.elim⟩
def aRng2 (w : AA) : AIt := fun ρ μ k => w ρ μ fun ss μ1 => match ss with
  | [s, s'] => (match rdD μ1 s, rdD μ1 s' with
    | some (.int i), some (.int j) => (-(2 ^ 62) ≤ i ∧ i < 2 ^ 62 ∧ -(2 ^ 62) ≤ j ∧ j < 2 ^ 62) ∧ k ((List.range (j - i).toNat).map fun n => .int (i + (n : Nat))) μ1
    | _, _ => False)
  | _ => False
theorem ji_range2 (hg : Gl X "range") (hm : X.mg "range" = none) (ha : JA X [e, e1] tr wr) (hs : starEach [e, e1] X.env = [(false, eval e X.env), (false, eval e1 X.env)] := by rfl) (hs2 : starEach [e1] X.env = [(false, eval e1 X.env)] := by rfl) :
    JI X tg (.Call (.Name "range" p) [e, e1] [] pos) (iRng2 tr) (aRng2 wr) := ⟨pi_range2 hg hm ha.pa hs hs2, by
  intro F H σ ρ μ as k R M E q hQ
  refine ha.snd M E q fun F1 H1 μ1 as1 ss vs L1 M1 r1 q1 => ?_
  split at q1
  · rename_i s s'
    split at q1
    · rename_i i j e1 e2
      cases r1 with
      | cons r1 r2 =>
        cases r2 with
        | cons r2 r3 =>
          cases r3
          have h1 : _ = V.int i := rd_ok M1 r1 e1
          have h2 : _ = V.int j := rd_ok M1 r2 e2
          subst h1 h2
          exact ⟨i, j, rfl, q1.1, hQ _ _ _ _ _ _ L1 M1 walkD_range q1.2⟩
    · exact q1.elim
  · exact q1.elim⟩
/-- the signs of a text -/
def signs (x : Str) : List D := x.cps.toList.map fun c => .str ⟨#[c]⟩
def aStrI (w : AE) : AIt := fun ρ μ k => w ρ μ fun s μ1 => match rdD μ1 s with
  | some (.str x) => k (signs x) μ1
  | _ => False
theorem walkD_str {K : Fg} {F : Hp} {x : Str} : WalkD K F (Its x) (signs x) := by
  refine ⟨fun _ => True, fun i H v H' => H' = H ∧ ∃ c, x.cps[i]? = some c ∧ v = .str ⟨#[c]⟩, by rw [show (signs x).length = x.cps.size by simp [signs]]; exact walk_str, fun _ _ => trivial, fun i H v H' d _ hd y => .inl ⟨y.1, ?_⟩⟩
  obtain ⟨_, c, h1, rfl⟩ := y
  simp only [signs, List.getElem?_map, Array.getElem?_toList, h1, Option.map_some, Option.some.injEq] at hd
  subst hd
  exact rep_str
theorem ji_str (h : JE X e t w) : JI X tg e (iStr t) (aStrI w) := ⟨pi_str h.pe, by
  intro F H σ ρ μ as k R M E q hQ
  refine h.snd M E q fun F1 H1 μ1 as1 s v L1 M1 r1 q1 => ?_
  split at q1
  · rename_i x e1
    exact ⟨x, rd_ok M1 r1 e1, hQ _ _ _ _ _ _ L1 M1 walkD_str q1⟩
  · exact q1.elim⟩
/-- with their places -/
def numbered (l : List D) : List D := (List.range l.length).zipWith (fun i d => .tup [.int (i : Nat), d]) l
theorem numbered_len (l : List D) : (numbered l).length = l.length := by simp [numbered]
theorem numbered_at {l : List D} {i : Nat} {d : D} (h : (numbered l)[i]? = some d) : ∃ x, l[i]? = some x ∧ d = .tup [.int (i : Nat), x] := by
  unfold numbered at h
  rw [List.getElem?_zipWith] at h
  by_cases hi : i < l.length
  · simp only [List.getElem?_range hi, List.getElem?_eq_getElem hi] at h
    cases h
    exact ⟨l[i], by simp [hi], rfl⟩
  · have : l[i]? = none := by simp; omega
    rw [this] at h
    split at h <;> simp_all
theorem walkD_pair {K : Fg} {F : Hp} {J : It} {n : Nat} {G : Hp → Prop} {f g : Nat → Option V} {ds : List D} (w : L2.Walk J n G (YPair f g)) (hn : ds.length = n) (hG : ∀ H, Sub F H → G H)
    (h : ∀ i d x y, ds[i]? = some d → f i = some x → g i = some y → ∃ a b, d = .tup [a, b] ∧ Rep K F a x ∧ Rep K F b y) : WalkD K F J ds := by
  subst hn
  refine ⟨G, _, w, hG, fun i H v H' d sb hd y => .inr ?_⟩
  obtain ⟨T, x, z, rfl, h1, h2, h3, h4⟩ := y
  obtain ⟨a, b, rfl, r1, r2⟩ := h i d x z hd h3 h4
  exact ⟨T, _, h1, h2, fun F' s e => ⟨T, _, rfl, .inl (.inl e), _, _, rfl, Rep.mono s a x r1, _, _, rfl, Rep.mono s b z r2, rfl⟩⟩
/-! enumerate over a tuple -/
def Itet (K : Fg) (a : Addr) : It :=
  ⟨fun i H => ∃ (xs : List V) (x : V), SqT K H a xs ∧ xs[i]? = some x, fun i H v H' => ∃ T x, v = .ref T ∧ H T = none ∧ H' = upd H T (.tup [.int (i : Nat), x]) ∧ ∀ xs, SqT K H a xs → xs[i]? = some x, fun i H => ∃ xs : List V, SqT K H a xs ∧ xs.length = i⟩
theorem walk_enumT {K : Fg} {a : Addr} {xs : List V} : L2.Walk (Itet K a) xs.length (fun H => SqT K H a xs) (YPair (fun i => some (.int (i : Nat))) (fun i => xs[i]?)) := by
  refine ⟨fun i _ hi q => ⟨xs, xs[i], q, by simp [hi]⟩, fun _ q => ⟨xs, q, rfl⟩, fun i H v H' _ q y => ?_⟩
  obtain ⟨T, x, h1, h2, h3, h4⟩ := y
  exact ⟨T, .int (i : Nat), x, h1, h2, h3, rfl, h4 xs q⟩
end
/-! its two new objects -/
open PySem.Spec PyProof.Rows in
set_option maxHeartbeats 1000000 in
theorem meets_enum1 {v : Value} {o : Obj} {G : Heap → Prop} (B : Begins v o G) :
    Meets (Builtin.«enumerate.__new__» ⟨[.type "enumerate", v], []⟩) (fun _ R s => G s.heap ∧
      R (.ok (.ret (.ref (s.heap.push o).objs.size))) { s with heap := (s.heap.push o).push { cls := .type "enumerate", data := .fields #[.none, .bool false, .ref s.heap.objs.size, rawInt 0, .none, .none] } }) :=
  .of_wp fun prog w A R s h => by
    obtain ⟨hp, g, d, tk, os⟩ := s
    obtain ⟨h1, h⟩ := h
    have hsub := sub_enumerate
    have q1 : ∀ {A' : Around} {E : Value → Shared → Prop} {Q : Value → Shared → Prop}, Q (.ref hp.objs.size) ⟨hp.push o, g, d, tk, os⟩ → wpAny (model prog w) A' (pyIter v) Q E ⟨hp, g, d, tk, os⟩ :=
      fun q => B.iter prog w _ _ ⟨hp, g, d, tk, os⟩ _ h1 q
    wp_walk using q1
    refine wpAny_stack_any fun st => wpAny_pure ?_
    split
    · rename_i c _ _ _ _ _
      cases (c == Value.type "enumerate")
      · wp_walk using q1
        exact ⟨_, rfl, h⟩
      · wp_walk using q1
        exact ⟨_, rfl, h⟩
    · wp_walk using q1
      exact ⟨_, rfl, h⟩
section
variable {prog : Program} {w : World} {A : Around} {E : Value → Shared → Prop} {s : Shared}
open PySem.Spec PyProof.Rows in
theorem enum1_begins {v : Value} {o : Obj} {G : Heap → Prop} {Q : Value → Shared → Prop} (B : Begins v o G) (h1 : G s.heap)
    (h : ∀ h', IsEnum h' (s.heap.objs.size + 1) s.heap.objs.size 0 .none → h'.get? s.heap.objs.size = some o → h'.objs.size = s.heap.objs.size + 2 →
      (∀ b o, s.heap.get? b = some o → h'.get? b = some o) → Q (.ref (s.heap.objs.size + 1)) { s with heap := h' }) :
    wpAny (model prog w) A (call (.type "enumerate") [v]) Q E s := by
  refine callType_new F.called_enumerate (by decide) (F.typeCall_enumerate_1 _) (F.newCall_enumerate_1 _) (fun obj => F.args_object_init_2 obj _) F.entry_enumerate_new
    (meets_enum1 B) ⟨h1, ?_⟩
  have hz : (s.heap.push o).objs.size = s.heap.objs.size + 1 := Heap.size_push ..
  show _ ∧ _
  rw [hz]
  have he : IsEnum ((s.heap.push o).push { cls := .type "enumerate", data := .fields #[.none, .bool false, .ref s.heap.objs.size, rawInt 0, .none, .none] }) (s.heap.objs.size + 1) s.heap.objs.size 0 .none := by
    have := Heap.get?_push_size (s.heap.push o) (o := { cls := .type "enumerate", data := .fields #[.none, .bool false, .ref s.heap.objs.size, rawInt 0, .none, .none] }) rfl
    rw [hz] at this; exact this
  refine ⟨⟨_, he, rfl⟩, h _ he (Heap.get?_push_of_some _ (Heap.get?_push_size _ B.free)) (by rw [Heap.size_push, hz]) fun b o x => Heap.get?_push_of_some _ (Heap.get?_push_of_some _ x)⟩
end
open PySem.Spec PyProof.Rows in
theorem turn_enumT {P : Program} {w : World} {K : Fg} {elts : List Expr} {kk : Nat} {tpos : Pos} (a e it : Addr) :
    Turn P w K (.Tuple elts kk tpos) (Itet K a) [e, it] e (fun i h => (∃ old, IsEnum h e it ((i : Nat) : Int) old) ∧ h.IsTupleIter it a i ∧ e ≠ it) where
  mem := by simp
  obj := fun i h st b hb => by
    obtain ⟨⟨old, he⟩, ⟨o, ho, hc, hd⟩, _⟩ := st
    have e' : b = e ∨ b = it := by simpa using hb
    rcases e' with z | z
    · rw [z]; exact ⟨_, he, fun v q => nomatch q⟩
    · rw [z]; exact ⟨o, ho, fun v q => by rw [hd] at q; cases q⟩
  keep := fun i h h' st k => let ⟨⟨old, he⟩, hi, hne⟩ := st; ⟨⟨old, k e (by simp) _ he⟩, hi.at fun o q => k it (by simp) o q, hne⟩
  item := by
    intro X hP hw hK hc i pins s σ H E I hf st hg
    subst hP hw hK
    obtain ⟨⟨old, he⟩, hit, hne⟩ := st
    obtain ⟨xs, x, hq, hx⟩ := hg
    obtain ⟨its, rv, p, hz⟩ := I.tuple hq
    obtain ⟨u, hu, ru⟩ := rv.get hx
    have pT : s.heap.IsTuple a its.toArray := p
    have hel : e < s.heap.objs.size := Heap.lt_size he
    have hil : it < s.heap.objs.size := by obtain ⟨_, q, _⟩ := hit; exact Heap.lt_size q
    have hai : a ≠ it := fun z => by
      subst z
      obtain ⟨o1, e1, c1, _⟩ := hit
      obtain ⟨o2, e2, c2, _⟩ := pT
      rw [e1] at e2
      cases e2
      rw [c1] at c2
      exact absurd c2 (by decide)
    have hae : e ≠ a := fun z => by
      subst z
      obtain ⟨o2, e2, c2, _⟩ := pT
      rw [show s.heap.get? e = _ from he] at e2
      cases e2
      have c3 : Value.type "enumerate" = Value.type "tuple" := c2
      exact absurd c3 (by decide)
    have hef : e ∉ [it, a] := by simp [hne, hae]
    have hlt : i < its.toArray.size := by
      have := (List.getElem?_eq_some_iff.mp (show its[i]? = some u from hu)).1
      simpa using this
    refine wpAny_pyNext_enum_itemD (Draws.tuple (prog := X.prog) (w := X.w) (A := X.A.in1) (I.ok.hd hc) it a hai its.toArray) he ⟨hit, pT⟩ hlt hne hef fun x' h' tk hP ho st' hT hsz hk => ?_
    have ex : x' = u := by
      have z : its[i]? = some x' := by simpa using hP
      rw [hu] at z
      exact (Option.some.inj z).symm
    subst ex
    obtain ⟨hit', _⟩ := st'
    refine ⟨_, rfl, wpAny_letOwnedTupleGo_enum (s := { s with heap := h', toks := tk + 1 }) ho fun h'' he' sb => ?_⟩
    have hT2 : h''.get? s.heap.objs.size = some { cls := .type "tuple", data := .seq #[.int i tk, x'] } := (sb.2 _ (Nat.ne_of_gt hel)).trans hT
    have new : ObjOk X.prog X.w (upd H s.heap.objs.size (.tup [.int (i : Nat), x])) h'' s.heap.objs.size (.tup [.int (i : Nat), x]) :=
      ⟨by show 2 ≤ sizeLine; decide, [.int i tk, x'], .cons ⟨_, rfl⟩ (.cons ru .nil), ⟨_, hT2, rfl, _, rfl⟩⟩
    have I1 : Inv X pins σ (upd H s.heap.objs.size (.tup [.int (i : Nat), x])) { s with heap := h'', toks := tk + 1 } :=
      I.turnedNew (ch := [e, it]) (fun b ob hb q => (sb.2 b (fun z => hb (by simp [z]))).trans (hk b ob (fun z => hb (by simp [z])) (fun z => hb (by simp [z])) q)) hf (Nat.le_refl _) new
    refine ⟨.ref s.heap.objs.size, _, I1, rfl, ⟨_, x, rfl, I.hok.fresh (Nat.le_refl _), rfl, fun ys hy => by rw [I.tuple_inj hy hq]; exact hx⟩, ⟨⟨x', ?_⟩, hit'.at fun o q => (sb.2 it (Ne.symm hne)).trans q, hne⟩, fun b hb => ?_⟩
    · have e1 : ((i + 1 : Nat) : Int) = (i : Int) + 1 := by omega
      rw [e1]; exact he'
    · have hb' : b < s.heap.objs.size := by
        have e' : b = e ∨ b = it := by simpa using hb
        rcases e' with z | z
        · rw [z]; exact hel
        · rw [z]; exact hil
      rw [upd_ne (Nat.ne_of_lt hb')]
      exact (hf b hb).1
  done := by
    intro X hP hw hK hc i pins s σ H E I hf st hg
    subst hP hw hK
    obtain ⟨⟨old, he⟩, hit, hne⟩ := st
    obtain ⟨xs, hq, hx⟩ := hg
    obtain ⟨its, rv, p, hz⟩ := I.tuple hq
    have pT : s.heap.IsTuple a its.toArray := p
    obtain ⟨f0, f1, f2, f3, f4, f5⟩ := hf it (by simp)
    have hl := rv.length
    have hai : a ≠ it := fun z => by
      subst z
      obtain ⟨o1, e1, c1, _⟩ := hit
      obtain ⟨o2, e2, c2, _⟩ := pT
      rw [e1] at e2
      cases e2
      rw [c1] at c2
      exact absurd c2 (by decide)
    have e1 : i = its.toArray.size := by simp; omega
    subst e1
    exact wpAny_pyNext_enum_endD (Draws.tuple (prog := X.prog) (w := X.w) (A := X.A.in1) (I.ok.hd hc) it a hai its.toArray) he ⟨hit, pT⟩ fun h' eb => ⟨rfl, I.turned (t' := s.toks) (fun b o hb q => eb b o hb q) f0 f1 f3 f4 f5⟩
  self := fun A i s Q E st h => let ⟨⟨_, he⟩, _⟩ := st; wpAny_pyIter_enum he h
def iEnumU (K : Fg) (ta : TA) : TI := fun σ H R => ta σ H fun vs H1 => ∃ a xs, vs = [.ref a] ∧ ((SqL K H1 a xs ∧ R (Ite K a) H1) ∨ (SqT K H1 a xs ∧ R (Itet K a) H1))
open PySem.Spec PyProof.Rows in
theorem pi_enumU {X : Cx} {e : Expr} {ta : TA} {p pos tpos : Pos} {elts : List Expr} {kk : Nat} (hg : Gl X "enumerate") (hm : X.mg "enumerate" = none) (ha : PA X [e] ta) (hs : starEach [e] X.env = [(false, eval e X.env)] := by rfl) :
    PI X (.Tuple elts kk tpos) (.Call (.Name "enumerate" p) [e] [] pos) (iEnumU X.K ta) := by
  refine ⟨fun pins s σ H R I h => ?_⟩
  refine Call_ (ld_blt I hg hm boot_enumerate (PyProof.Rows.callWith_type1 (thn (ha.run pos pins s σ H _ I h) fun us s1 ⟨vs, H1, I1, r1, q1⟩ => ?_) hs rfl))
  obtain ⟨a, xs, ex, q⟩ := q1
  subst ex
  cases r1 with
  | cons r rr =>
    cases rr
    cases r
    have two : ∀ b ∈ [s1.heap.objs.size + 1, s1.heap.objs.size], FpOk X pins H1 b := fun b hb => by
      have e' : b = s1.heap.objs.size + 1 ∨ b = s1.heap.objs.size := by simpa using hb
      have hle : s1.heap.objs.size ≤ b := by
        rcases e' with z | z
        · rw [z]; exact Nat.le_add_right _ _
        · rw [z]; exact Nat.le_refl _
      exact I1.fpOk hle (I1.hok.fresh hle)
    rcases q with ⟨hq, q⟩ | ⟨hq, q⟩
    · obtain ⟨its, rv, p', hz⟩ := I1.list hq
      refine call_enumerate_list p'.isList fun h' he hit hsz hk => wpAny_pyIter_enum he ?_
      exact ⟨s1.heap.objs.size + 1, [s1.heap.objs.size + 1, s1.heap.objs.size], _, _, H1, rfl, I1.kept (t' := s1.toks) hk, turn_enum a (s1.heap.objs.size + 1) s1.heap.objs.size, ⟨⟨.none, he⟩, hit, Nat.succ_ne_self _⟩, two, q⟩
    · obtain ⟨its, rv, p', hz⟩ := I1.tuple hq
      have pT : s1.heap.IsTuple a its.toArray := p'
      refine enum1_begins (begins_tuple a its.toArray) pT fun h' he hit hsz hk => wpAny_pyIter_enum he ?_
      exact ⟨s1.heap.objs.size + 1, [s1.heap.objs.size + 1, s1.heap.objs.size], _, _, H1, rfl, I1.kept (t' := s1.toks) hk, turn_enumT a (s1.heap.objs.size + 1) s1.heap.objs.size, ⟨⟨.none, he⟩, ⟨_, hit, rfl, rfl⟩, Nat.succ_ne_self _⟩, two, q⟩
theorem walk_zipT2 {K : Fg} {a b : Addr} {xs ys : List V} {n : Nat} (hn : n = min xs.length ys.length) : L2.Walk (RZ.ItzT K a b) n (fun H => SqT K H a xs ∧ SqT K H b ys) (YPair (fun i => xs[i]?) (fun i => ys[i]?)) := by
  subst hn
  refine ⟨fun i _ hi q => ?_, fun _ q => ⟨xs, ys, q.1, q.2, by omega⟩, fun i H v H' _ q y => ?_⟩
  · have h1 : i < xs.length := by omega
    have h2 : i < ys.length := by omega
    exact ⟨xs, ys, xs[i], ys[i], q.1, q.2, by simp [h1], by simp [h2]⟩
  · obtain ⟨T, x, z, h1, h2, h3, h4, h5⟩ := y
    exact ⟨T, x, z, h1, h2, h3, h4 xs q.1, h5 ys q.2⟩
theorem PI_or {X : Cx} {tg e : Expr} {wi wi' : TI} (h : PI X tg e wi) (h' : PI X tg e wi') : PI X tg e (fun σ H R => wi σ H R ∨ wi' σ H R) :=
  ⟨fun pins s σ H R I q => q.elim (h.run pins s σ H R I) (h'.run pins s σ H R I)⟩
section
variable {X : Cx} {e e1 e2 e3 tg : Expr} {t ta tb tc : TE} {w wa wb wc : AE} {pos tpos : Pos} {es elts : List Expr} {tr : TA} {wr : AA} {p : Pos} {x : Str} {kk : Nat}
def oneK (k : List D → Mu → Prop) : List Sl → Mu → Prop := fun ss μ1 => match ss with
  | [.d d] => (match itemsD d with
    | some l => k l μ1
    | none => False)
  | _ => False
theorem oneK_elim {k : List D → Mu → Prop} {ss : List Sl} {μ : Mu} (h : oneK k ss μ) : ∃ d l, ss = [.d d] ∧ itemsD d = some l ∧ k l μ := by
  unfold oneK at h
  split at h
  · rename_i d
    cases q2 : itemsD d with
    | none => simp [q2] at h
    | some l => simp only [q2] at h; exact ⟨d, l, rfl, q2, h⟩
  · exact h.elim
def aEnumI (w : AA) : AIt := fun ρ μ k => w ρ μ (oneK fun l μ1 => k (numbered l) μ1)
theorem seq_of {K : Fg} {F : Hp} {d : D} {l : List D} {v : V} (r : Rep K F d v) (h : itemsD d = some l) : ∃ a vs, v = .ref a ∧ (SqL K F a vs ∨ SqT K F a vs) ∧ RepL K F l vs := by
  cases d with
  | lst l' => cases h; obtain ⟨a, vs, rfl, g1, g2⟩ := r; exact ⟨a, vs, rfl, .inl (.inl g1), g2⟩
  | tup l' => cases h; obtain ⟨a, vs, rfl, g1, g2⟩ := r; exact ⟨a, vs, rfl, .inr g1, g2⟩
  | tpl l' => cases h; obtain ⟨a, vs, o, rfl, g1, _, g2⟩ := r; exact ⟨a, vs, rfl, .inr (.inl (.inr ⟨o, g1⟩)), g2⟩
  | _ => cases h
theorem numbered_rep {K : Fg} {F : Hp} {l : List D} {vs : List V} (r : RepL K F l vs) (i : Nat) (d : D) (x y : V) (h : (numbered l)[i]? = some d) (h1 : some (V.int (i : Nat)) = some x) (h2 : vs[i]? = some y) : ∃ a b, d = .tup [a, b] ∧ Rep K F a x ∧ Rep K F b y := by
  obtain ⟨z, g1, rfl⟩ := numbered_at h
  cases h1
  obtain ⟨v, g2, g3⟩ := r.at_ g1
  rw [h2] at g2
  cases g2
  exact ⟨_, _, rfl, rep_int, g3⟩
theorem ji_enum (hg : Gl X "enumerate") (hm : X.mg "enumerate" = none) (ha : JA X [e] tr wr) (hs : starEach [e] X.env = [(false, eval e X.env)] := by rfl) :
    JI X (.Tuple elts kk tpos) (.Call (.Name "enumerate" p) [e] [] pos) (iEnumU X.K tr) (aEnumI wr) := ⟨pi_enumU hg hm ha.pa hs, by
  intro F H σ ρ μ as k R M E q hQ
  refine ha.snd M E q fun F1 H1 μ1 as1 ss vs L1 M1 r1 q1 => ?_
  obtain ⟨d, l, rfl, e1, q2⟩ := oneK_elim q1
  cases r1 with
  | cons r1 r2 =>
    cases r2
    obtain ⟨a, us, rfl, g, r3⟩ := seq_of r1 e1
    rcases g with g | g
    · exact ⟨a, us, rfl, .inl ⟨M1.sub.sqL g, hQ _ _ _ _ _ _ L1 M1 (walkD_pair walk_enum (by rw [numbered_len, r3.len]) (fun H s => s.sqL g) (numbered_rep r3)) q2⟩⟩
    · exact ⟨a, us, rfl, .inr ⟨M1.sub.sqT g, hQ _ _ _ _ _ _ L1 M1 (walkD_pair walk_enumT (by rw [numbered_len, r3.len]) (fun H s => s.sqT g) (numbered_rep r3)) q2⟩⟩⟩
/-- of two of one kind -/
def twoK (k : List D → List D → Mu → Prop) : List Sl → Mu → Prop := fun ss μ1 => match ss with
  | [.d (.lst l), .d (.lst l')] => k l l' μ1
  | [.d (.tup l), .d (.tup l')] => k l l' μ1
  | _ => False
def pairsD (l l' : List D) : List D := l.zipWith (fun a b => .tup [a, b]) l'
def aZipI (w : AA) : AIt := fun ρ μ k => w ρ μ (twoK fun l l' μ1 => k (pairsD l l') μ1)
theorem pairs_rep {K : Fg} {F : Hp} {l l' : List D} {vs vs' : List V} (r : RepL K F l vs) (r' : RepL K F l' vs') (i : Nat) (d : D) (x y : V) (h : (pairsD l l')[i]? = some d) (h1 : vs[i]? = some x) (h2 : vs'[i]? = some y) : ∃ a b, d = .tup [a, b] ∧ Rep K F a x ∧ Rep K F b y := by
  obtain ⟨a, g1, g2⟩ := r.get h1
  obtain ⟨b, g3, g4⟩ := r'.get h2
  unfold pairsD at h
  rw [List.getElem?_zipWith, g1, g3] at h
  cases h
  exact ⟨a, b, rfl, g2, g4⟩
theorem ji_zip (hg : Gl X "zip") (hm : X.mg "zip" = none) (ha : JA X [e, e2] tr wr)
    (hs : starEach [e, e2] X.env = (false, eval e X.env) :: starEach [e2] X.env := by rfl) (hpl : (backTo pos (starEach [e2] X.env)).any (·.1) = false := by rfl) :
    JI X (.Tuple elts kk tpos) (.Call (.Name "zip" p) [e, e2] [] pos) (RZ.iZipA X.K tr) (aZipI wr) := ⟨RZ.pi_zipA hg hm ha.pa hs hpl, by
  intro F H σ ρ μ as k R M E q hQ
  refine ha.snd M E q fun F1 H1 μ1 as1 ss vs L1 M1 r1 q1 => ?_
  unfold twoK at q1
  split at q1
  · cases r1 with
    | cons r1 r2 => cases r2 with
      | cons r2 r3 =>
        cases r3
        obtain ⟨a, us, rfl, g1, g2⟩ := id r1
        obtain ⟨b, us', rfl, g1', g2'⟩ := id r2
        have s1 : ∀ H, Sub F1 H → SqL X.K H a us := fun H s => s.sqL (.inl g1)
        have s2 : ∀ H, Sub F1 H → SqL X.K H b us' := fun H s => s.sqL (.inl g1')
        exact ⟨a, b, us, us', rfl, .inl ⟨s1 _ M1.sub, s2 _ M1.sub, hQ _ _ _ _ _ _ L1 M1 (walkD_pair (walk_zip rfl) (by simp [pairsD, g2.len, g2'.len]) (fun H s => ⟨s1 H s, s2 H s⟩) (pairs_rep g2 g2')) q1⟩⟩
  · cases r1 with
    | cons r1 r2 => cases r2 with
      | cons r2 r3 =>
        cases r3
        obtain ⟨a, us, rfl, g1, g2⟩ := id r1
        obtain ⟨b, us', rfl, g1', g2'⟩ := id r2
        have s1 : ∀ H, Sub F1 H → SqT X.K H a us := fun H s => s.sqT g1
        have s2 : ∀ H, Sub F1 H → SqT X.K H b us' := fun H s => s.sqT g1'
        exact ⟨a, b, us, us', rfl, .inr ⟨s1 _ M1.sub, s2 _ M1.sub, hQ _ _ _ _ _ _ L1 M1 (walkD_pair (walk_zipT2 rfl) (by simp [pairsD, g2.len, g2'.len]) (fun H s => ⟨s1 H s, s2 H s⟩) (pairs_rep g2 g2')) q1⟩⟩
  · exact q1.elim⟩
end
end Ww
/-! W9: comprehensions. -/
namespace Ww
open PySem L2
def wipeR (ρ : Rho) : List Nat → Rho
  | [] => ρ
  | v :: vs => (wipeR ρ vs).set v none
theorem wipeR_length (ρ : Rho) : ∀ vs : List Nat, (wipeR ρ vs).length = ρ.length
  | [] => rfl
  | v :: vs => by unfold wipeR; rw [List.length_set, wipeR_length ρ vs]
theorem EnvR.none {K : Fg} {F : Hp} {as : List Addr} {σ : L2.St} {ρ : Rho} (h : EnvR K F as σ ρ) (i : Nat) : EnvR K F as (σ.set i none) (ρ.set i none) := by
  refine ⟨by rw [List.length_set, List.length_set, h.1], fun j z e => ?_⟩
  by_cases q : i = j
  · subst q
    have hi : i < ρ.length := by
      have := (List.getElem?_eq_some_iff.mp e).1
      rwa [List.length_set] at this
    rw [List.getElem?_set_self hi] at e
    cases e
  · rw [List.getElem?_set_ne q] at e ⊢
    exact h.2 j z e
theorem EnvR.wipe {K : Fg} {F : Hp} {as : List Addr} {σ : L2.St} {ρ : Rho} (h : EnvR K F as σ ρ) : ∀ vs, EnvR K F as (L2.wipe σ vs) (wipeR ρ vs)
  | [] => h
  | v :: vs => (EnvR.wipe h vs).none v
/-- a target that stores in these slots only -/
def GOnly (vs : List Nat) (g : TG) : Prop := ∀ v σ H (Q : L2.St → Hp → Prop), g v σ H Q → g v σ H fun σ2 H2 => L2.wipe σ2 vs = L2.wipe σ vs ∧ Q σ2 H2
def GsOnly (vs : List Nat) (g : TGs) : Prop := ∀ v σ H (Q : L2.St → Hp → Prop), g v σ H Q → g v σ H fun σ2 H2 => L2.wipe σ2 vs = L2.wipe σ vs ∧ Q σ2 H2
/-- what is set to the one form is the same when only these differ -/
theorem wipe_ext {σ σ' : L2.St} : ∀ {vs : List Nat}, σ'.length = σ.length → (∀ i, i ∉ vs → σ'[i]? = σ[i]?) → L2.wipe σ' vs = L2.wipe σ vs := by
  intro vs hl h
  have key : ∀ (vs : List Nat) (σ : L2.St) (i : Nat), (L2.wipe σ vs)[i]? = if i ∈ vs then (if i < σ.length then some none else none) else σ[i]? := by
    intro vs
    induction vs with
    | nil => intro σ i; simp [L2.wipe]
    | cons v vs ih =>
      intro σ i
      unfold L2.wipe
      rw [List.getElem?_set, ih σ i, L2.wipe_length]
      by_cases e : v = i
      · subst e; simp
      · rw [if_neg e]
        have : (i ∈ v :: vs) ↔ (i ∈ vs) := by simp [Ne.symm e]
        simp only [this]
  apply List.ext_getElem?
  intro i
  rw [key, key]
  by_cases q : i ∈ vs
  · rw [if_pos q, if_pos q, hl]
  · rw [if_neg q, if_neg q]; exact h i q
theorem wipe_set {σ : L2.St} {vs : List Nat} {i : Nat} (h : i ∈ vs) (x : Option V) : L2.wipe (σ.set i x) vs = L2.wipe σ vs :=
  wipe_ext (by simp) fun j hj => by rw [List.getElem?_set_ne (fun e : i = j => hj (e ▸ h))]
theorem wipe_wipe (σ : L2.St) (vs : List Nat) : L2.wipe (L2.wipe σ vs) vs = L2.wipe σ vs :=
  wipe_ext (L2.wipe_length σ vs) fun i hi => wipe_out hi
theorem GOnly.at_ {vs : List Nat} {g : TG} (h : GOnly vs g) {v : V} {σ : L2.St} {H : Hp} {Q : L2.St → Hp → Prop} (q : g v (L2.wipe σ vs) H Q) : g v (L2.wipe σ vs) H fun σ2 H2 => L2.wipe σ2 vs = L2.wipe σ vs ∧ Q σ2 H2 := by
  have z := h v (L2.wipe σ vs) H Q q
  rw [wipe_wipe] at z
  exact z
theorem go_name {vs : List Nat} {i : Nat} (h : i ∈ vs := by decide) : GOnly vs (gName i) := fun v σ H Q q => ⟨wipe_set h _, q⟩
theorem go_nil {vs : List Nat} : GsOnly vs gNil := fun v σ H Q q => ⟨q.1, rfl, q.2⟩
theorem go_tupM {vs : List Nat} {K : Fg} {n : Nat} {g : TGs} (h : GsOnly vs g) : GOnly vs (gTup K n g) := fun v σ H Q ⟨a, xs, e, h1, h2, h3⟩ => ⟨a, xs, e, h1, h2, h xs σ H Q h3⟩
/-- the first stores, then the rest: the target must say where it ends -/
theorem go_cons_name {vs : List Nat} {i : Nat} {u : TGs} (hi : i ∈ vs := by decide) (h : GsOnly vs u) : GsOnly vs (gCons (gName i) u) := fun v σ H Q ⟨x, r, e, q⟩ => ⟨x, r, e, by
  have z : u r (σ.set i (some x)) H Q := q
  have z2 := h r (σ.set i (some x)) H Q z
  rw [wipe_set hi] at z2
  exact z2⟩
structure JTs (X : Cx) (es : List Expr) (t : TT) (w : AT) : Prop where
  pts : PTs X es t
  snd : SndT X.K t w
def aYes : AT := fun _ μ k => k true μ
theorem jts_nil {X : Cx} : JTs X [] tYes aYes := ⟨pts_nil, fun M E q hQ => hQ _ _ _ _ _ .refl M q⟩
theorem jts_one {X : Cx} {e : Expr} {t : TT} {w : AT} (h : JT X e t w) : JTs X [e] t w := ⟨pts_one h.pt, h.snd⟩
/-! ### a list under way: at Dl, by no cell and not yet data -/
structure Way (K : Fg) (F H : Hp) (μ : Mu) (as : List Addr) (Dl : Addr) (acc : List D) : Prop where
  mem : Mem K F H μ as
  out : Dl ∉ as
  free : F Dl = none
  at_ : ∃ vs, H Dl = some (.lst vs) ∧ RepL K F acc vs
theorem Way.begin {K : Fg} {F H : Hp} {μ : Mu} {as : List Addr} {Dl : Addr} (M : Mem K F H μ as) (h : H Dl = none) : Way K F (upd H Dl (.lst [])) μ as Dl [] ∧ Later F H as F (upd H Dl (.lst [])) as := by
  have fp : F Dl = none := M.sub.free h
  have pn : Dl ∉ as := fun q => M.ex Dl q h
  have L : Later F H as F (upd H Dl (.lst [])) as := ⟨Sub.refl F, List.prefix_refl as, fun a o e _ => by rw [upd_ne (ne_of_none e h)]; exact e, fun a q n => absurd q n, fun _ _ _ f => f⟩
  refine ⟨⟨⟨fun a o e => ?_, M.len, M.nd, fun a q => ?_, fun k c a h1 h2 => ?_⟩, pn, fp, [], upd_same, rfl⟩, L⟩
  · rw [upd_ne (ne_of_none e fp)]; exact M.sub a o e
  · rw [upd_ne (fun e : a = Dl => pn (e ▸ q))]; exact M.ex a q
  · have ha : a ∈ as := List.mem_of_getElem? h2
    exact (M.at_ k c a h1 h2).later L (fun f => f) fun o e => by rw [upd_ne (fun q : a = Dl => pn (q ▸ ha))]; exact e
/-- steps that know nothing of it -/
theorem Way.step {K : Fg} {F H F' H' : Hp} {μ μ' : Mu} {as as' : List Addr} {Dl : Addr} {acc : List D} (w : Way K F H μ as Dl acc) (L : Later F H as F' H' as') (M : Mem K F' H' μ' as') : Way K F' H' μ' as' Dl acc := by
  obtain ⟨vs, h1, h2⟩ := w.at_
  refine ⟨M, fun q => ?_, L.frzn Dl (by rw [h1]; simp) w.out w.free, vs, L.others Dl _ h1 w.out, h2.mono' L.sub⟩
  have z := L.fresh Dl q w.out
  rw [h1] at z
  cases z
/-- one more -/
theorem Way.put {K : Fg} {F H : Hp} {μ : Mu} {as : List Addr} {Dl : Addr} {acc : List D} {d : D} {v : V} {F0 H0 : Hp} {as0 : List Addr} (w : Way K F H μ as Dl acc) (r : Rep K F d v) (L : Later F0 H0 as0 F H as) (h0 : H0 Dl = none) :
    ∃ vs, H Dl = some (.lst vs) ∧ vs.length = acc.length ∧ Way K F (upd H Dl (.lst (vs ++ [v]))) μ as Dl (acc ++ [d]) ∧ Later F0 H0 as0 F (upd H Dl (.lst (vs ++ [v]))) as := by
  obtain ⟨vs, h1, h2⟩ := w.at_
  have M := w.mem
  have L' : Later F0 H0 as0 F (upd H Dl (.lst (vs ++ [v]))) as := ⟨L.sub, L.pre, fun a o e n => by rw [upd_ne (ne_of_none e h0)]; exact L.others a o e n, L.fresh, L.frzn⟩
  have same : ∀ a, a ∈ as → (upd H Dl (.lst (vs ++ [v]))) a = H a := fun a ha => upd_ne fun e => w.out (e ▸ ha)
  refine ⟨vs, h1, h2.len, ⟨⟨fun a o e => ?_, M.len, M.nd, fun a q => by rw [same a q]; exact M.ex a q, fun k c a g1 g2 => ?_⟩, w.out, w.free, _, upd_same, h2.app (RepL.one r)⟩, L'⟩
  · rw [upd_ne (ne_of_none e w.free)]; exact M.sub a o e
  · have ha : a ∈ as := List.mem_of_getElem? g2
    have c1 := M.at_ k c a g1 g2
    cases c with
    | lst l => obtain ⟨q1, us, q2, q3⟩ := c1; exact ⟨q1, us, (same a ha).trans q2, q3⟩
    | dic ks l => obtain ⟨q1, us, q2, q3⟩ := c1; exact ⟨q1, us, (same a ha).trans q2, q3⟩
    | ins C ns l => obtain ⟨q1, dx, us, q2, q3⟩ := c1; exact ⟨q1, dx, us, (same a ha).trans q2, q3⟩
    | frz x => exact c1
/-- done: it is data -/
theorem Way.done {K : Fg} {F H : Hp} {μ : Mu} {as : List Addr} {Dl : Addr} {acc : List D} {F0 H0 : Hp} {as0 : List Addr} (w : Way K F H μ as Dl acc) (L : Later F0 H0 as0 F H as) (h0 : H0 Dl = none) :
    ∃ F', Mem K F' H μ as ∧ Later F0 H0 as0 F' H as ∧ Rep K F' (.lst acc) (.ref Dl) := by
  obtain ⟨vs, h1, h2⟩ := w.at_
  have M := w.mem
  have sb : Sub F (upd F Dl (.lst vs)) := Sub.upd_new w.free
  have hr : Rep K (upd F Dl (.lst vs)) (.lst acc) (.ref Dl) := ⟨Dl, vs, rfl, .inl upd_same, h2.mono' sb⟩
  refine ⟨upd F Dl (.lst vs), ⟨fun a o e => ?_, M.len, M.nd, M.ex, fun k c a g1 g2 => ?_⟩, ⟨L.sub.trans sb, L.pre, L.others, L.fresh, fun a q n f => ?_⟩, hr⟩
  · by_cases q : a = Dl
    · subst q; rw [upd_same] at e; cases e; exact h1
    · rw [upd_ne q] at e; exact M.sub a o e
  · have ha : a ∈ as := List.mem_of_getElem? g2
    have ne : a ≠ Dl := fun e => w.out (e ▸ ha)
    have c1 := M.at_ k c a g1 g2
    have imp : ∀ {l : List Sl} {us : List V}, RepSs K F as l us → RepSs K (upd F Dl (.lst vs)) as l us := fun {l us} q => Paired.imp (fun s v z => by
      cases s with
      | d x => exact Rep.mono sb x v z
      | m k => exact z) q
    cases c with
    | lst l => obtain ⟨q1, us, q2, q3⟩ := c1; exact ⟨by rw [upd_ne ne]; exact q1, us, q2, imp q3⟩
    | dic ks l => obtain ⟨q1, us, q2, q4, q3⟩ := c1; exact ⟨by rw [upd_ne ne]; exact q1, us, q2, q4, imp q3⟩
    | ins C ns l => obtain ⟨q1, dx, us, q2, q4, q3⟩ := c1; exact ⟨by rw [upd_ne ne]; exact q1, dx, us, q2, q4, imp q3⟩
    | frz x => exact Rep.mono sb x _ c1
  · rw [upd_ne (fun e : a = Dl => q (by rw [e]; exact h0))]
    exact L.frzn a q n f
/-! ### [e for x in l if c] -/
def aLc (wi : AIt) (g : AG) (u : AT) (we : AE) (vs : List Nat) : AE := fun ρ μ k => wi ρ μ fun ds μ1 => ∃ I : Nat → List D → Mu → Prop, I 0 [] μ1 ∧
  (∀ i d acc μ', ds[i]? = some d → I i acc μ' → g (.d d) (wipeR ρ vs) μ' fun ρ2 μ2 => u ρ2 μ2 fun b μ3 => if b = true then aFz we ρ2 μ3 fun s μ4 => ∃ y, s = .d y ∧ acc.length < sizeLine ∧ I (i + 1) (acc ++ [y]) μ4 else I (i + 1) acc μ3) ∧
  ∀ acc μ', I ds.length acc μ' → k (.d (.lst acc)) μ'
theorem snd_lc {K : Fg} {wi : TI} {wI : AIt} {gt : TG} {ga : AG} {tt : TT} {u : AT} {te : TE} {we : AE} {vs : List Nat} (hi : SndI K wi wI) (hg : SndG K gt ga) (ho : GOnly vs gt) (ht : SndT K tt u) (he : SndE K te we) :
    SndE K (tLc wi gt tt te vs) (aLc wI ga u we vs) := by
  intro F H σ ρ μ as k Q M E q hQ
  refine hi M E q fun F1 H1 μ1 as1 J ds L1 M1 W z => ?_
  obtain ⟨I, i0, hs, hd⟩ := z
  obtain ⟨G, Y, h1, h2, h3⟩ := W
  intro Dl hD
  obtain ⟨w0, l0⟩ := Way.begin M1 hD
  refine L2.lc_it h1 (fun i H' => ∃ F' μ' as' acc, Later F1 H1 as1 F' H' as' ∧ Way K F' H' μ' as' Dl acc ∧ I i acc μ') ⟨F1, μ1, as1, [], l0, w0, i0⟩ ?_ ?_ ?_
  · rintro i H' _ ⟨F', μ', as', acc, L', w, _⟩
    exact h2 H' (L'.sub.trans w.mem.sub)
  · rintro i x H' H'' hlt ⟨F', μ', as', acc, L', w, i'⟩ y
    obtain ⟨d, ed⟩ : ∃ d, ds[i]? = some d := ⟨ds[i], by simp [hlt]⟩
    obtain ⟨F2, L2', M2, r2⟩ := WalkD.step L'.sub w.mem ed h3 y
    have w2 := w.step L2' M2
    have E0 := ((E.later (L1.trans (L'.trans L2')))).wipe vs
    refine ho.at_ (hg M2 E0 (s := .d d) r2 (hs i d acc μ' ed i') fun F3 H3 σ3 ρ3 μ3 as3 L3 M3 E3 z3 => ?_)
    refine ht M3 E3 z3 fun F4 H4 μ4 as4 b L4 M4 z4 => ?_
    have w4 := (w2.step L3 M3).step L4 M4
    cases b with
    | false =>
      refine iteF ?_
      exact ⟨F4, μ4, as4, acc, ((L'.trans L2').trans L3).trans L4, w4, z4⟩
    | true =>
      refine iteT ?_
      rw [if_pos rfl] at z4
      refine snd_fz he M4 (E3.later L4) z4 fun F5 H5 μ5 as5 s v L5 M5 r5 z5 => ?_
      obtain ⟨y, rfl, hlen, z6⟩ := z5
      have w5 := w4.step L5 M5
      obtain ⟨us, g1, g2, g3, g4⟩ := w5.put r5 ((((L'.trans L2').trans L3).trans L4).trans L5) hD
      exact ⟨us, g1, by rw [g2]; exact hlen, F5, μ5, as5, acc ++ [y], g4, g3, z6⟩
  · rintro H' ⟨F', μ', as', acc, L', w, i'⟩
    obtain ⟨F2, M2, L2', r2⟩ := w.done L' hD
    exact hQ _ _ _ _ (.d (.lst acc)) _ (L1.trans L2') M2 r2 (hd acc μ' i')
section
variable {X : Cx}
theorem j_lc {elt tg iter : Expr} {ifs : List Expr} {scope : Scope} {own : List (Str × Nat)} {pos : Pos} {wi : TI} {wI : AIt} {g : TG} {ga : AG} {tt : TT} {u : AT} {te : TE} {we : AE} (hc : X.calm = true) (hN : X.N.Nodup) (hi : JI X tg iter wi wI) (ok : BlkOk X.N X.env.scope scope own)
    (hg : ∀ (s : Shared) (H : Hp) (C : Addr) (cl : List (Str × Addr)) (fp : List Addr), JG (X.blk s H scope (compEnvC scope cl C X.env) fp) tg g ga) (ho : GOnly (own.map (·.2)) g)
    (ht : ∀ (s : Shared) (H : Hp) (C : Addr) (cl : List (Str × Addr)) (fp : List Addr), JTs (X.blk s H scope (compEnvC scope cl C X.env) fp) ifs tt u)
    (he : ∀ (s : Shared) (H : Hp) (C : Addr) (cl : List (Str × Addr)) (fp : List Addr), JE (X.blk s H scope (compEnvC scope cl C X.env) fp) elt te we) (hs : ∀ x, foldedSetIterable iter X.env x = pure x := by intro _; rfl) :
    JE X (.ListComp elt [⟨tg, iter, ifs, 0⟩] scope pos) (tLc wi g tt te (own.map (·.2))) (aLc wI ga u we (own.map (·.2))) :=
  ⟨pe_lc hc hN hi.pi ok (fun a b c d e => (hg a b c d e).pg) (fun a b c d e => (ht a b c d e).pts) (fun a b c d e => (he a b c d e).pe) hs,
   snd_lc hi.snd (hg X.s_0 X.H_0 0 [] []).snd ho (ht X.s_0 X.H_0 0 [] []).snd (he X.s_0 X.H_0 0 [] []).snd⟩
theorem js_setLc (i : Nat) {y : Str} {py : Pos} {elt tg iter : Expr} {ifs : List Expr} {scope : Scope} {own : List (Str × Nat)} {pos spos : Pos} {wi : TI} {wI : AIt} {g : TG} {ga : AG} {tt : TT} {u : AT} {te : TE} {we : AE} (hc : X.calm = true) (hN : X.N.Nodup) (hi : JI X tg iter wi wI) (ok : BlkOk X.N X.env.scope scope own)
    (hg : ∀ (s : Shared) (H : Hp) (C : Addr) (cl : List (Str × Addr)) (fp : List Addr), JG (X.blk s H scope (compEnvC scope cl C X.env) fp) tg g ga) (ho : GOnly (own.map (·.2)) g)
    (ht : ∀ (s : Shared) (H : Hp) (C : Addr) (cl : List (Str × Addr)) (fp : List Addr), JTs (X.blk s H scope (compEnvC scope cl C X.env) fp) ifs tt u)
    (he : ∀ (s : Shared) (H : Hp) (C : Addr) (cl : List (Str × Addr)) (fp : List Addr), JE (X.blk s H scope (compEnvC scope cl C X.env) fp) elt te we)
    (hy : X.N[i]? = some y := by rfl) (hyl : X.env.scope.names.lookup y = some .local := by rfl) (hsw : swapsWith (.ListComp elt [⟨tg, iter, ifs, 0⟩] scope pos) (some (.Name y py)) spos.line X.env = pure true := by exact sw_true rfl rfl rfl rfl)
    (hs : ∀ x, foldedSetIterable iter X.env x = pure x := by intro _; rfl) :
    JS X (.Assign [.Name y py] (.ListComp elt [⟨tg, iter, ifs, 0⟩] scope pos) spos) (tAsg (tLc wi g tt te (own.map (·.2))) (gName i)) (aAsg (aLc wI ga u we (own.map (·.2))) (aGn i)) :=
  ⟨ps_setLc hc hN hy hyl hsw hi.pi ok (fun a b c d e => (hg a b c d e).pg) (fun a b c d e => (ht a b c d e).pts) (fun a b c d e => (he a b c d e).pe) hs,
   snd_asg (snd_lc hi.snd (hg X.s_0 X.H_0 0 [] []).snd ho (ht X.s_0 X.H_0 0 [] []).snd (he X.s_0 X.H_0 0 [] []).snd) snd_gn⟩
end
end Ww
/-! W10: a def's promise. -/
namespace Ww
open PySem PySem.Spec PyProof.Rows L2
/-! ### the own cells of a def fall away -/
/-- a cell that tells of the first n only -/
def slLt (n : Nat) : Sl → Bool
  | .d _ => true
  | .m k => decide (k < n)
def Cl (n : Nat) : Cell → Bool
  | .lst l => l.all (slLt n)
  | .dic _ l => l.all (slLt n)
  | .ins _ _ l => l.all (slLt n)
  | .frz _ => true
def Keep (μ μ' : Mu) : Prop := μ.length ≤ μ'.length ∧ ∀ (j : Nat) (c : Cell), j < μ.length → μ'[j]? = some c → μ[j]? = some c ∨ Cl μ.length c = true
theorem Keep.app (μ ν : Mu) : Keep μ (μ ++ ν) := ⟨by simp, fun j c h e => by rw [List.getElem?_append_left h] at e; exact .inl e⟩
theorem Keep.refl (μ : Mu) : Keep μ μ := ⟨Nat.le_refl _, fun j c h e => .inl e⟩
theorem reps_lt {K : Fg} {F : Hp} {as : List Addr} : ∀ {l : List Sl} {vs : List V}, RepSs K F as l vs → l.all (slLt as.length) = true
  | _, _, .nil => rfl
  | s :: l, _, .cons h t => by
    rw [List.all_cons, reps_lt t, Bool.and_true]
    cases s with
    | d x => rfl
    | m k => obtain ⟨a, h1, _⟩ := h; exact decide_eq_true (List.getElem?_eq_some_iff.mp h1).1
theorem cell_cl {K : Fg} {F H : Hp} {as : List Addr} {a : Addr} {c : Cell} (h : CellAt K F H as a c) : Cl as.length c = true := by
  cases c with
  | lst l => obtain ⟨_, vs, _, h⟩ := h; exact reps_lt h
  | dic ks l => obtain ⟨_, vs, _, _, h⟩ := h; exact reps_lt h
  | ins C ns l => obtain ⟨_, dx, vs, _, _, h⟩ := h; exact reps_lt h
  | frz x => rfl
theorem reps_take {K : Fg} {F : Hp} {as : List Addr} {n : Nat} : ∀ {l : List Sl} {vs : List V}, RepSs K F as l vs → l.all (slLt n) = true → RepSs K F (as.take n) l vs
  | _, _, .nil, _ => .nil
  | s :: l, _, .cons h t, q => by
    rw [List.all_cons, Bool.and_eq_true] at q
    refine .cons ?_ (reps_take t q.2)
    cases s with
    | d x => exact h
    | m k =>
      obtain ⟨a, h1, h2⟩ := h
      have hk : k < n := of_decide_eq_true q.1
      exact ⟨a, by rw [List.getElem?_take_of_lt hk]; exact h1, h2⟩
theorem cell_take {K : Fg} {F H : Hp} {as : List Addr} {a : Addr} {c : Cell} {n : Nat} (h : CellAt K F H as a c) (q : Cl n c = true) : CellAt K F H (as.take n) a c := by
  cases c with
  | lst l => obtain ⟨h1, vs, h2, h⟩ := h; exact ⟨h1, vs, h2, reps_take h q⟩
  | dic ks l => obtain ⟨h1, vs, h2, h3, h⟩ := h; exact ⟨h1, vs, h2, h3, reps_take h q⟩
  | ins C ns l => obtain ⟨h1, dx, vs, h2, h3, h⟩ := h; exact ⟨h1, dx, vs, h2, h3, reps_take h q⟩
  | frz x => exact h
/-- the memory with the first cells only -/
theorem Mem.shed {K : Fg} {F H F' H' : Hp} {μ μ' : Mu} {as as' : List Addr} (M : Mem K F H μ as) (M' : Mem K F' H' μ' as') (L : Later F H as F' H' as') (k : Keep μ μ') :
    Mem K F' H' (μ'.take μ.length) as ∧ Later F H as F' H' as := by
  have e : as'.take μ.length = as := by
    obtain ⟨r, er⟩ := L.pre
    rw [← er, ← M.len, List.take_left]
  refine ⟨⟨M'.sub, ?_, M.nd, fun a h => M'.ex a (L.pre.subset h), fun j c a h1 h2 => ?_⟩, ⟨L.sub, List.prefix_refl as, L.others, fun a h n => absurd h n, L.frzn⟩⟩
  · rw [List.length_take, Nat.min_eq_left k.1, M.len]
  · have hj : j < μ.length := by rw [← M.len]; exact (List.getElem?_eq_some_iff.mp h2).1
    rw [List.getElem?_take_of_lt hj] at h1
    have c1 := M'.at_ j c a h1 (L.at_ h2)
    have cl : Cl μ.length c = true := by
      rcases k.2 j c hj h1 with z | z
      · have := cell_cl (M.at_ j c a z h2)
        rwa [M.len] at this
      · exact z
    have z := cell_take c1 cl
    rw [e] at z
    exact z
/-! ### the rule -/
def startR (n : Nat) (ss : List Sl) : Rho := ss.map some ++ List.replicate (n - ss.length) none
theorem env_start {K : Fg} {F : Hp} {as : List Addr} {N : List Str} {ss : List Sl} {vs : List V} (r : RepSs K F as ss vs) : EnvR K F as (L2.start N vs) (startR N.length ss) := by
  have hl := paired_len r
  refine ⟨?_, fun i s e => ?_⟩
  · unfold startR L2.start
    rw [List.length_append, List.length_append, List.length_map, List.length_map, List.length_replicate, List.length_replicate, hl]
  · unfold startR at e
    unfold L2.start
    by_cases hi : i < ss.length
    · rw [List.getElem?_append_left (by simpa using hi), List.getElem?_map] at e
      rw [List.getElem?_append_left (by simp; omega), List.getElem?_map]
      obtain ⟨s', e1, e2⟩ := Option.map_eq_some_iff.mp e
      cases e2
      obtain ⟨v, g1, g2⟩ := paired_get r e1
      exact ⟨v, by rw [g1]; rfl, g2⟩
    · rw [List.getElem?_append_right (by simpa using hi), List.getElem?_replicate] at e
      split at e <;> cases e
/-- ends of a body whose own cells fall away -/
def bEnds (μ : Mu) (k : Sl → Mu → Prop) : AEnds where
  nx := fun _ μ' => Keep μ μ' ∧ k (.d .non) (μ'.take μ.length)
  rt := fun s μ' => ∃ d, s = .d d ∧ Keep μ μ' ∧ k (.d d) (μ'.take μ.length)
/-- .. whose cells stay -/
def cEnds (k : Sl → Mu → Prop) : AEnds where
  nx := fun _ μ' => k (.d .non) μ'
  rt := k
/-- what a body does at its arguments -/
def bodySp (n m : Nat) (a : AS) : ASp := fun ss μ k => ss.length = m ∧ a (bEnds μ k) (startR n ss) μ
def bodySpC (n m : Nat) (a : AS) : ASp := fun ss μ k => ss.length = m ∧ a (cEnds k) (startR n ss) μ
section
variable {P : Program} {w : World} {K : Fg} {mg : Str → Option Value} {base : Heap} {x qual : Str} {params : Arguments} {body : List Stmt} {scope : Scope} {dvs : List V} {kws : List (Str × V)} {f : Addr} {fd : FuncData}
/-- the contexts in which a body of the text is read -/
abbrev bX (P : Program) (w : World) (K : Fg) (mg : Str → Option Value) (base : Heap) (N : List Str) (qual : Str) (scope : Scope) (f : Addr) (cdv : Value) (A : Around) (outer : List Env) (s : Shared) (H : Hp) (E : XK) : Cx :=
  (cxOf CX0 P w K mg base N qual scope f cdv A outer s H E).nox
/-- THE RULE -/
theorem fn_ok {N ps : List Str} {k : Nat} {S : ASp} {t : TS} {a : AS} (Fn : FunD K x qual params body scope dvs kws f fd) (Sc : FnScope N ps scope)
    (hb : ∀ cdv A outer s H E, Room k (A.deeper (envOfC qual scope s.heap.objs.size f cdv)) → JSs (bX P w K mg base N qual scope f cdv A outer s H E) body t a)
    (hS : ∀ ss μ k, S ss μ k → bodySp N.length ps.length a ss μ k) : FnOk P w K mg base CX0 (k + 1) f fd ps (spOf K S) := by
  refine Fn.ok Sc (fun vs H Q E h => ?_) fun cdv A outer s H vs Q E hr h => ?_
  · obtain ⟨F, μ, as, ss, k', M, r, h, hQ⟩ := h
    rw [← (hS ss μ k' h).1]
    exact (paired_len r).symm
  · obtain ⟨F, μ, as, ss, k', M, r, h, hQ⟩ := h
    have J := hb cdv A outer s H E hr
    refine ⟨t, J.pss.nox, J.snd M (env_start r) (hS ss μ k' h).2 ⟨fun F' H' σ' ρ' μ' as' L M' E' q => ?_, fun F' H' μ' as' s v L M' r' q => ?_, fun _ _ _ _ _ _ _ _ _ q => q, fun _ _ _ _ _ _ _ _ _ q => q⟩⟩
    · obtain ⟨M2, L2⟩ := M.shed M' L q.1
      exact hQ F' H' _ as (.d .non) .non L2 M2 reps_non q.2
    · obtain ⟨d, rfl, kp, q⟩ := q
      obtain ⟨M2, L2⟩ := M.shed M' L kp
      exact hQ F' H' _ as (.d d) v L2 M2 r' q
theorem fn_okC {N ps : List Str} {k : Nat} {S : ASp} {t : TS} {a : AS} (Fn : FunD K x qual params body scope dvs kws f fd) (Sc : FnScope N ps scope)
    (hb : ∀ cdv A outer s H E, Room k (A.deeper (envOfC qual scope s.heap.objs.size f cdv)) → JSs (bX P w K mg base N qual scope f cdv A outer s H E) body t a)
    (hS : ∀ ss μ k, S ss μ k → bodySpC N.length ps.length a ss μ k) : FnOk P w K mg base CX0 (k + 1) f fd ps (spOf K S) := by
  refine Fn.ok Sc (fun vs H Q E h => ?_) fun cdv A outer s H vs Q E hr h => ?_
  · obtain ⟨F, μ, as, ss, k', M, r, h, hQ⟩ := h
    rw [← (hS ss μ k' h).1]
    exact (paired_len r).symm
  · obtain ⟨F, μ, as, ss, k', M, r, h, hQ⟩ := h
    have J := hb cdv A outer s H E hr
    exact ⟨t, J.pss.nox, J.snd M (env_start r) (hS ss μ k' h).2 ⟨fun F' H' σ' ρ' μ' as' L M' E' q => hQ F' H' _ _ (.d .non) .non L M' reps_non q, fun F' H' μ' as' s v L M' r' q => hQ F' H' _ _ s v L M' r' q, fun _ _ _ _ _ _ _ _ _ q => q, fun _ _ _ _ _ _ _ _ _ q => q⟩⟩
end
end Ww
/-! W11: calls of defs, more built-ins. -/
namespace Ww
open PySem PySem.Spec PyProof.Rows L2
/-! ### a def of the text, by its datum -/
structure Cal (P : Program) (w : World) (K : Fg) (mg : Str → Option Value) (base : Heap) (d : He.DefD) (f : Addr) (n : Nat) (ps : List Str) (S : ASp) : Prop where
  ex : ∃ fd, FunD K d.name d.qual d.params d.body d.scope (d.dvs K) (d.kws K) f fd ∧ FnOk P w K mg base CX0 n f fd ps (spOf K S)
/-- no defaults: its arguments bind -/
def Bd (d : He.DefD) (ps : List Str) : Prop := d.dfl = [] ∧ ∀ (kV doc pm : Value) (an : Option Addr) (cdv ct : Value) (us : List Value), us.length = ps.length → bindArgs (PySem.W.fnOf d.name d.qual d.params d.body d.scope .none kV doc pm an cdv ct) ⟨us, []⟩ = pure (ps.zip us)
theorem Bd.binds {K : Fg} {d : He.DefD} {ps : List Str} {f : Addr} {fd : FuncData} (b : Bd d ps) (F : FunD K d.name d.qual d.params d.body d.scope (d.dvs K) (d.kws K) f fd) : Binds K fd ps [] := by
  have e : d.dvs K = [] := by unfold He.DefD.dvs; rw [b.1]; rfl
  rw [e] at F
  exact F.bindsN b.2
section
variable {X : Cx} {e e1 e2 e3 : Expr} {t ta tb tc : TE} {w wa wb wc : AE} {pos p : Pos} {es : List Expr} {tr tk : TA} {wr wk : AA} {x : Str} {d : He.DefD} {n m : Nat} {ps : List Str} {S : ASp}
theorem j_callC {f : Addr} (c : Cal X.prog X.w X.K X.mg X.base d f n ps S) (h1 : X.mg d.name = some (.ref f)) (b : Bd d ps) (hr : Room m X.A) (hn : n ≤ m) (hg : Gl X d.name) (ha : JA X (e :: es) tr wr) (hdb : (d.name == ("__debug__" : Str)) = false := by decide)
    (he : starEach (e :: es) X.env = (false, eval e X.env) :: starEach es X.env := by rfl) (hpl : (backTo pos (starEach es X.env)).any (·.1) = false := by rfl) :
    JE X (.Call (.Name d.name p) (e :: es) [] pos) (tCall (spOf X.K S) [] E0 tr) (aCall S wr) := by
  obtain ⟨fd, h2, h3⟩ := c.ex
  exact j_call h3 (hr.mono hn) hg h1 h2.kp (b.binds h2) ha hdb he hpl
/-! ### f(k = v, ..) -/
structure JK (X : Cx) (kws : List Keyword) (t : TA) (w : AA) : Prop where
  pk : PK X kws t
  snd : SndA X.K t w
theorem jk_nil : JK X [] tNil aNil := ⟨pk_nil, fun M E h hQ => hQ _ _ _ _ _ _ .refl M .nil h⟩
theorem jk_cons {nm : Option Str} {kpos : Pos} {kws : List Keyword} (h : JE X e t w) (hr : JK X kws tr wr) : JK X (⟨nm, e, kpos⟩ :: kws) (tCons t tr) (aCons w wr) := ⟨pk_cons h.pe hr.pk, by
  intro F H σ ρ μ as k Q M E q hQ
  refine h.snd M E q fun F1 H1 μ1 as1 x v L1 M1 r1 h1 => ?_
  exact hr.snd M1 (E.later L1) h1 fun F2 H2 μ2 as2 xs vs L2 M2 r2 h2 => hQ _ _ _ _ _ _ (L1.trans L2) M2 (.cons (r1.later L2) r2) h2⟩
/-- the values, in the sequence in which they are written, taken to the parameters' places -/
def perm {α : Type} (is : List Nat) (xs : List α) : List α := is.filterMap fun i => xs[i]?
theorem perm_paired {α β : Type} {R : α → β → Prop} {xs : List α} {ys : List β} (h : Paired R xs ys) : ∀ is : List Nat, Paired R (perm is xs) (perm is ys)
  | [] => .nil
  | i :: is => by
    have ih := perm_paired h is
    unfold perm at ih ⊢
    rw [List.filterMap_cons, List.filterMap_cons]
    cases q : xs[i]? with
    | some a =>
      obtain ⟨b, h1, h2⟩ := paired_get h q
      rw [h1]
      exact .cons h2 ih
    | none =>
      have : ys[i]? = none := by
        have hl := paired_len h
        rw [List.getElem?_eq_none_iff] at q ⊢
        omega
      rw [this]
      exact ih
/-- keywords named ks, put by is into the parameters' places -/
def Kd (d : He.DefD) (ps ks : List Str) (is : List Nat) : Prop := d.dfl = [] ∧ ∀ (kV doc pm : Value) (an : Option Addr) (cdv ct : Value) (ws : List Value), ws.length = ks.length →
  bindArgs (PySem.W.fnOf d.name d.qual d.params d.body d.scope .none kV doc pm an cdv ct) ⟨[], ks.zip ws⟩ = pure (ps.zip (perm is ws))
def tKw (m : Nat) (sp : Sp) (is : List Nat) (tk : TA) : TE := fun σ H Q => tk σ H fun zs H2 => zs.length = m ∧ sp (perm is zs) H2 Q E0
def aKw (m : Nat) (S : ASp) (is : List Nat) (w : AA) : AE := fun ρ μ k => w ρ μ fun ss μ1 => ss.length = m ∧ S (perm is ss) μ1 k
theorem j_callK {f : Addr} {kws : List Keyword} {ks : List Str} {is : List Nat} (c : Cal X.prog X.w X.K X.mg X.base d f n ps S) (h1 : X.mg d.name = some (.ref f)) (b : Kd d ps ks is) (hr : Room m X.A) (hn : n ≤ m) (hg : Gl X d.name) (hk : JK X kws tk wk) (hdb : (d.name == ("__debug__" : Str)) = false := by decide)
    (hall : (backToKw pos (keywordEach kws X.env)).all (·.1.isSome) = true := by rfl) (hks : (backToKw pos (keywordEach kws X.env)).filterMap (·.1) = ks := by rfl)
    (hpl : ((backTo pos (starEach [] X.env)).any (·.1) || (backToKw pos (keywordEach kws X.env)).any (·.1.isNone)) = false := by rfl) :
    JE X (.Call (.Name d.name p) [] kws pos) (tKw ks.length (spOf X.K S) is tk) (aKw ks.length S is wk) := by
  obtain ⟨fd, h2, h3⟩ := c.ex
  have e0 : d.dvs X.K = [] := by unfold He.DefD.dvs; rw [b.1]; rfl
  refine ⟨⟨fun pins s σ H Q I h => ?_⟩, ?_⟩
  · refine wpAny_Call_Name_kw (ld_glob I hg h1 ?_ hdb)
    refine PySem.W.callWith_KW0 (h₀ := X.base) I.ok.mod.kin h2.kp hall ?_ hpl
    refine thn (hk.pk.run pos pins s σ H _ I h) fun ws s2 ⟨zs, H2, I2, rz, l2, q2⟩ => ⟨I2.kIn, ?_⟩
    rw [hks]
    have lw : ws.length = ks.length := rz.length.symm.trans l2
    have r2 : Vals (perm is zs) (perm is ws) := perm_paired rz is
    have hb : BindsTo s2 fd ⟨[], ks.zip ws⟩ (ps.zip (perm is ws)) := by
      obtain ⟨oc, od, dV, kV, doc, pm, an, cdv, ct, osl, rfl, lk, hcd, hD, hK⟩ := h2.ex
      rw [e0] at hD
      rcases hD with ⟨_, rfl⟩ | ⟨e, _⟩
      · exact .of_eq (b.2 kV doc pm an cdv ct ws lw)
      · exact absurd rfl e
    refine wpAny_call (codeAny_mono (h3.run X.A X.stack s2 H2 ⟨[], ks.zip ws⟩ (perm is ws) (perm is zs) Q E0 (hr.mono hn) I2.env0 hb r2 q2) fun r s' hq => ?_)
    cases r with
    | error e => exact pass0 pins σ H2 s2 e s' I2 hq
    | ok fl =>
      cases fl with
      | ret u => exact I2.after hq
      | next => exact False.elim hq
      | brk => exact False.elim hq
      | cont => exact False.elim hq
  · intro F H σ ρ μ as k Q M E q hQ
    refine hk.snd M E q fun F1 H1 μ1 as1 xs vs L1 M1 r1 h1 => ?_
    exact ⟨(paired_len r1).symm.trans h1.1, F1, μ1, as1, _, k, M1, perm_paired r1 is, h1.2, fun F2 H2 μ2 as2 s v L2 M2 r2 h2 => hQ _ _ _ _ _ _ (L1.trans L2) M2 r2 h2⟩
/-! ### constants of the module -/
theorem j_gl {v : V} {d : D} (hg : Gl X x) (h : ∃ u, X.mg x = some u ∧ RelV v u) (hr : ∀ F : Hp, Rep X.K F d v) (hd : (x == ("__debug__" : Str)) = false := by decide) : JE X (.Name x pos) (tC v) (aC d) := by
  obtain ⟨u, h1, h2⟩ := h
  exact j_glob hg h1 h2 hr hd
/-- a module's tuple of texts, ints: known without the heap -/
theorem j_glt {a : Addr} {vs : List V} {ds : List D} (hg : Gl X x) (h : X.mg x = some (.ref a)) (ht : ∀ H : Hp, SqT X.K H a vs) (hr : ∀ F : Hp, RepL X.K F ds vs) (hd : (x == ("__debug__" : Str)) = false := by decide) : JE X (.Name x pos) (tC (.ref a)) (aC (.tup ds)) :=
  j_glob (v := .ref a) hg h rfl (fun F => ⟨a, vs, rfl, ht F, hr F⟩) hd
/-- a class of the module -/
theorem j_cls {C : Addr} (hg : Gl X x) (h : X.mg x = some (.ref C)) (hd : (x == ("__debug__" : Str)) = false := by decide) : JE X (.Name x pos) (tC (.ref C)) (aC (.cls C)) :=
  j_glob (v := .ref C) hg h rfl (fun F => (show V.ref C = V.ref C from rfl)) hd
/-! ### a list times a number -/
def rRepL2 : R2 := fun x y H Q => ∃ l k xs, x = .ref l ∧ y = .int k ∧ Rd H l (.lst xs) ∧ -(2 ^ 63) ≤ k ∧ k < 2 ^ 63 ∧ xs.length * k.toNat ≤ sizeLine ∧ ∀ p, H p = none → Q (.ref p) (upd H p (.lst (List.replicate k.toNat xs).flatten))
theorem op_repL : OpR X (binaryOp .Mult) rRepL2 := by
  intro pins s σ H x y v u Q I rx ry h
  obtain ⟨l, k, xs, rfl, rfl, hH, h1, h2, hz, q⟩ := h
  cases rx
  obtain ⟨t, rfl⟩ := ry
  obtain ⟨z, its, n, r, hl, e⟩ := lst_at I hH
  have hlen : its.toArray.size * k.toNat ≤ sizeLine := by rw [List.size_toArray, ← hl]; exact hz
  have hcap : ¬ its.toArray.size * k.toNat > (2 ^ 63 - 1) / 8 := by
    have : (sizeLine : Nat) ≤ (2 ^ 63 - 1) / 8 := by decide
    omega
  have hfit : ¬ (!Builtin.List.listFitsIndex k) = true := by
    rw [fitsIndex_both h1 h2]
    exact Bool.false_ne_true
  have hlong : ¬ Builtin.List.listTooLong (its.toArray.size * k.toNat) = true := by
    rw [notLongL hlen]
    exact Bool.false_ne_true
  have hnew : List.foldl (fun x1 x2 => x1 ++ x2) #[] (List.replicate (if its.toArray.isEmpty = true then 0 else k.toNat) its.toArray) = (List.replicate k.toNat its).flatten.toArray := by
    have f0 : ∀ m : Nat, List.foldl (fun x1 x2 => x1 ++ x2) #[] (List.replicate m its.toArray) = (List.replicate m its).flatten.toArray := fun m => by
      have := foldl_rep its m []
      rw [List.nil_append] at this
      exact this
    rw [f0]
    cases its with
    | nil => simp
    | cons a r' => rw [if_neg (by simp)]
  refine wpAny_binaryOp_repeat_ref (T := "list") (U := "int") (by decide) ⟨_, e, rfl⟩ (fun s' => typeIs_int s' k t) noFill_list_mul F.fills_int_mul F.slot_int_rmul repeat_list F.slot_int_index.lookup
    (call_meets F.slot_int_rmul (typeIs_int s k t) F.entry_int_rmul (F.args_int_rmul_2 _ _) (int___rmul___int_list k t l its.toArray n)
      ⟨e, rfl, ⟨_, e, rfl⟩, call_meets F.slot_list_mul ⟨_, e, rfl⟩ F.entry_list_mul (F.args_list_mul_2 _ _) (AutoListH.list___mul___list_int_3 l its.toArray n k t hfit hcap hlong) ⟨e, ?_⟩⟩)
  rw [hnew]
  exact ⟨.ref _, _, I.lnew (t' := s.toks) (r.rep k.toNat) (by rw [PyProof.Rows.lm_len_rep_flat, Nat.mul_comm]; exact hz), rfl, q _ I.fresh⟩
def rMulA : R2 := fun x y H Q => rI CMul (fun i j => .int (i * j)) x y H Q ∨ rRepL2 x y H Q
theorem snd_mul {K : Fg} : SndR K rMulA (rd2 fMul) := by
  intro F H μ as x y v u k Q M r1 r2 h hQ
  obtain ⟨a, b, h1, h2, h⟩ := rd2_elim h
  have q1 := rd_ok M r1 h1
  have q2 := rd_ok M r2 h2
  unfold fMul at h
  split at h
  · exact .inl ⟨_, _, q1, q2, h.1, hQ _ _ _ _ (.d (.int _)) _ .refl M reps_int h.2⟩
  · obtain ⟨p, vs, rfl, g1, g2⟩ := q1
    obtain ⟨c1, c2, c3, c4⟩ := h
    exact .inr ⟨p, _, vs, rfl, q2, g1, by omega, c3, by rw [g2.len]; exact c2, snd_new M (d := .lst _) (fun q F' e sb => ⟨q, _, rfl, .inl e, (g2.mono' sb).rep _⟩) c4 hQ⟩
  · exact h.elim
theorem j_mul (ha : JE X e ta wa) (hb : JE X e2 tb wb) : JE X (.BinOp e .Mult e2 pos) (tOp rMulA ta tb) (aOp (rd2 fMul) wa wb) := j_op (op_mul.or op_repL) snd_mul ha hb
/-! ### extend -/
def rExtL : V → List V → Hp → VK → Prop := fun x vs H Q => ∃ l b xs zs, x = .ref l ∧ vs = [.ref b] ∧ H l = some (.lst xs) ∧ Rd H b (.lst zs) ∧ xs.length + zs.length ≤ sizeLine ∧ Q .non (upd H l (.lst (xs ++ zs)))
theorem mt_extL : MtR X "list.extend" rExtL := by
  intro pins s σ H x vs v us Q I rx rv h
  obtain ⟨l, b, xs, zs, rfl, rfl, hH, hB, hz, q⟩ := h
  cases rx
  obtain ⟨u, rfl, ru⟩ := rv.one
  cases ru
  obtain ⟨z, its, n, r, hl, e⟩ := I.lstM hH
  obtain ⟨z2, its2, n2, r2, hl2, e2⟩ := lst_at I hB
  have hsz : its.toArray.size + its2.toArray.size ≤ sizeLine := by rw [List.size_toArray, List.size_toArray]; omega
  have hlong : ¬ (!its.toArray.isEmpty && Builtin.List.listTooLong (its.toArray.size + its2.toArray.size)) = true := by
    rw [notLongL hsz, Bool.and_false]
    exact Bool.false_ne_true
  refine call_meets F.slot_list_extend ⟨_, e, rfl⟩ F.entry_list_extend (F.args_list_extend_2 _ _)
    (AutoSeq1.list_extend_list_list_0 l its.toArray n b its2.toArray n2 hlong (by rw [List.size_toArray]; omega) (by omega)) ⟨e, e2, ?_⟩
  refine ⟨.non, _, I.lset (its' := its ++ its2) hH e (by simp) (r.append r2) ?_, rfl, q⟩
  rw [List.length_append]; omega
theorem snd_extend {K : Fg} : SndM K "list" rExtL gExtend := by
  intro F H μ as y u xs vs k Q M r rs h hQ
  unfold gExtend at h
  split at h
  · rename_i ds
    obtain ⟨j, l, a, us, rfl, ha, rfl, fa, h2, h3, h4, h5⟩ := cellL_elim M r h
    cases rs with
    | cons r1 r2 =>
      cases r2
      obtain ⟨b, zs, rfl, g1, g2⟩ := id r1
      obtain ⟨M', L⟩ := M.put (c := .lst _) (o := .lst (us ++ zs)) ha fa ⟨fa, _, upd_same, paired_app h3 (ds_reps g2)⟩
      exact ⟨a, b, us, zs, rfl, rfl, h2, M.sub.rd g1, by rw [← paired_len h3, g2.len]; exact h4, hQ _ _ _ _ (.d .non) _ L M' reps_non h5⟩
  · exact h.elim
section
variable {name : Str} {apos cpos : Pos} {o : Expr} {to : TE} {wo : AE}
theorem j_extend (ho : JE X o to wo) (ha : JA X [e] tr wr) (hbase : attributeBase o "extend" X.env (eval o X.env) = eval o X.env := by rfl)
    (hfew : ((backTo cpos (starEach [e] X.env)).all (fun x => !x.1) && (backToKw cpos (keywordEach [] X.env)).all (fun x => x.1.isSome)
      && decide ([e].length + ([] : List Keyword).length + (if ([] : List Keyword).isEmpty then 0 else 1) < 30)) = true := by rfl)
    (hline : (apos.endLine == cpos.line) = true := by rfl) (hse : starEach [e] X.env = (false, eval e X.env) :: starEach [] X.env := by rfl) (hplain : (backTo cpos (starEach [] X.env)).any (·.1) = false := by rfl) :
    JE X (.Call (.Attribute o "extend" apos) [e] [] cpos) (tBM X.K "list" rExtL to tr) (aBM gExtend wo wr) := j_bm PySem.F.slot_list_extend PySem.F.type_list_extend mt_extL snd_extend ho ha hbase hfew hline hse hplain
/-- pop -/
theorem mt_popU : MtR X "list.pop" rPopU := MtR.or mt_pop mt_popAt
theorem j_pop0 (ho : JE X o to wo) (hbase : attributeBase o "pop" X.env (eval o X.env) = eval o X.env := by rfl) (hline : (apos.endLine == cpos.line) = true := by rfl) :
    JE X (.Call (.Attribute o "pop" apos) [] [] cpos) (tBM0 X.K "list" rPopU to) (aBM0 gPop wo) := j_bm0 PySem.F.slot_list_pop PySem.F.type_list_pop mt_popU snd_pop ho hbase hline
theorem j_pop (ho : JE X o to wo) (ha : JA X [e] tr wr) (hbase : attributeBase o "pop" X.env (eval o X.env) = eval o X.env := by rfl)
    (hfew : ((backTo cpos (starEach [e] X.env)).all (fun x => !x.1) && (backToKw cpos (keywordEach [] X.env)).all (fun x => x.1.isSome)
      && decide ([e].length + ([] : List Keyword).length + (if ([] : List Keyword).isEmpty then 0 else 1) < 30)) = true := by rfl)
    (hline : (apos.endLine == cpos.line) = true := by rfl) (hse : starEach [e] X.env = (false, eval e X.env) :: starEach [] X.env := by rfl) (hplain : (backTo cpos (starEach [] X.env)).any (·.1) = false := by rfl) :
    JE X (.Call (.Attribute o "pop" apos) [e] [] cpos) (tBM X.K "list" rPopU to tr) (aBM gPop wo wr) := j_bm PySem.F.slot_list_pop PySem.F.type_list_pop mt_popU snd_pop ho ha hbase hfew hline hse hplain
/-! ### index: texts in a list, in a tuple -/
def txts : List D → Option (List Str)
  | [] => some []
  | .str x :: r => (txts r).map (x :: ·)
  | _ :: _ => none
theorem txts_ok {K : Fg} {F : Hp} : ∀ {ds : List D} {vs : List V} {ys : List Str}, RepL K F ds vs → txts ds = some ys → vs = ys.map V.str
  | [], _, _, h, e => by cases e; rw [show _ = [] from h]; rfl
  | .str b :: ds, _, bs, ⟨v, r, h1, h2, h3⟩, e => by
    obtain ⟨cs, e1, rfl⟩ := Option.map_eq_some_iff.mp (show (txts ds).map (b :: ·) = some bs from e)
    subst h1
    have e2 : v = .str b := h2
    rw [e2, txts_ok h3 e1]
    rfl
  | .non :: _, _, _, _, e => by cases e
  | .int _ :: _, _, _, _, e => by cases e
  | .bl _ :: _, _, _, _, e => by cases e
  | .tup _ :: _, _, _, _, e => by cases e
  | .tpl _ :: _, _, _, _, e => by cases e
  | .lst _ :: _, _, _, _, e => by cases e
  | .dic _ _ :: _, _, _, _, e => by cases e
  | .ins _ _ _ :: _, _, _, _, e => by cases e
  | .ty _ :: _, _, _, _, e => by cases e
  | .cls _ :: _, _, _, _, e => by cases e
theorem txts_map (ys : List Str) : txts (ys.map D.str) = some ys := by
  induction ys with
  | nil => rfl
  | cons y r ih => show (txts (r.map D.str)).map (y :: ·) = _; rw [ih]; rfl
/-- the first place of z -/
def FirstAt (ys : List Str) (z : Str) (j : Nat) : Prop := ys[j]? = some z ∧ ∀ m, m < j → ys[m]? ≠ some z
/-- index: a text in a tuple that has no dict, in a list -/
def gIndexT : AR3 := fun μ y xs k => match y, xs with
  | .d (.tpl l), [.d (.str z)] => ∃ ys j, txts l = some ys ∧ FirstAt ys z j ∧ k (.d (.int (j : Nat))) μ
  | _, _ => False
def rIndexT (K : Fg) : V → List V → Hp → VK → Prop := fun x xs H Q => ∃ (p : Addr) (o : Obj) (ys : List Str) (z : Str) (j : Nat), x = .ref p ∧ xs = [.str z] ∧ H p = some (.frz o (.tup (ys.map V.str))) ∧ (o.cls = .type "tuple" ∧ o.dict = none) ∧ FirstAt ys z j ∧ Q (.int (j : Nat)) H
def tIndexT (K : Fg) (to : TE) (t : TA) : TE := fun σ H Q => to σ H fun x H1 => (∃ (p : Addr) (o : Obj) (xs : List V), x = .ref p ∧ H1 p = some (.frz o (.tup xs)) ∧ (o.cls = .type "tuple" ∧ o.dict = none)) ∧ t σ H1 fun xs H2 => rIndexT K x xs H2 Q
theorem j_indexT (ho : JE X o to wo) (ha : JA X [e] tr wr) (hbase : attributeBase o "index" X.env (eval o X.env) = eval o X.env := by rfl)
    (hfew : ((backTo cpos (starEach [e] X.env)).all (fun x => !x.1) && (backToKw cpos (keywordEach [] X.env)).all (fun x => x.1.isSome)
      && decide ([e].length + ([] : List Keyword).length + (if ([] : List Keyword).isEmpty then 0 else 1) < 30)) = true := by rfl)
    (hline : (apos.endLine == cpos.line) = true := by rfl) (hse : starEach [e] X.env = (false, eval e X.env) :: starEach [] X.env := by rfl) (hplain : (backTo cpos (starEach [] X.env)).any (·.1) = false := by rfl) :
    JE X (.Call (.Attribute o "index" apos) [e] [] cpos) (tIndexT X.K to tr) (fun ρ μ k => wo ρ μ fun y μ1 => (∃ l, y = .d (.tpl l)) ∧ wr ρ μ1 fun xs μ2 => gIndexT μ2 y xs k) := by
  refine ⟨⟨fun pins s σ H Q I h => ?_⟩, ?_⟩
  · refine wpAny_Call_method_late hbase hfew hline rfl (thn (ho.pe.run pins s σ H _ I h) fun v s1 ⟨x, H1, I1, r1, ty, q1⟩ => ?_)
    obtain ⟨p, ob, xs, rfl, hp, hc, hd⟩ := ty
    cases r1
    have hg : s1.heap.get? p = some ob := (I1.hok p _ hp).1
    refine ⟨"tuple", "tuple.index", PySem.F.plainAttrs_tuple, PySem.F.slot_tuple_index, PySem.F.type_tuple_index, ⟨ob, hg, hc⟩, fun a e => ?_, ?_⟩
    · cases e
      exact ⟨ob, hg, hd⟩
    · have hA := ha.pa.run cpos pins s1 σ H1 _ I1 q1
      rw [hse] at hA ⊢
      refine Calls.callWith_builtin (by show (false || (backTo cpos (starEach [] X.env)).any (·.1)) = false; rw [hplain] <;> rfl) (Calls.evalArgs_plain ?_)
      refine thn hA fun us s2 ⟨vs, H2, I2, r2, p2, o2, ys, z, j, e1, e2, h1, h2, h3, q2⟩ => ?_
      cases e1
      exact mt_tup_index pins s2 σ H2 (.ref p) vs (.ref p) us Q I2 rfl r2 ⟨p, ys, z, j, rfl, e2, .inl (.inr ⟨o2, h1⟩), h3.1, h3.2, q2⟩
  · intro F H σ ρ μ as k Q M E q hQ
    refine ho.snd M E q fun F1 H1 μ1 as1 y u L1 M1 r1 h1 => ?_
    obtain ⟨⟨l, rfl⟩, h1⟩ := h1
    obtain ⟨a, vs, ob, rfl, g1, g2, g3⟩ := id r1
    refine ⟨⟨a, ob, vs, rfl, M1.sub _ _ g1, g2⟩, ?_⟩
    refine ha.snd M1 (E.later L1) h1 fun F2 H2 μ2 as2 xs us L2 M2 r2 h2 => ?_
    unfold gIndexT at h2
    split at h2
    · rename_i l' z hl
      cases hl
      obtain ⟨ys, j, e1, e2, h2⟩ := h2
      cases r2 with
      | cons r2 r3 =>
        cases r3
        have e3 : _ = V.str z := r2
        subst e3
        have e4 := txts_ok g3 e1
        subst e4
        exact ⟨a, ob, ys, z, j, rfl, rfl, M2.sub _ _ (L2.sub _ _ g1), g2, e2, hQ _ _ _ _ (.d (.int _)) _ (L1.trans L2) M2 reps_int h2⟩
    · exact h2.elim
/-- tuple(x) that has no dict -/
def fTupC (s : Sl) (μ : Mu) (k : Sl → Mu → Prop) : Prop := match s with
  | .d (.tpl l) => k (.d (.tpl l)) μ
  | .d (.tup l) => k (.d (.tup l)) μ
  | s => (match rdD μ s with
    | some (.lst l) => k (.d (.tpl l)) μ
    | _ => False)
def gTupC : AR1 := fun μ xs k => match xs with
  | [s] => fTupC s μ k
  | _ => False
def rTupC (K : Fg) : List V → Hp → VK → Prop := fun xs H Q => ∃ p, xs = [.ref p] ∧ ((∃ ys, SqL K H p ys ∧ ∀ l o, H l = none → (o.cls = .type "tuple" ∧ o.dict = none) → Q (.ref l) (upd H l (.frz o (.tup ys)))) ∨ (∃ ys, SqT K H p ys ∧ Q (.ref p) H))
theorem call_tupC : CallR X (.type "tuple") (rTupC X.K) := by
  intro pins s σ H xs us Q I r h
  obtain ⟨p, rfl, h⟩ := h
  obtain ⟨u, rfl, r1⟩ := r.one
  cases r1
  rcases h with ⟨ys, hs, q⟩ | ⟨ys, hs, q⟩
  · obtain ⟨its, rv, pl, hz⟩ := I.list hs
    refine call_tuple_list pl.isList (fun h' hk => ?_) (by rw [List.size_toArray, ← rv.length]; exact hz)
    have I1 : Inv X pins σ H { s with heap := h' } := I.kept (t' := s.toks) hk
    have I2 : Inv X pins σ (upd H h'.objs.size (.frz { cls := .type "tuple", data := .seq its.toArray } (.tup ys))) { s with heap := h'.push { cls := .type "tuple", data := .seq its.toArray } } :=
      I1.laid (t' := s.toks) (fun b o e => Heap.get?_push_of_some _ e) (Nat.le_refl _) ⟨Heap.get?_push_size _ rfl, show ObjOk X.prog X.w _ _ _ (.tup ys) from ⟨hz, its, rv, IsTup.new _ _⟩⟩
    exact ⟨.ref h'.objs.size, _, I2, rfl, q _ _ (I1.hok.fresh (Nat.le_refl _)) ⟨rfl, rfl⟩⟩
  · obtain ⟨its, rv, pl, hz⟩ := I.tuple hs
    exact call_tuple_tup pl ⟨.ref p, H, I, rfl, q⟩
theorem snd_tupC {K : Fg} : SndC K (rTupC K) gTupC := by
  intro F H μ as xs vs k Q M r h hQ
  unfold gTupC at h
  split at h
  · rename_i s
    cases r with
    | cons r1 r2 =>
      cases r2
      unfold fTupC at h
      split at h
      · obtain ⟨a, us, o, rfl, g1, g2, g3⟩ := id r1
        exact ⟨a, rfl, .inr ⟨us, M.sub.sqT (.inl (.inr ⟨o, g1⟩)), hQ _ _ _ _ (.d (.tpl _)) _ .refl M r1 h⟩⟩
      · obtain ⟨a, us, rfl, g1, g3⟩ := id r1
        exact ⟨a, rfl, .inr ⟨us, M.sub.sqT g1, hQ _ _ _ _ (.d (.tup _)) _ .refl M r1 h⟩⟩
      · split at h
        · rename_i l e
          obtain ⟨p, us, rfl, g1, g2⟩ := rd_ok M r1 e
          exact ⟨p, rfl, .inl ⟨us, .inl g1, fun p' o hp ho => snd_new M (d := .tpl _) (fun p' F' e sb => ⟨p', us, o, rfl, e, ho, g2.mono' sb⟩) h hQ p' hp⟩⟩
        · exact h.elim
  · exact h.elim
theorem c_tupC : CalJ X (.type "tuple") (rTupC X.K) gTupC := ⟨call_tupC, snd_tupC⟩
end
end
end Ww
/-! W12: short words for the printed derivations. -/
namespace Ww
open PySem PySem.Spec PyProof.Rows L2
theorem hu1_of {A : Around} {k : Nat} (hr : Room k A) : A.units + 1 < cLine := by have := hr.un; omega
theorem hu64_of {A : Around} {k : Nat} (hr : Room k A) : A.units + 64 < cLine := by have := hr.un; omega
theorem hu65_of {A : Around} {k : Nat} (hr : Room k A) : A.units + 65 < cLine := by have := hr.un; omega
/-- a property's getter -/
def propAt (K : Fg) (x m : Str) : Addr := match PySem.W.findIn K (.ref (He.ga K x)) m with
  | some (some (.ref p)) => (match PySem.W.recIn K p "property" with
    | some (.ref g :: _) => g
    | _ => 0)
  | _ => 0
abbrev aIndexT (wo : AE) (wr : AA) : AE := fun ρ μ k => wo ρ μ fun y μ1 => (∃ l, y = .d (.tpl l)) ∧ wr ρ μ1 fun xs μ2 => gIndexT μ2 y xs k
section
variable {X : Cx} {e e1 e2 e3 : Expr} {t ta tb tc : TE} {w wa wb wc : AE} {pos p : Pos} {es : List Expr} {tr tk : TA} {wr wk : AA} {x : Str}
/-- -e -/
def aNeg (w : AE) : AE := fun ρ μ k => w ρ μ fun s μ1 => match rdD μ1 s with
  | some (.int i) => k (.d (.int (-i))) μ1
  | _ => False
theorem j_neg (h : JE X e t w) : JE X (.UnaryOp .USub e pos) (tUn (rU fun i => .int (-i)) t) (aNeg w) := ⟨pe_un un_neg h.pe, by
  intro F H σ ρ μ as k Q M E q hQ
  refine h.snd M E q fun F1 H1 μ1 as1 s v L1 M1 r1 q1 => ?_
  split at q1
  · rename_i i e1
    exact ⟨i, rd_ok M1 r1 e1, hQ _ _ _ _ (.d (.int _)) _ L1 M1 reps_int q1⟩
  · exact q1.elim⟩
/-- three local names -/
def aPar3 (i j l : Nat) (w : AA) : AS := fun A ρ μ => w ρ μ fun ss μ1 => match ss with
  | [s, s', s''] => A.nx (((ρ.set i (some s)).set j (some s')).set l (some s'')) μ1
  | _ => False
theorem js_par3 (i j l : Nat) {y z u : Str} {px py pz pt : Pos} {kt k2 pt2} (hc : X.calm = true) (hN : X.N.Nodup) (ha : JA X [e1, e2, e3] tr wr) (hi : X.N[i]? = some y := by rfl) (hj : X.N[j]? = some z := by rfl) (hl : X.N[l]? = some u := by rfl) (hij : i ≠ j := by decide) (hil : i ≠ l := by decide) (hjl : j ≠ l := by decide)
    (hx : X.env.scope.names.lookup y = some .local := by rfl) (hy : X.env.scope.names.lookup z = some .local := by rfl) (hz : X.env.scope.names.lookup u = some .local := by rfl)
    (hw : swappedStores [.Tuple [.Name y px, .Name z py, .Name u pz] kt pt] (.Tuple [e1, e2, e3] k2 pt2) X.env = pure (some [y, z, u]) := by rfl)
    (hs : swapsWithSole [.Tuple [.Name y px, .Name z py, .Name u pz] kt pt] (.Tuple [e1, e2, e3] k2 pt2) pos.line X.env = pure false := by rfl) :
    JS X (.Assign [.Tuple [.Name y px, .Name z py, .Name u pz] kt pt] (.Tuple [e1, e2, e3] k2 pt2) pos) (tPar3 i j l tr) (aPar3 i j l wr) := ⟨ps_par3 hc hN hi hj hl hij hil hjl hx hy hz ha.pa hw hs, by
  intro F H σ ρ μ as A D M E q k
  refine ha.snd M E q fun F1 H1 μ1 as1 ss vs L1 M1 r1 q1 => ?_
  split at q1
  · cases r1 with
    | cons r1 r2 => cases r2 with
      | cons r2 r3 => cases r3 with
        | cons r3 r4 =>
          cases r4
          exact ⟨_, _, _, rfl, k.nx _ _ _ _ _ _ L1 M1 ((((E.later L1).set i r1).set j r2).set l r3) q1⟩
  · exact q1.elim⟩
/-- list(range(n)) -/
def aListRg1 (w : AE) : AE := fun ρ μ k => w ρ μ fun s μ1 => match rdD μ1 s with
  | some (.int n) => (0 ≤ n ∧ n ≤ 16777216) ∧ k (.d (.lst ((List.range n.toNat).map fun i => .int (i : Nat)))) μ1
  | _ => False
theorem repL_range {K : Fg} {F : Hp} (n : Nat) : RepL K F ((List.range n).map fun i => D.int (i : Nat)) ((List.range n).map fun i => V.int (i : Nat)) := by
  generalize List.range n = l
  induction l with
  | nil => rfl
  | cons a r ih => exact ⟨_, _, rfl, rep_int, ih⟩
theorem j_listRg1 {p2 pos2 : Pos} (hc : X.calm = true) (hg : Gl X "list") (hm : X.mg "list" = none) (hg2 : Gl X "range") (hm2 : X.mg "range" = none) (h : JE X e t w)
    (na : starEach [e] X.env = (false, eval e X.env) :: starEach [] X.env := by rfl) (na2 : starEach [.Call (.Name "range" p2) [e] [] pos2] X.env = (false, eval (.Call (.Name "range" p2) [e] [] pos2) X.env) :: starEach [] X.env := by rfl) :
    JE X (.Call (.Name "list" p) [.Call (.Name "range" p2) [e] [] pos2] [] pos) (tLstRg (tRg1 t)) (aListRg1 w) := ⟨pe_listRg hc hg hm (prg_1 hg2 hm2 h.pe na) na2, by
  intro F H σ ρ μ as k Q M E q hQ
  refine h.snd M E q fun F1 H1 μ1 as1 s v L1 M1 r1 q1 => ?_
  split at q1
  · rename_i n e1
    refine ⟨n, rd_ok M1 r1 e1, RgOk.of_le (by omega) q1.1.2 (by omega) q1.1.1, ?_⟩
    have e2 : rgV 0 n = (List.range n.toNat).map fun i => V.int (i : Nat) := by unfold rgV; simp
    rw [e2]
    exact snd_new M1 (d := .lst _) (fun p' F' e sb => ⟨p', _, rfl, .inl e, repL_range _⟩) q1.2 fun F2 H2 μ2 as2 s v L2 M2 r3 h3 => hQ _ _ _ _ _ _ (L1.trans L2) M2 r3 h3
  · exact q1.elim⟩
/-- min of two -/
def fMin : D → D → (Sl → Mu → Prop) → Mu → Prop
  | .int i, .int j, k, μ => k (.d (.int (if j < i then j else i))) μ
  | _, _, _, _ => False
def rMin2 : List V → Hp → VK → Prop := fun xs H Q => ∃ i j, xs = [.int i, .int j] ∧ Q (.int (if j < i then j else i)) H
theorem c_min (hc : X.calm = true) : CalJ X (.builtin "min") rMin2 (on2 fMin) := ⟨call_min2 hc, by
  intro F H μ as xs vs k Q M r h hQ
  obtain ⟨v, d, v', d', rfl, g, g', h⟩ := on2_elim M r h
  unfold fMin at h
  split at h
  · have e1 : v = .int _ := g
    have e2 : v' = .int _ := g'
    subst e1 e2
    exact ⟨_, _, rfl, hQ _ _ _ _ (.d (.int _)) _ .refl M reps_int h⟩
  · exact h.elim⟩
/-! ### lists that become cells -/
def gAddC : AR2 := fun μ x y k => match rdD μ x, rdD μ y with
  | some (.lst a), some (.lst b) => a.length + b.length ≤ sizeLine ∧ k (.m μ.length) (μ ++ [.lst ((a ++ b).map .d)])
  | _, _ => False
theorem j_addC (ha : JE X e ta wa) (hb : JE X e2 tb wb) : JE X (.BinOp e .Add e2 pos) (tOp (rAddU X.K) ta tb) (aOp gAddC wa wb) := j_op (op_add.or (op_add_str.or (op_catL.or op_catA))) (by
  intro F H μ as x y v u k Q M r1 r2 h hQ
  unfold gAddC at h
  split at h
  · rename_i a b h1 h2
    obtain ⟨p, vs, rfl, g1, g2⟩ := rd_ok M r1 h1
    obtain ⟨p', vs', rfl, g1', g2'⟩ := rd_ok M r2 h2
    exact .inr (.inr (.inl ⟨p, p', vs, vs', rfl, rfl, g1, g1', by rw [g2.len, g2'.len]; exact h.1, snd_newC M (ds_reps (g2.app g2')) h.2 hQ⟩))
  · exact h.elim) ha hb
end
end Ww
/-! W13: attributes, instances, dict cells, lists from comprehensions that become cells. -/
namespace Ww
open PySem PySem.Spec PyProof.Rows L2
section
variable {X : Cx} {e e1 e2 e3 : Expr} {t ta tb tc : TE} {w wa wb wc : AE} {pos p : Pos} {es : List Expr} {tr tk : TA} {wr wk : AA} {x : Str} {d : He.DefD} {n m lv : Nat} {ps : List Str} {S : ASp} {C : Addr} {f : Str}
/-! ### e.f -/
def fldD {α : Type} (f : Str) : List Str → List α → Option α
  | g :: gs, v :: vs => if g = f then some v else fldD f gs vs
  | _, _ => none
theorem fld_ok {α β : Type} {R : α → β → Prop} {f : Str} : ∀ {l : List α} {fs : List (Str × β)} {a : α}, Paired R l (fs.map (·.2)) → fldD f (fs.map (·.1)) l = some a → ∃ b, fs.lookup f = some b ∧ R a b
  | [], [], _, _, h => by cases h
  | a :: l, (g, b) :: fs, a', .cons h1 h2, h => by
    have h' : (if g = f then some a else fldD f (fs.map (·.1)) l) = some a' := h
    by_cases q : g = f
    · rw [if_pos q] at h'
      cases h'
      exact ⟨b, by rw [List.lookup_cons, q, beq_self_eq_true], h1⟩
    · rw [if_neg q] at h'
      obtain ⟨b', g1, g2⟩ := fld_ok h2 h'
      refine ⟨b', ?_, g2⟩
      rw [List.lookup_cons, show (f == g) = false from beq_eq_false_iff_ne.mpr fun e => q e.symm]
      exact g1
def aFld (C : Addr) (f : Str) (w : AE) : AE := fun ρ μ k => w ρ μ fun s μ1 => match s with
  | .d (.ins C' ns ds) => C' = C ∧ (match fldD f ns ds with
    | some d => k (.d d) μ1
    | none => False)
  | _ => False
theorem repL_paired {K : Fg} {F : Hp} : ∀ {ds : List D} {vs : List V}, RepL K F ds vs → Paired (Rep K F) ds vs
  | [], _, h => by rw [show _ = [] from h]; exact .nil
  | d :: ds, _, ⟨v, r, h1, h2, h3⟩ => by rw [h1]; exact .cons h2 (repL_paired h3)
theorem j_fld (c : Cls X.K C) (hn : NoAttr X.K C f) (h : JE X e t w) (hb : attributeBase e f X.env (eval e X.env) = eval e X.env := by rfl) : JE X (.Attribute e f pos) (tFld X.K t f) (aFld C f w) := ⟨pe_fld h.pe hb, by
  intro F H σ ρ μ as k Q M E q hQ
  refine h.snd M E q fun F1 H1 μ1 as1 s v L1 M1 r1 q1 => ?_
  split at q1
  · rename_i C' ns ds
    obtain ⟨rfl, q2⟩ := q1
    obtain ⟨a, dx, fs, rfl, g1, g2, g3⟩ := id r1
    split at q2
    · rename_i d e1
      subst g2
      obtain ⟨b, h1, h2⟩ := fld_ok (repL_paired g3) e1
      exact ⟨a, _, dx, fs, b, rfl, M1.sub _ _ g1, c, hn, h1, hQ _ _ _ _ (.d d) _ L1 M1 h2 q2⟩
    · exact q2.elim
  · exact q1.elim⟩
/-- e.f, a property of the class -/
theorem j_propC {g : Addr} {m : Str} (c : Cal X.prog X.w X.K X.mg X.base d g n ps S) (cl : Cls X.K C) (b : Bd d ps) (hp : ∃ pa, PropOf X.K C m pa g) (hr : Room lv X.A) (hn : n + 1 ≤ lv) (ha : JE X e t w)
    (hab : attributeBase e m X.env (eval e X.env) = eval e X.env := by rfl) : JE X (.Attribute e m pos) (tProp C (spOf X.K S) [] E0 t) (aProp S C w) := by
  obtain ⟨fd, h2, h3⟩ := c.ex
  obtain ⟨pa, hp⟩ := hp
  exact j_prop ha cl hp h3 (hr.mono hn) (b.binds h2) hab
/-! ### e.f = ., among several targets -/
def gFld (K : Fg) (ta : TE) (f : Str) : TG := fun v σ H Q => ta σ H fun x H1 => ∃ a C dx fs, x = .ref a ∧ H1 a = some (.ins C dx fs) ∧ Cls K C ∧ NoAttr K C f ∧ fs.length < 1000 ∧ Q σ (upd H1 a (.ins C dx (putF f v fs)))
theorem pg_attr (ho : PE X e t) (ha : ∀ v, assign (.Attribute e f pos) X.env v = (do
      let ov ← holding [v] (eval e X.env)
      standAt pos.atName
      holding [v, ov] (setAttr ov f v)
      release [v, ov] []) := by intro _; rfl) : PG X (.Attribute e f pos) (gFld X.K t f) := by
  refine ⟨fun pins s σ H v u Q I r h => ?_⟩
  rw [ha]
  refine wpAny_bind (wpAny_holding (thn (ho.run pins s σ H _ I h) fun ov s1 ⟨x, H1, I1, r1, a, C, dx, fs, ex, ea, c, nn, l, q1⟩ => ?_))
  subst ex
  obtain rfl : ov = Value.ref a := r1
  refine wpAny_bind (wpAny_standAt (wpAny_bind (wpAny_holding (setattr_ok I1 ea c nn l r fun s3 I3 => ?_))))
  exact wpAny_release ⟨σ, _, I3, q1⟩
def putD {α : Type} (f : Str) (v : α) : List Str → List α → List Str × List α
  | g :: gs, x :: xs => if g = f then (g :: gs, v :: xs) else (g :: (putD f v gs xs).1, x :: (putD f v gs xs).2)
  | _, _ => ([f], [v])
theorem putD_ok {α β : Type} {R : α → β → Prop} {f : Str} {a : α} {b : β} (hr : R a b) : ∀ {l : List α} {fs : List (Str × β)}, Paired R l (fs.map (·.2)) → ∀ {putG : List (Str × β) → List (Str × β)},
    (putG [] = [(f, b)]) → (∀ g x r, putG ((g, x) :: r) = if g = f then (g, b) :: r else (g, x) :: putG r) → (putG fs).map (·.1) = (putD f a (fs.map (·.1)) l).1 ∧ Paired R (putD f a (fs.map (·.1)) l).2 ((putG fs).map (·.2))
  | [], [], _, putG, h0, h1 => by rw [h0]; exact ⟨rfl, .cons hr .nil⟩
  | x :: l, (g, y) :: fs, .cons p q, putG, h0, h1 => by
    rw [h1]
    have ih := putD_ok hr q h0 h1
    show (if g = f then _ else _ : List (Str × β)).map _ = (if g = f then _ else _ : List Str × List α).1 ∧ Paired R (if g = f then _ else _ : List Str × List α).2 _
    by_cases e : g = f
    · rw [if_pos e, if_pos e]; exact ⟨rfl, .cons hr q⟩
    · rw [if_neg e, if_neg e]
      exact ⟨by rw [List.map_cons, ih.1], .cons p ih.2⟩
def aGfld (C : Addr) (f : Str) (w : AE) : AG := fun s ρ μ k => w ρ μ fun y μ1 => match y with
  | .m j => (match μ1[j]? with
    | some (.ins C' ns vs) => C' = C ∧ ns.length < 1000 ∧ k ρ (μ1.set j (.ins C (putD f s ns vs).1 (putD f s ns vs).2))
    | _ => False)
  | _ => False
theorem jg_fld (c : Cls X.K C) (hn : NoAttr X.K C f) (h : JE X e t w) (ha : ∀ v, assign (.Attribute e f pos) X.env v = (do
      let ov ← holding [v] (eval e X.env)
      standAt pos.atName
      holding [v, ov] (setAttr ov f v)
      release [v, ov] []) := by intro _; rfl) : JG X (.Attribute e f pos) (gFld X.K t f) (aGfld C f w) := ⟨pg_attr h.pe ha, by
  intro F H σ ρ μ as s v k Q M E r q hQ
  refine h.snd M E q fun F1 H1 μ1 as1 y u L1 M1 r1 q1 => ?_
  split at q1
  · rename_i j
    split at q1
    · rename_i C' ns vs e1
      obtain ⟨rfl, hl, q2⟩ := q1
      obtain ⟨a, h1, rfl⟩ := r1
      obtain ⟨fa, dx, fs, g1, g2, g3⟩ := M1.at_ j _ a e1 h1
      subst g2
      obtain ⟨p1, p2⟩ := putD_ok (R := RepS X.K F1 as1) (f := f) (r.later L1) g3 (putG := putF f v) rfl (fun _ _ _ => rfl)
      obtain ⟨M2, L2⟩ := M1.put (c := .ins _ (putD f s (fs.map (·.1)) vs).1 (putD f s (fs.map (·.1)) vs).2) (o := .ins _ dx (putF f v fs)) h1 fa ⟨fa, dx, _, upd_same, p1, p2⟩
      exact ⟨a, _, dx, fs, rfl, g1, c, hn, by simpa using hl, hQ _ _ _ _ _ _ (L1.trans L2) M2 (E.later (L1.trans L2)) q2⟩
    · exact q1.elim
  · exact q1.elim⟩
/-! ### a new instance -/
theorem Mem.ghost {K : Fg} {F H : Hp} {μ : Mu} {as : List Addr} {q : Addr} {o : HO} (M : Mem K F H μ as) (h : H q = none) : Mem K F (upd H q o) μ as ∧ Later F H as F (upd H q o) as := by
  have fp : F q = none := M.sub.free h
  have pn : q ∉ as := fun z => M.ex q z h
  have L : Later F H as F (upd H q o) as := ⟨Sub.refl F, List.prefix_refl as, fun a o e _ => by rw [upd_ne (ne_of_none e h)]; exact e, fun a q n => absurd q n, fun _ _ _ f => f⟩
  refine ⟨⟨fun a o e => ?_, M.len, M.nd, fun a z => ?_, fun k c a h1 h2 => ?_⟩, L⟩
  · rw [upd_ne (ne_of_none e fp)]; exact M.sub a o e
  · rw [upd_ne (fun e : a = q => pn (e ▸ z))]; exact M.ex a z
  · have ha : a ∈ as := List.mem_of_getElem? h2
    exact (M.at_ k c a h1 h2).later L (fun f => f) fun o e => by rw [upd_ne (fun z : a = q => pn (z ▸ ha))]; exact e
/-- what is to hold behind __init__: the instance is data from now on, the def's own cells fall away -/
def made (μ : Mu) (k : Sl → Mu → Prop) : Sl → Mu → Prop := fun s μ' => s = .d .non ∧ ∃ d μ'', freeze μ' (.m μ.length) = some (d, μ'') ∧ Keep μ μ'' ∧ k (.d d) (μ''.take μ.length)
def aMakeD (S : ASp) (C : Addr) (dd : List D) (w : AA) : AE := fun ρ μ k => w ρ μ fun ss μ1 => S (.m μ1.length :: (ss ++ dd.map .d)) (μ1 ++ [.ins C [] []]) (made μ1 k)
theorem snd_make {K : Fg} {dvs : List V} {dd : List D} (hd : ∀ F : Hp, RepL K F dd dvs) (h : SndA K tr wr) : SndE K (tMake C (spOf K S) dvs E0 tr) (aMakeD S C dd wr) := by
  intro F H σ ρ μ as k Q M E q hQ
  refine h M E q fun F1 H1 μ1 as1 xs vs L1 M1 r1 h1 => ?_
  intro xa dx hx hdx hne
  obtain ⟨Mg, Lg⟩ := M1.ghost (o := .own xa) hdx
  have hx2 : (upd H1 dx (.own xa)) xa = none := by rw [upd_ne (fun e => hne e.symm)]; exact hx
  obtain ⟨M2, L2⟩ := Mg.cell (p := xa) (o := .ins C dx []) (c := .ins C [] []) hx2 fun as' _ => ⟨Mg.sub.free hx2, dx, [], upd_same, rfl, .nil⟩
  have LL := Lg.trans L2
  have hat : (as1 ++ [xa])[μ1.length]? = some xa := by rw [← M1.len]; simp
  refine ⟨F1, μ1 ++ [.ins C [] []], as1 ++ [xa], .m μ1.length :: (xs ++ dd.map .d), made μ1 k, M2, .cons ⟨xa, hat, rfl⟩ (paired_app (RepSs.later LL r1) (ds_reps (hd F1))), h1, fun F3 H3 μ3 as3 s v L3 M3 r3 h3 => ?_⟩
  obtain ⟨rfl, d, μ4, e4, kp, h4⟩ := h3
  have r3 : v = .non := r3
  refine ⟨r3, ?_⟩
  obtain ⟨F4, M4, L4, r4⟩ := freeze_ok M3 (s := .m μ1.length) (v := .ref xa) ⟨xa, L3.at_ hat, rfl⟩ e4
  obtain ⟨M5, L5⟩ := M1.shed M4 ((LL.trans L3).trans L4) kp
  exact hQ _ _ _ as1 (.d d) _ (L1.trans L5) M5 r4 h4
/-- C(e, ..), nothing filled up -/
abbrev tMake0 (K : Fg) (x : Str) (S : ASp) (tr : TA) : TE := tMake (He.ga K x) (spOf K S) [] E0 tr
/-- C(e, ..), the defaults dd filled up -/
theorem j_makeD {g : Addr} {dvs : List V} {dd : List D} (c : Cal X.prog X.w X.K X.mg X.base d g n ps S) (b : ∀ fd, FunD X.K d.name d.qual d.params d.body d.scope (d.dvs X.K) (d.kws X.K) g fd → ∃ ds, Vals dvs ds ∧ Binds X.K fd ps ds) (hd : ∀ F : Hp, RepL X.K F dd dvs)
    (mk : Mk X.K C g) (hm : X.mg x = some (.ref C)) (hr : Room lv X.A) (hn : n + 1 ≤ lv) (hg : Gl X x) (ha : JA X (e :: es) tr wr) (hdb : (x == ("__debug__" : Str)) = false := by decide)
    (he : starEach (e :: es) X.env = (false, eval e X.env) :: starEach es X.env := by rfl) (hpl : (backTo pos (starEach es X.env)).any (·.1) = false := by rfl) :
    JE X (.Call (.Name x p) (e :: es) [] pos) (tMake C (spOf X.K S) dvs E0 tr) (aMakeD S C dd wr) := by
  obtain ⟨fd, h2, h3⟩ := c.ex
  obtain ⟨ds, v1, v2⟩ := b fd h2
  exact ⟨pe_make mk h3 (hr.mono hn) hg hm v2 v1 pass0 ha.pa hdb he hpl, snd_make hd ha.snd⟩
/-! ### dict cells -/
def putK2 {α : Type} (k : Key) (v : α) (ks : List Key) (vs : List α) : List Key × List α :=
  if (ks.any fun z => decide (z = k)) = true then (ks, (ks.zip vs).map fun q => if q.1 = k then v else q.2) else (ks ++ [k], vs ++ [v])
theorem putK2_ok {α β : Type} {R : α → β → Prop} {k : Key} {a : α} {b : β} (hr : R a b) {l : List α} {kvs : List (Key × β)} (h : Paired R l (kvs.map (·.2))) {r : List (Key × β)}
    (he : r = if (kvs.any fun kv => decide (kv.1 = k)) = true then kvs.map (fun kv => if kv.1 = k then (kv.1, b) else kv) else kvs ++ [(k, b)]) :
    r.map (·.1) = (putK2 k a (kvs.map (·.1)) l).1 ∧ Paired R (putK2 k a (kvs.map (·.1)) l).2 (r.map (·.2)) := by
  subst he
  unfold putK2
  have e1 : ((kvs.map (·.1)).any fun z => decide (z = k)) = kvs.any fun kv => decide (kv.1 = k) := by rw [List.any_map]; rfl
  rw [e1]
  by_cases c : (kvs.any fun kv => decide (kv.1 = k)) = true
  · rw [if_pos c, if_pos c]
    refine ⟨?_, ?_⟩
    · rw [List.map_map]
      refine List.map_congr_left fun q _ => ?_
      show (if q.1 = k then (q.1, b) else q).1 = q.1
      by_cases z : q.1 = k
      · rw [if_pos z]
      · rw [if_neg z]
    · clear e1 c
      induction kvs generalizing l with
      | nil => cases h; exact .nil
      | cons q r ih =>
        cases h with
        | cons h1 h2 =>
          refine .cons ?_ (ih h2)
          show R (if q.1 = k then a else _) (if q.1 = k then (q.1, b) else q).2
          by_cases z : q.1 = k
          · rw [if_pos z, if_pos z]; exact hr
          · rw [if_neg z, if_neg z]; exact h1
  · rw [if_neg c, if_neg c]
    exact ⟨by rw [List.map_append]; rfl, by rw [List.map_append]; exact paired_app h (.cons hr .nil)⟩
def keyD : D → Option Key
  | .int i => some (.inl i)
  | .str x => some (.inr x)
  | _ => none
def aDPut (wo wi wv : AE) : AS := fun A ρ μ => wv ρ μ fun s μ1 => wo ρ μ1 fun y μ2 => wi ρ μ2 fun i μ3 => match y, i with
  | .m j, .d x => (match μ3[j]?, keyD x with
    | some (.dic ks vs), some k => ks.length < 1000 ∧ A.nx ρ (μ3.set j (.dic (putK2 k s ks vs).1 (putK2 k s ks vs).2))
    | _, _ => False)
  | _, _ => False
theorem js_dput {pos' : Pos} (hu : X.A.units + 1 < cLine) (ho : JE X e ta wa) (hi : JE X e1 tb wb) (hv : JE X e2 tc wc) (hs : swapsWith e2 (some (.Subscript e e1 pos')) pos.line X.env = pure false := by rfl) :
    JS X (.Assign [.Subscript e e1 pos'] e2 pos) (sDPut ta tb tc) (aDPut wa wb wc) := ⟨ps_dput hu ho.pe hi.pe hv.pe hs, by
  intro F H σ ρ μ as A D M E q k
  refine hv.snd M E q fun F1 H1 μ1 as1 s v L1 M1 r1 q1 => ?_
  refine ho.snd M1 (E.later L1) q1 fun F2 H2 μ2 as2 y u L2 M2 r2 q2 => ?_
  refine hi.snd M2 (E.later (L1.trans L2)) q2 fun F3 H3 μ3 as3 i z L3 M3 r3 q3 => ?_
  split at q3
  · rename_i j x
    split at q3
    · rename_i ks vs key e1 e2
      obtain ⟨a, h1, rfl⟩ := r2
      have h1 := L3.at_ h1
      obtain ⟨fa, kvs, g1, g2, g3⟩ := M3.at_ j _ a e1 h1
      subst g2
      have ez : z = kV key := by
        cases x with
        | int i => cases e2; exact r3
        | str x => cases e2; exact r3
        | _ => cases e2
      subst ez
      obtain ⟨p1, p2⟩ := putK2_ok (R := RepS X.K F3 as3) (k := key) (a := s) (b := v) (r1.later (L2.trans L3)) g3 (r := putK kvs key v) rfl
      obtain ⟨M4, L4⟩ := M3.put (c := .dic (putK2 key s (kvs.map (·.1)) vs).1 (putK2 key s (kvs.map (·.1)) vs).2) (o := .dK (putK kvs key v)) h1 fa ⟨fa, _, upd_same, p1, p2⟩
      have hl : kvs.length < sizeLine := Nat.lt_of_lt_of_le (by simpa using q3.1) (by decide)
      refine ⟨a, _, rfl, DPut.k g1 hl, k.nx _ _ _ _ _ _ (((L1.trans L2).trans L3).trans L4) M4 (E.later (((L1.trans L2).trans L3).trans L4)) q3.2⟩
    · exact q3.elim
  · exact q3.elim⟩
/-! ### lists from comprehensions, as cells -/
theorem Way.cell {K : Fg} {F H : Hp} {μ : Mu} {as : List Addr} {Dl : Addr} {acc : List D} {F0 H0 : Hp} {as0 : List Addr} (w : Way K F H μ as Dl acc) (L : Later F0 H0 as0 F H as) (h0 : H0 Dl = none) :
    Mem K F H (μ ++ [.lst (acc.map .d)]) (as ++ [Dl]) ∧ Later F0 H0 as0 F H (as ++ [Dl]) := by
  obtain ⟨vs, h1, h2⟩ := w.at_
  have M := w.mem
  have pre : ∀ (k : Nat) (a : Addr), as[k]? = some a → (as ++ [Dl])[k]? = some a := fun k a h => by rw [List.getElem?_append_left (List.getElem?_eq_some_iff.mp h).1]; exact h
  refine ⟨⟨M.sub, by simp [M.len], ?_, fun a h => ?_, fun k c a g1 g2 => ?_⟩, ⟨L.sub, L.pre.trans (List.prefix_append as [Dl]), L.others, fun a h n => ?_, L.frzn⟩⟩
  · rw [List.nodup_append]
    exact ⟨M.nd, by simp, fun a h b h' => by rw [List.mem_singleton.mp h']; exact fun e => w.out (e ▸ h)⟩
  · rcases List.mem_append.mp h with h | h
    · exact M.ex a h
    · rw [List.mem_singleton.mp h, h1]; simp
  · by_cases hk : k < as.length
    · rw [List.getElem?_append_left hk] at g2
      rw [List.getElem?_append_left (by rw [← M.len]; exact hk)] at g1
      have c1 := M.at_ k c a g1 g2
      cases c with
      | lst l => obtain ⟨q1, us, q2, q3⟩ := c1; exact ⟨q1, us, q2, RepSs.pre pre q3⟩
      | dic ks l => obtain ⟨q1, us, q2, q4, q3⟩ := c1; exact ⟨q1, us, q2, q4, RepSs.pre pre q3⟩
      | ins C ns l => obtain ⟨q1, dx, us, q2, q4, q3⟩ := c1; exact ⟨q1, dx, us, q2, q4, RepSs.pre pre q3⟩
      | frz x => exact c1
    · have hk2 : k < (as ++ [Dl]).length := (List.getElem?_eq_some_iff.mp g2).1
      have ek : k = as.length := by simp at hk2; omega
      subst ek
      have e1 : (as ++ [Dl])[as.length]? = some Dl := by simp
      rw [e1] at g2
      have e2 : (μ ++ [Cell.lst (acc.map .d)])[as.length]? = some (Cell.lst (acc.map .d)) := by rw [M.len]; simp
      rw [e2] at g1
      cases g1
      cases g2
      exact ⟨w.free, vs, h1, ds_reps h2⟩
  · rcases List.mem_append.mp h with h | h
    · exact L.fresh a h n
    · rw [List.mem_singleton.mp h]; exact h0
def aLcC (wi : AIt) (g : AG) (u : AT) (we : AE) (vs : List Nat) : AE := fun ρ μ k => wi ρ μ fun ds μ1 => ∃ I : Nat → List D → Mu → Prop, I 0 [] μ1 ∧
  (∀ i d acc μ', ds[i]? = some d → I i acc μ' → g (.d d) (wipeR ρ vs) μ' fun ρ2 μ2 => u ρ2 μ2 fun b μ3 => if b = true then aFz we ρ2 μ3 fun s μ4 => ∃ y, s = .d y ∧ acc.length < sizeLine ∧ I (i + 1) (acc ++ [y]) μ4 else I (i + 1) acc μ3) ∧
  ∀ acc μ', I ds.length acc μ' → k (.m μ'.length) (μ' ++ [.lst (acc.map .d)])
theorem snd_lcC {K : Fg} {wi : TI} {wI : AIt} {gt : TG} {ga : AG} {tt : TT} {u : AT} {te : TE} {we : AE} {vs : List Nat} (hi : SndI K wi wI) (hg : SndG K gt ga) (ho : GOnly vs gt) (ht : SndT K tt u) (he : SndE K te we) :
    SndE K (tLc wi gt tt te vs) (aLcC wI ga u we vs) := by
  intro F H σ ρ μ as k Q M E q hQ
  refine hi M E q fun F1 H1 μ1 as1 J ds L1 M1 W z => ?_
  obtain ⟨I, i0, hs, hd⟩ := z
  obtain ⟨G, Y, h1, h2, h3⟩ := W
  intro Dl hD
  obtain ⟨w0, l0⟩ := Way.begin M1 hD
  refine L2.lc_it h1 (fun i H' => ∃ F' μ' as' acc, Later F1 H1 as1 F' H' as' ∧ Way K F' H' μ' as' Dl acc ∧ I i acc μ') ⟨F1, μ1, as1, [], l0, w0, i0⟩ ?_ ?_ ?_
  · rintro i H' _ ⟨F', μ', as', acc, L', w, _⟩
    exact h2 H' (L'.sub.trans w.mem.sub)
  · rintro i x H' H'' hlt ⟨F', μ', as', acc, L', w, i'⟩ y
    obtain ⟨d, ed⟩ : ∃ d, ds[i]? = some d := ⟨ds[i], by simp [hlt]⟩
    obtain ⟨F2, L2', M2, r2⟩ := WalkD.step L'.sub w.mem ed h3 y
    have w2 := w.step L2' M2
    have E0 := ((E.later (L1.trans (L'.trans L2')))).wipe vs
    refine ho.at_ (hg M2 E0 (s := .d d) r2 (hs i d acc μ' ed i') fun F3 H3 σ3 ρ3 μ3 as3 L3 M3 E3 z3 => ?_)
    refine ht M3 E3 z3 fun F4 H4 μ4 as4 b L4 M4 z4 => ?_
    have w4 := (w2.step L3 M3).step L4 M4
    cases b with
    | false =>
      refine iteF ?_
      exact ⟨F4, μ4, as4, acc, ((L'.trans L2').trans L3).trans L4, w4, z4⟩
    | true =>
      refine iteT ?_
      rw [if_pos rfl] at z4
      refine snd_fz he M4 (E3.later L4) z4 fun F5 H5 μ5 as5 s v L5 M5 r5 z5 => ?_
      obtain ⟨y, rfl, hlen, z6⟩ := z5
      have w5 := w4.step L5 M5
      obtain ⟨us, g1, g2, g3, g4⟩ := w5.put r5 ((((L'.trans L2').trans L3).trans L4).trans L5) hD
      exact ⟨us, g1, by rw [g2]; exact hlen, F5, μ5, as5, acc ++ [y], g4, g3, z6⟩
  · rintro H' ⟨F', μ', as', acc, L', w, i'⟩
    obtain ⟨M2, L2'⟩ := w.cell L' hD
    exact hQ _ _ _ _ (.m μ'.length) _ (L1.trans L2') M2 ⟨Dl, by rw [← w.mem.len]; simp, rfl⟩ (hd acc μ' i')
theorem js_setLcC (i : Nat) {y : Str} {py : Pos} {elt tg iter : Expr} {ifs : List Expr} {scope : Scope} {own : List (Str × Nat)} {pos spos : Pos} {wi : TI} {wI : AIt} {g : TG} {ga : AG} {tt : TT} {u : AT} {te : TE} {we : AE} (hc : X.calm = true) (hN : X.N.Nodup) (hi : JI X tg iter wi wI) (ok : BlkOk X.N X.env.scope scope own)
    (hg : ∀ (s : Shared) (H : Hp) (C : Addr) (cl : List (Str × Addr)) (fp : List Addr), JG (X.blk s H scope (compEnvC scope cl C X.env) fp) tg g ga) (ho : GOnly (own.map (·.2)) g)
    (ht : ∀ (s : Shared) (H : Hp) (C : Addr) (cl : List (Str × Addr)) (fp : List Addr), JTs (X.blk s H scope (compEnvC scope cl C X.env) fp) ifs tt u)
    (he : ∀ (s : Shared) (H : Hp) (C : Addr) (cl : List (Str × Addr)) (fp : List Addr), JE (X.blk s H scope (compEnvC scope cl C X.env) fp) elt te we)
    (hy : X.N[i]? = some y := by rfl) (hyl : X.env.scope.names.lookup y = some .local := by rfl) (hsw : swapsWith (.ListComp elt [⟨tg, iter, ifs, 0⟩] scope pos) (some (.Name y py)) spos.line X.env = pure true := by exact sw_true rfl rfl rfl rfl)
    (hs : ∀ x, foldedSetIterable iter X.env x = pure x := by intro _; rfl) :
    JS X (.Assign [.Name y py] (.ListComp elt [⟨tg, iter, ifs, 0⟩] scope pos) spos) (tAsg (tLc wi g tt te (own.map (·.2))) (gName i)) (aAsg (aLcC wI ga u we (own.map (·.2))) (aGn i)) :=
  ⟨ps_setLc hc hN hy hyl hsw hi.pi ok (fun a b c d e => (hg a b c d e).pg) (fun a b c d e => (ht a b c d e).pts) (fun a b c d e => (he a b c d e).pe) hs,
   snd_asg (snd_lcC hi.snd (hg X.s_0 X.H_0 0 [] []).snd ho (ht X.s_0 X.H_0 0 [] []).snd (he X.s_0 X.H_0 0 [] []).snd) snd_gn⟩
end
end Ww
/-! W14: len(set(xs)), any texts; a dict display. -/
namespace Ww
open PySem PySem.Spec PyProof.Rows L2
/-- the texts that a set has behind the first i -/
def metS (xs : List Str) : Nat → List Str
  | 0 => []
  | i + 1 => if (metS xs i).any (· == xs.getD i Str.empty) = true then metS xs i else metS xs i ++ [xs.getD i Str.empty]
theorem metS_le (xs : List Str) : ∀ i, (metS xs i).length ≤ i
  | 0 => Nat.le_refl _
  | i + 1 => by
    have := metS_le xs i
    unfold metS
    split
    · omega
    · rw [List.length_append]; show _ + 1 ≤ _; omega
theorem metS_nodup {xs : List Str} (h : xs.Nodup) : ∀ i, i ≤ xs.length → metS xs i = xs.take i
  | 0, _ => by simp [metS]
  | i + 1, hi => by
    have ih := metS_nodup h i (by omega)
    have hlt : i < xs.length := by omega
    have e : xs.getD i Str.empty = xs[i] := by simp [List.getD, hlt]
    unfold metS
    rw [ih, e, List.take_succ_eq_append_getElem hlt]
    refine if_neg fun z => ?_
    obtain ⟨x, hx, e2⟩ := List.any_eq_true.mp z
    obtain ⟨j, hj, e3⟩ := List.getElem_of_mem hx
    have e4 : x = xs[i] := beq_iff_eq.mp e2
    have hj2 : j < i := by rw [List.length_take] at hj; omega
    rw [List.getElem_take] at e3
    have := List.pairwise_iff_getElem.mp h j i (by omega) hlt hj2
    exact this (e3.trans e4)
abbrev nset (led : Bool) : Obj := { cls := .type "set", dict := none, data := .set #[] 0 (.fresh 0 0 led) }
section
variable {prog : Program} {w : World} {A : Around} {R : Result → Shared → Prop} {I : Addr} {fp wr : List Addr} {G : Array GenState → Array GenState → Prop} {n : Nat} {P : Nat → Value → Prop} {St : Nat → Shared → Prop}
theorem loopM (W : WalksS prog w A.in1 I fp wr G n P St) (S : Addr) (hSf : S ∉ fp) (xs : List Str) (hb : n + 1 < scanBound) (hval : ∀ i v, P i v → ∃ t, v = .str (xs.getD i Str.empty) t) :
    ∀ (k i : Nat) (s : Shared), n - i = k → i ≤ n → St i s → s.heap.SetOf (PySem.strKind prog w) S (fun z => (metS xs i).any (· == z)) (metS xs i).length →
      (∀ s', Moved (S :: wr) G s s' → s'.heap.SetOf (PySem.strKind prog w) S (fun z => (metS xs n).any (· == z)) (metS xs n).length → R (.ok (.ret .none)) s') → codeAny (model prog w) A (.builtin "set.update.loop" ⟨[.ref S, .ref I], []⟩) R s := by
  have hw : S ∉ wr := fun h => hSf (W.sub _ h)
  have hsub : ∀ b ∈ wr, b ∈ S :: wr := fun b hb => List.mem_cons_of_mem _ hb
  have stay : ∀ {m : Nat} {f : Str → Bool} {s s' : Shared}, Moved wr G s s' → s.heap.SetOf (PySem.strKind prog w) S f m → s'.heap.SetOf (PySem.strKind prog w) S f m := fun hm hS => by
    obtain ⟨o, es, ep, t, ho, rest⟩ := hS
    exact ⟨o, es, ep, t, hm.heap S _ hw ho, rest⟩
  intro k
  induction k with
  | zero =>
    intro i s hk hi hst hS hR
    obtain rfl : i = n := by omega
    refine codeAny_builtin PyProof.Rows.F.entry_set_update_loop ?_
    rw [Around.under_plainId PyProof.Rows.F.plain_set_update_loop _]
    show wpAny _ A.in1 (pyNext (.ref I) >>= _) _ _ s
    refine wpAny_bind (W.done s _ _ hst fun s' hm => ?_)
    show wpAny _ A.in1 (ret Value.none) _ _ s'
    exact wpAny_pure (hR s' (hm.mono hsub) (stay hm hS))
  | succ k ih =>
    intro i s hk hi hst hS hR
    have hlt : i < n := by omega
    refine codeAny_builtin PyProof.Rows.F.entry_set_update_loop ?_
    rw [Around.under_plainId PyProof.Rows.F.plain_set_update_loop _]
    show wpAny _ A.in1 (pyNext (.ref I) >>= _) _ _ s
    refine wpAny_bind (W.item i s _ _ hlt hst fun v s' hP hst' hm => ?_)
    obtain ⟨t, rfl⟩ := hval i v hP
    have hS1 := stay hm hS
    show wpAny _ A.in1 (holding [Value.str (xs.getD i Str.empty) t] (setAdd S (.str (xs.getD i Str.empty) t)) >>= _) _ _ s'
    refine wpAny_bind (wpAny_holding ?_)
    unfold setAdd
    refine wpAny_holding (wpAny_bind ((PySem.strKind prog w).pyHash (k := xs.getD i Str.empty) (strKind_is _ _ _ _) ?_))
    have room : (metS xs i).length + 1 < scanBound := by have := metS_le xs i; omega
    refine wpAny_setAddHashed_of (knd := PySem.strKind prog w) (s := { s' with toks := s'.toks + 1 }) (strKind_is _ _ _ _) rfl hS1 room fun h' hsb hS2 => ?_
    have hS3 : h'.SetOf (PySem.strKind prog w) S (fun z => (metS xs (i + 1)).any (· == z)) (metS xs (i + 1)).length := by
      refine SetOf_congr hS2 (fun z => ?_) ?_
      · show ((metS xs i).any (· == z) || decide (z = xs.getD i Str.empty)) = (if _ then _ else _ : List Str).any _
        split
        · rename_i q
          by_cases e : z = xs.getD i Str.empty
          · subst e; rw [q]; rfl
          · rw [decide_eq_false e, Bool.or_false]
        · rw [List.any_append]
          congr 1
          show decide _ = ((_ == z) || false)
          rw [Bool.or_false]
          by_cases e : z = xs.getD i Str.empty
          · subst e; simp
          · rw [decide_eq_false e]; exact (beq_eq_false_iff_ne.mpr fun q => e q.symm).symm
      · show (if _ then _ else _) = (if _ then _ else _ : List Str).length
        split <;> simp
    refine wpAny_pure ⟨plainId_quiet PyProof.Rows.F.plain_set_update_loop _, ih (i + 1) _ (by omega) hlt (W.frame _ s' _ _ hst' (Nat.le_succ _) fun b hb o e => ?_) hS3 fun s2 hm2 hS4 => ?_⟩
    · rw [hsb.2 b (fun h : b = S => hSf (by rw [← h]; exact hb))]; exact e
    · refine hR s2 (Moved.trans W.gtrans ((hm.mono hsub).then_heap (Nat.le_succ _) fun b o hb e => ?_) hm2) hS4
      rw [hsb.2 b (fun h : b = S => hb (by rw [h]; exact List.mem_cons_self))]; exact e
end
section
variable {prog : Program} {w : World} {A : Around} {E : Value → Shared → Prop} {s : Shared}
set_option maxHeartbeats 3200000 in
/-- set(xs), xs a list of texts -/
theorem set_of_list {l : Addr} {items : Array Value} {xs : List Str} {Q : Value → Shared → Prop} (hh : A.handled = none) (hl : s.heap.IsList l items) (hi : StrsAre items.toList xs) (hb : xs.length + 1 < scanBound)
    (h : ∀ (h' : Heap) (tk : Nat), h'.SetOf (PySem.strKind prog w) s.heap.objs.size (fun z => (metS xs items.size).any (· == z)) (metS xs items.size).length → (∀ b o, b < s.heap.objs.size → s.heap.get? b = some o → h'.get? b = some o) → Q (.ref s.heap.objs.size) { s with heap := h', toks := tk }) :
    wpAny (model prog w) A (call (.type "set") [.ref l]) Q E s := by
  obtain ⟨c, tl, hmro⟩ := PySem.F.called_set.mro
  have q1 := PySem.F.called_set.made
  have q2 := PySem.F.called_set.sub
  refine wpAny_call (codeAny_of_tree ?_)
  show wpAny _ _ (callAny (.type "set") _) _ _ _
  refine wpAny_pure ⟨Code.quiet_builtin _ (by decide +kernel), codeAny_builtin PySem.F.entry_type_call ?_⟩
  rw [Around.under_plain (weight_type_call_type "set" [.ref l] []) rfl]
  have q3 := PySem.F.called_set.notType
  have q4 := PySem.F.called_set.canCreate
  have q5 := PySem.F.typeCall_set_1 (.ref l)
  repeat (any_goals (first | assumption | wp_step))
  refine codeAny_mono (code_set_new_1 (.ref l) (E := E) (Q₁ := fun ob s1 => ∃ led : Bool, ob = .ref s.heap.objs.size ∧ s1 = { s with heap := s.heap.push (nset led) }) fun led => ⟨led, rfl, rfl⟩) fun r s1 hr => ?_
  cases r with
  | error e => exact hr
  | ok fl =>
    cases fl with
    | ret obj =>
      obtain ⟨led, rfl, rfl⟩ := hr
      have g0 : (s.heap.push (nset led)).get? s.heap.objs.size = some (nset led) := Heap.get?_push_size _ rfl
      have hT : Shared.TypeIs { s with heap := s.heap.push (nset led) } (.ref s.heap.objs.size) "set" := ⟨_, g0, rfl⟩
      have q6 := PySem.F.called_set.init.lookup
      have q7 := PySem.F.called_set.init.bind (.ref s.heap.objs.size)
      repeat (any_goals (first | assumption | wp_step))
      refine codeAny_mono (codeAny_call_builtin (R := wants (fun r s2 => r = .none ∧ ∃ h' tk, s2 = { s with heap := h', toks := tk } ∧
          h'.SetOf (PySem.strKind prog w) s.heap.objs.size (fun z => (metS xs items.size).any (· == z)) (metS xs items.size).length ∧ (∀ b o, b < s.heap.objs.size → s.heap.get? b = some o → h'.get? b = some o)) E) PySem.F.called_set.init.plain PySem.F.entry_set_init (check_set_init_1 hT ?_)) fun r2 s2 hr2 => ?_
      · obtain ⟨⟨ocl, odc, odt, osl⟩, hol, hcl, nl, hdl⟩ := hl
        simp only at hcl hdl
        subst hcl; subst hdl
        have g1 : (s.heap.push (nset led)).get? l = some { cls := .type "list", dict := odc, data := .seq items nl, slots := osl } := Heap.get?_push_of_some _ hol
        have q8 := PySem.F.sub_list_set
        have q9 := PySem.F.sub_list_frozenset
        have q10 : (Value.type "list" == Value.type "dict") = false := by decide
        have hl1 : (s.heap.push (nset led)).IsList l items := ⟨_, g1, rfl, nl, rfl⟩
        unfold Builtin.«set.__init__» noKeywords Builtin.Frozenset.updateFrom
        generalize hPI : pyIter = PI
        wp_walk
        subst hPI
        refine wpAny_pyIter_list hl1 ?_
        refine wpAny_bind (wpAny_runValue ?_)
        have lS : l < s.heap.objs.size := Heap.lt_size hol
        have zz : (s.heap.push (nset led)).objs.size = s.heap.objs.size + 1 := Heap.size_push ..
        have n1 : l ≠ (s.heap.push (nset led)).objs.size := by rw [zz]; exact Nat.ne_of_lt (Nat.lt_succ_of_lt lS)
        have n2 : s.heap.objs.size ∉ [(s.heap.push (nset led)).objs.size, l] := by
          rw [zz]
          intro m
          rcases List.mem_cons.mp m with m | m
          · exact Nat.ne_of_lt (Nat.lt_succ_self _) m
          · exact Nat.ne_of_gt lS (List.mem_singleton.mp m)
        have hsz : xs.length = items.size := by rw [← StrsAre.len_eq hi, Array.length_toList]
        have hval : ∀ (i : Nat) (v : Value), items[i]? = some v → ∃ t, v = .str (xs.getD i Str.empty) t := fun i v hv => SS.strs_at hi i v (by rw [Array.getElem?_toList]; exact hv)
        refine loopM ((Walks.list (by simp [hh]) _ l n1 items).toS) s.heap.objs.size n2 xs (by rw [← hsz]; exact hb) hval (items.size - 0) 0 _ (by omega) (Nat.zero_le _) ⟨⟨_, Heap.get?_push_size _ rfl, rfl, rfl⟩, (hl1.push _)⟩ ?hS0 ?hR
        case hS0 =>
          have g2 : ((s.heap.push (nset led)).push { cls := .type "list_iterator", data := .fields #[.ref l, .int 0 0] }).get? s.heap.objs.size = some (nset led) := Heap.get?_push_of_some _ g0
          exact PyProof.Rows.SetOf_congr ((PyProof.Rows.setObjOf_fresh (knd := PySem.strKind prog w) led).setOf g2 (by unfold scanBound; omega)) (fun _ => rfl) rfl
        case hR =>
          intro s' hm hS'
          obtain ⟨h', g', d', tk', os'⟩ := s'
          have e1 : g' = s.gens := hm.gens
          have e2 : d' = s.drawn := hm.drawn
          have e3 : os' = s.os := hm.os
          subst e1; subst e2; subst e3
          show wpAny _ _ _ _ _ _
          refine wpAny_pure ?_
          show wpAny _ _ (ret Value.none) _ _ _
          refine wpAny_pure ⟨rfl, h', tk', rfl, hS', fun b o hbl e => hm.heap b o (fun m => ?_) (Heap.get?_push_of_some _ (Heap.get?_push_of_some _ e))⟩
          rw [zz] at m
          rcases List.mem_cons.mp m with m | m
          · exact Nat.ne_of_lt hbl m
          · exact Nat.ne_of_lt (Nat.lt_succ_of_lt hbl) (List.mem_singleton.mp m)
      · cases r2 with
        | error e => exact hr2
        | ok fl2 =>
          cases fl2 with
          | ret r =>
            obtain ⟨rfl, h', tk, rfl, hS', hk'⟩ := hr2
            repeat (any_goals (first | assumption | wp_step))
            exact h _ _ hS' hk'
          | _ => exact hr2.elim
    | _ => exact hr.elim
set_option maxHeartbeats 3200000 in
/-- set(xs), xs a tuple of texts -/
theorem set_of_tuple {l : Addr} {items : Array Value} {xs : List Str} {Q : Value → Shared → Prop} (hh : A.handled = none) (hl : s.heap.IsTuple l items) (hi : StrsAre items.toList xs) (hb : xs.length + 1 < scanBound)
    (h : ∀ (h' : Heap) (tk : Nat), h'.SetOf (PySem.strKind prog w) s.heap.objs.size (fun z => (metS xs items.size).any (· == z)) (metS xs items.size).length → (∀ b o, b < s.heap.objs.size → s.heap.get? b = some o → h'.get? b = some o) → Q (.ref s.heap.objs.size) { s with heap := h', toks := tk }) :
    wpAny (model prog w) A (call (.type "set") [.ref l]) Q E s := by
  obtain ⟨c, tl, hmro⟩ := PySem.F.called_set.mro
  have q1 := PySem.F.called_set.made
  have q2 := PySem.F.called_set.sub
  refine wpAny_call (codeAny_of_tree ?_)
  show wpAny _ _ (callAny (.type "set") _) _ _ _
  refine wpAny_pure ⟨Code.quiet_builtin _ (by decide +kernel), codeAny_builtin PySem.F.entry_type_call ?_⟩
  rw [Around.under_plain (weight_type_call_type "set" [.ref l] []) rfl]
  have q3 := PySem.F.called_set.notType
  have q4 := PySem.F.called_set.canCreate
  have q5 := PySem.F.typeCall_set_1 (.ref l)
  repeat (any_goals (first | assumption | wp_step))
  refine codeAny_mono (code_set_new_1 (.ref l) (E := E) (Q₁ := fun ob s1 => ∃ led : Bool, ob = .ref s.heap.objs.size ∧ s1 = { s with heap := s.heap.push (nset led) }) fun led => ⟨led, rfl, rfl⟩) fun r s1 hr => ?_
  cases r with
  | error e => exact hr
  | ok fl =>
    cases fl with
    | ret obj =>
      obtain ⟨led, rfl, rfl⟩ := hr
      have g0 : (s.heap.push (nset led)).get? s.heap.objs.size = some (nset led) := Heap.get?_push_size _ rfl
      have hT : Shared.TypeIs { s with heap := s.heap.push (nset led) } (.ref s.heap.objs.size) "set" := ⟨_, g0, rfl⟩
      have q6 := PySem.F.called_set.init.lookup
      have q7 := PySem.F.called_set.init.bind (.ref s.heap.objs.size)
      repeat (any_goals (first | assumption | wp_step))
      refine codeAny_mono (codeAny_call_builtin (R := wants (fun r s2 => r = .none ∧ ∃ h' tk, s2 = { s with heap := h', toks := tk } ∧
          h'.SetOf (PySem.strKind prog w) s.heap.objs.size (fun z => (metS xs items.size).any (· == z)) (metS xs items.size).length ∧ (∀ b o, b < s.heap.objs.size → s.heap.get? b = some o → h'.get? b = some o)) E) PySem.F.called_set.init.plain PySem.F.entry_set_init (check_set_init_1 hT ?_)) fun r2 s2 hr2 => ?_
      · obtain ⟨⟨ocl, odc, odt, osl⟩, hol, hcl, nl, hdl⟩ := hl
        simp only at hcl hdl
        subst hcl; subst hdl
        have g1 : (s.heap.push (nset led)).get? l = some { cls := .type "tuple", dict := odc, data := .seq items nl, slots := osl } := Heap.get?_push_of_some _ hol
        have q8 := PySem.F.sub_tuple_set
        have q9 := PySem.F.sub_tuple_frozenset
        have q10 : (Value.type "tuple" == Value.type "dict") = false := by decide
        have hl1 : (s.heap.push (nset led)).IsTuple l items := ⟨_, g1, rfl, nl, rfl⟩
        unfold Builtin.«set.__init__» noKeywords Builtin.Frozenset.updateFrom
        generalize hPI : pyIter = PI
        wp_walk
        subst hPI
        refine wpAny_pyIter_tuple hl1 ?_
        refine wpAny_bind (wpAny_runValue ?_)
        have lS : l < s.heap.objs.size := Heap.lt_size hol
        have zz : (s.heap.push (nset led)).objs.size = s.heap.objs.size + 1 := Heap.size_push ..
        have n1 : l ≠ (s.heap.push (nset led)).objs.size := by rw [zz]; exact Nat.ne_of_lt (Nat.lt_succ_of_lt lS)
        have n2 : s.heap.objs.size ∉ [(s.heap.push (nset led)).objs.size, l] := by
          rw [zz]
          intro m
          rcases List.mem_cons.mp m with m | m
          · exact Nat.ne_of_lt (Nat.lt_succ_self _) m
          · exact Nat.ne_of_gt lS (List.mem_singleton.mp m)
        have hsz : xs.length = items.size := by rw [← StrsAre.len_eq hi, Array.length_toList]
        have hval : ∀ (i : Nat) (v : Value), items[i]? = some v → ∃ t, v = .str (xs.getD i Str.empty) t := fun i v hv => SS.strs_at hi i v (by rw [Array.getElem?_toList]; exact hv)
        refine loopM ((Walks.tuple (by simp [hh]) _ l n1 items).toS) s.heap.objs.size n2 xs (by rw [← hsz]; exact hb) hval (items.size - 0) 0 _ (by omega) (Nat.zero_le _) ⟨⟨_, Heap.get?_push_size _ rfl, rfl, rfl⟩, (hl1.push _)⟩ ?hS0 ?hR
        case hS0 =>
          have g2 : ((s.heap.push (nset led)).push { cls := .type "tuple_iterator", data := .fields #[.ref l, .int 0 0] }).get? s.heap.objs.size = some (nset led) := Heap.get?_push_of_some _ g0
          exact PyProof.Rows.SetOf_congr ((PyProof.Rows.setObjOf_fresh (knd := PySem.strKind prog w) led).setOf g2 (by unfold scanBound; omega)) (fun _ => rfl) rfl
        case hR =>
          intro s' hm hS'
          obtain ⟨h', g', d', tk', os'⟩ := s'
          have e1 : g' = s.gens := hm.gens
          have e2 : d' = s.drawn := hm.drawn
          have e3 : os' = s.os := hm.os
          subst e1; subst e2; subst e3
          show wpAny _ _ _ _ _ _
          refine wpAny_pure ?_
          show wpAny _ _ (ret Value.none) _ _ _
          refine wpAny_pure ⟨rfl, h', tk', rfl, hS', fun b o hbl e => hm.heap b o (fun m => ?_) (Heap.get?_push_of_some _ (Heap.get?_push_of_some _ e))⟩
          rw [zz] at m
          rcases List.mem_cons.mp m with m | m
          · exact Nat.ne_of_lt hbl m
          · exact Nat.ne_of_lt (Nat.lt_succ_of_lt hbl) (List.mem_singleton.mp m)
      · cases r2 with
        | error e => exact hr2
        | ok fl2 =>
          cases fl2 with
          | ret r =>
            obtain ⟨rfl, h', tk, rfl, hS', hk'⟩ := hr2
            repeat (any_goals (first | assumption | wp_step))
            exact h _ _ hS' hk'
          | _ => exact hr2.elim
    | _ => exact hr.elim
end
section
variable {X : Cx} {e : Expr} {t : TE} {w : AE} {p p2 q pos : Pos}
def tLenSetS (K : Fg) (ta : TE) : TE := fun σ H Q => ta σ H fun x H1 => ∃ l, ∃ xs : List Str, x = .ref l ∧ (SqL K H1 l (xs.map V.str) ∨ SqT K H1 l (xs.map V.str)) ∧ xs.length < 4000 ∧ Q (.int (metS xs xs.length).length) H1
theorem pe_lenSetS (hc : X.calm = true) (hg : Gl X "len") (hm : X.mg "len" = none) (hg2 : Gl X "set") (hm2 : X.mg "set" = none) (ha : PE X e t)
    (na : starEach [e] X.env = (false, eval e X.env) :: starEach [] X.env := by rfl) : PE X (.Call (.Name "len" p) [.Call (.Name "set" p2) [e] [] q] [] pos) (tLenSetS X.K t) := by
  refine ⟨fun pins s σ H Q I h => ?_⟩
  refine Call_ (ld_blt I hg hm boot_len (PyProof.Rows.callWith_builtin1 (PyProof.Rows.args_cons ?_ rfl) rfl rfl))
  refine Call_ (ld_blt I hg2 hm2 boot_set (PyProof.Rows.callWith_type1 (PyProof.Rows.args_cons (thn (ha.run pins s σ H _ I h) fun v s1 ⟨x, H1, I1, r1, q1⟩ => PyProof.Rows.args_nil ?_) na) na rfl))
  obtain ⟨l, xs, rfl, hq, h1, q1⟩ := q1
  cases r1
  have fin : ∀ (its : List Value), Vals (xs.map V.str) its → ∀ (h' : Heap) (tk : Nat), h'.SetOf (PySem.strKind X.prog X.w) s1.heap.objs.size (fun z => (metS xs its.toArray.size).any (· == z)) (metS xs its.toArray.size).length →
      (∀ b o, b < s1.heap.objs.size → s1.heap.get? b = some o → h'.get? b = some o) →
      wpAny (model X.prog X.w) X.A (spliced (backTo pos (starEach [] X.env))) (fun vs s₂ => wpAny (model X.prog X.w) X.A (call (.builtin "len") (Value.ref s1.heap.objs.size :: vs)) (EP X pins σ Q) X.xe s₂) X.xe { s1 with heap := h', toks := tk } := fun its r h' tk hS hk => by
    refine PyProof.Rows.args_nil ?_
    have hl : its.toArray.size = xs.length := by rw [List.size_toArray, ← r.length, List.length_map]
    rw [hl] at hS
    obtain ⟨o, es, ep, t, ho, hex, hd, _, _, _, hf, hn⟩ := hS
    have I2 : Inv X pins σ H1 { s1 with heap := h', toks := tk } := I1.kept fun b o e => hk b o (Heap.lt_size e) e
    have := metS_le xs xs.length
    refine call_len_set ho hex hd hf (by rw [hn]; omega) ⟨.int (metS xs xs.length).length, H1, I2.tok _, ⟨_, by rw [hn]⟩, q1⟩
  rcases hq with hq | hq
  · obtain ⟨its, r, pl, hz⟩ := I1.list hq
    exact set_of_list (I1.ok.hd hc) pl.isList (by simpa using strsAre_of r) (by unfold scanBound; omega) fun h' tk hS hk => fin its r h' tk hS hk
  · obtain ⟨its, r, pl, hz⟩ := I1.tuple hq
    exact set_of_tuple (I1.ok.hd hc) pl (by simpa using strsAre_of r) (by unfold scanBound; omega) fun h' tk hS hk => fin its r h' tk hS hk
def aLenSet (w : AE) : AE := fun ρ μ k => w ρ μ fun s μ1 => ∃ d l xs, rdD μ1 s = some d ∧ itemsD d = some l ∧ txts l = some xs ∧ xs.length < 4000 ∧ k (.d (.int (metS xs xs.length).length)) μ1
theorem j_lenSet (hc : X.calm = true) (hg : Gl X "len") (hm : X.mg "len" = none) (hg2 : Gl X "set") (hm2 : X.mg "set" = none) (ha : JE X e t w)
    (na : starEach [e] X.env = (false, eval e X.env) :: starEach [] X.env := by rfl) : JE X (.Call (.Name "len" p) [.Call (.Name "set" p2) [e] [] q] [] pos) (tLenSetS X.K t) (aLenSet w) := ⟨pe_lenSetS hc hg hm hg2 hm2 ha.pe na, by
  intro F H σ ρ μ as k Q M E q hQ
  refine ha.snd M E q fun F1 H1 μ1 as1 s v L1 M1 r1 q1 => ?_
  obtain ⟨d, l, xs, e1, e2, e3, e4, q2⟩ := q1
  have r2 := rd_ok M1 r1 e1
  cases d with
  | lst l' =>
    cases e2
    obtain ⟨a, vs, rfl, g1, g2⟩ := r2
    exact ⟨a, xs, rfl, .inl (.inl (by rw [← txts_ok g2 e3]; exact g1)), e4, hQ _ _ _ _ (.d (.int _)) _ L1 M1 reps_int q2⟩
  | tup l' =>
    cases e2
    obtain ⟨a, vs, rfl, g1, g2⟩ := r2
    exact ⟨a, xs, rfl, .inr (by rw [← txts_ok g2 e3]; exact M1.sub.sqT g1), e4, hQ _ _ _ _ (.d (.int _)) _ L1 M1 reps_int q2⟩
  | tpl l' =>
    cases e2
    obtain ⟨a, vs, o, rfl, g1, _, g2⟩ := r2
    exact ⟨a, xs, rfl, .inr (by rw [← txts_ok g2 e3]; exact M1.sub.sqT (.inl (.inr ⟨o, g1⟩))), e4, hQ _ _ _ _ (.d (.int _)) _ L1 M1 reps_int q2⟩
  | _ => cases e2⟩
end
end Ww
/-! W15: what is done over data, told by "there is": the steps of the pure side. -/
namespace Ww
open PySem PySem.Spec PyProof.Rows L2
section
variable {w wa wb wc : AE} {wr : AA} {u v : AT} {a b : AS} {A : AEnds} {ρ : Rho} {μ : Mu} {k : Sl → Mu → Prop} {kb : Bool → Mu → Prop} {ka : List Sl → Mu → Prop} {g g' : AR2} {s s' : Sl} {d d' : D}
@[simp ↓] theorem e_seq : aSeq a b A ρ μ = a { A with nx := b A } ρ μ := rfl
@[simp ↓] theorem e_next : aNext A ρ μ = A.nx ρ μ := rfl
@[simp ↓] theorem e_never : aNever A ρ μ = False := rfl
@[simp ↓] theorem e_brk : aBrk A ρ μ = A.bk ρ μ := rfl
@[simp ↓] theorem e_cnt : aCnt A ρ μ = A.ct ρ μ := rfl
@[simp ↓] theorem e_if : aIfS u a b A ρ μ = u ρ μ fun z μ1 => if z = true then a A ρ μ1 else b A ρ μ1 := rfl
@[simp ↓] theorem e_ret : aRet w A ρ μ = aFz w ρ μ A.rt := rfl
@[simp ↓] theorem e_retC : aRetC w A ρ μ = w ρ μ A.rt := rfl
@[simp ↓] theorem e_retN : aRetN A ρ μ = A.rt (.d .non) μ := rfl
@[simp ↓] theorem e_drop : aDrop w A ρ μ = w ρ μ fun _ μ1 => A.nx ρ μ1 := rfl
@[simp ↓] theorem e_asg {ga : AG} : aAsg w ga A ρ μ = w ρ μ fun s μ1 => ga s ρ μ1 A.nx := rfl
@[simp ↓] theorem e_gn {i : Nat} {kr : Rho → Mu → Prop} : aGn i s ρ μ kr = kr (ρ.set i (some s)) μ := rfl
@[simp ↓] theorem e_gnil {ss : List Sl} {kr : Rho → Mu → Prop} : aGnil ss ρ μ kr = (ss = [] ∧ kr ρ μ) := rfl
@[simp ↓] theorem e_gcons {ga : AG} {gs : AGs} {ss : List Sl} {kr : Rho → Mu → Prop} : aGcons ga gs (s :: ss) ρ μ kr = ga s ρ μ fun ρ1 μ1 => gs ss ρ1 μ1 kr := rfl
@[simp ↓] theorem e_gtup {n : Nat} {gs : AGs} {kr : Rho → Mu → Prop} : aGtup n gs s ρ μ kr = ∃ l, rdD μ s = some (.tup l) ∧ l.length = n ∧ gs (l.map .d) ρ μ kr := by
  unfold aGtup
  apply propext
  constructor
  · intro h
    split at h
    · rename_i l q; exact ⟨l, q, h⟩
    · exact h.elim
  · rintro ⟨l, q, h⟩; rw [q]; exact h
def two (f : Sl → Sl → Prop) : List Sl → Prop
  | [a, b] => f a b
  | _ => False
@[simp ↓] theorem two_eq {f : Sl → Sl → Prop} : two f [s, s'] = f s s' := rfl
def three (f : Sl → Sl → Sl → Prop) : List Sl → Prop
  | [a, b, c] => f a b c
  | _ => False
@[simp ↓] theorem three_eq {f : Sl → Sl → Sl → Prop} {s'' : Sl} : three f [s, s', s''] = f s s' s'' := rfl
@[simp ↓] theorem e_par {i j : Nat} : aPar i j wr A ρ μ = wr ρ μ fun ss μ1 => two (fun s s' => A.nx ((ρ.set i (some s)).set j (some s')) μ1) ss := by
  unfold aPar
  congr 1
@[simp ↓] theorem e_par3 {i j l : Nat} : aPar3 i j l wr A ρ μ = wr ρ μ fun ss μ1 => three (fun s s' s'' => A.nx (((ρ.set i (some s)).set j (some s')).set l (some s'')) μ1) ss := by
  unfold aPar3
  congr 1
@[simp ↓] theorem e_var {i : Nat} : aVar i ρ μ k = ∃ s, ρ[i]? = some (some s) ∧ k s μ := by
  unfold aVar
  apply propext
  constructor
  · intro h
    split at h
    · rename_i s q; exact ⟨s, q, h⟩
    · exact h.elim
  · rintro ⟨s, q, h⟩; rw [q]; exact h
@[simp ↓] theorem e_c : aC d ρ μ k = k (.d d) μ := rfl
@[simp ↓] theorem e_op : aOp g wa wb ρ μ k = wa ρ μ fun x μ1 => wb ρ μ1 fun y μ2 => g μ2 x y k := rfl
@[simp ↓] theorem e_rd2 {f : D → D → (Sl → Mu → Prop) → Mu → Prop} : rd2 f μ s s' k = ∃ a, rdD μ s = some a ∧ ∃ b, rdD μ s' = some b ∧ f a b k μ := by
  apply propext
  constructor
  · intro h; obtain ⟨a, b, h1, h2, h3⟩ := rd2_elim h; exact ⟨a, h1, b, h2, h3⟩
  · rintro ⟨a, h1, b, h2, h3⟩; unfold rd2; rw [h1, h2]; exact h3
@[simp ↓] theorem e_fI {C : Int → Int → Prop} {f : Int → Int → D} : fI C f d d' k μ = ∃ i, d = .int i ∧ ∃ j, d' = .int j ∧ C i j ∧ k (.d (f i j)) μ := by
  apply propext
  constructor
  · intro h; obtain ⟨i, j, h1, h2, h3⟩ := fI_elim h; exact ⟨i, h1, j, h2, h3⟩
  · rintro ⟨i, rfl, j, rfl, h3⟩; exact h3
@[simp ↓] theorem e_addI {i j : Int} : fAdd (.int i) (.int j) k μ = k (.d (.int (i + j))) μ := rfl
@[simp ↓] theorem e_addS {i j : Str} : fAdd (.str i) (.str j) k μ = (i.length + j.length ≤ sizeLine ∧ k (.d (.str (i ++ j))) μ) := rfl
@[simp ↓] theorem e_addL {i j : List D} : fAdd (.lst i) (.lst j) k μ = (i.length + j.length ≤ sizeLine ∧ k (.d (.lst (i ++ j))) μ) := rfl
@[simp ↓] theorem e_addT {i j : List D} : fAdd (.tup i) (.tup j) k μ = (i.length + j.length ≤ sizeLine ∧ k (.d (.tup (i ++ j))) μ) := rfl
@[simp ↓] theorem e_mulI {i j : Int} : fMul (.int i) (.int j) k μ = (CMul i j ∧ k (.d (.int (i * j))) μ) := rfl
@[simp ↓] theorem e_mulL {i : List D} {j : Int} : fMul (.lst i) (.int j) k μ = (0 ≤ j ∧ i.length * j.toNat ≤ sizeLine ∧ j < 2 ^ 63 ∧ k (.d (.lst (List.replicate j.toNat i).flatten)) μ) := rfl
@[simp ↓] theorem e_eq {neg : Bool} : fEq neg d d' k μ = ∃ p, toPy d = some p ∧ ∃ q, toPy d' = some q ∧ SeqAt.shaped p = true ∧ SeqAt.shaped q = true ∧ k (.d (.bl (if neg then !PyData.eqv p q else PyData.eqv p q))) μ := by
  apply propext
  unfold fEq
  constructor
  · intro h
    split at h
    · rename_i p q h1 h2; exact ⟨p, h1, q, h2, h⟩
    · exact h.elim
  · rintro ⟨p, h1, q, h2, h⟩; rw [h1, h2]; exact h
@[simp ↓] theorem e_is {neg : Bool} : fIs neg d .non k μ = k (.d (.bl (if neg then !isN d else isN d))) μ := rfl
@[simp ↓] theorem e_aT : aT w ρ μ kb = w ρ μ fun x μ1 => ∃ z, rdD μ1 x = some (.bl z) ∧ kb z μ1 := by
  unfold aT
  congr 1; funext x μ1; apply propext
  constructor
  · intro h; exact aT_elim (w := w) h
  · rintro ⟨z, q, h⟩; rw [q]; exact h
@[simp ↓] theorem e_chain : aChain g g' wa wb wc ρ μ k = wa ρ μ fun x μ1 => wb ρ μ1 fun y μ2 => g μ2 x y fun z μ3 => ∃ t, rdD μ3 z = some (.bl t) ∧ if t = true then wc ρ μ3 fun q μ4 => g' μ4 y q k else k (.d (.bl false)) μ3 := by
  unfold aChain
  congr 1; funext x μ1; congr 1; funext y μ2; congr 1; funext z μ3; apply propext
  constructor
  · intro h
    split at h
    · rename_i q; exact ⟨true, q, by rw [if_pos rfl]; exact h⟩
    · rename_i q; exact ⟨false, q, by rw [if_neg Bool.false_ne_true]; exact h⟩
    · exact h.elim
  · rintro ⟨t, q, h⟩
    rw [q]
    cases t
    · rw [if_neg Bool.false_ne_true] at h; exact h
    · rw [if_pos rfl] at h; exact h
@[simp ↓] theorem e_and : aAnd u v ρ μ kb = u ρ μ fun z μ1 => if z = true then v ρ μ1 kb else kb false μ1 := rfl
@[simp ↓] theorem e_or : aOr u v ρ μ kb = u ρ μ fun z μ1 => if z = true then kb true μ1 else v ρ μ1 kb := rfl
@[simp ↓] theorem e_not : aNot u ρ μ kb = u ρ μ fun z μ1 => kb (!z) μ1 := rfl
@[simp ↓] theorem e_yes : aYes ρ μ kb = kb true μ := rfl
theorem bl_split {P : Bool → Prop} {o : Option D} {R : Prop} (h1 : o = some (.bl true) → (R ↔ P true)) (h2 : o = some (.bl false) → (R ↔ P false)) (h3 : (∀ z, o ≠ some (.bl z)) → ¬ R) : R = ∃ z, o = some (.bl z) ∧ P z := by
  apply propext
  constructor
  · intro h
    by_cases q : ∃ z, o = some (.bl z)
    · obtain ⟨z, q⟩ := q
      cases z
      · exact ⟨false, q, (h2 q).mp h⟩
      · exact ⟨true, q, (h1 q).mp h⟩
    · exact (h3 (fun z e => q ⟨z, e⟩) h).elim
  · rintro ⟨z, q, h⟩
    cases z
    · exact (h2 q).mpr h
    · exact (h1 q).mpr h
@[simp ↓] theorem e_andV : aAndV wa wb ρ μ k = wa ρ μ fun x μ1 => ∃ z, rdD μ1 x = some (.bl z) ∧ if z = true then wb ρ μ1 k else k (.d (.bl false)) μ1 := by
  unfold aAndV
  congr 1; funext x μ1
  refine bl_split (fun q => by rw [q]; simp) (fun q => by rw [q]; simp) fun q h => ?_
  split at h <;> rename_i e
  · exact q _ e
  · exact q _ e
  · exact h
@[simp ↓] theorem e_orV : aOrV wa wb ρ μ k = wa ρ μ fun x μ1 => ∃ z, rdD μ1 x = some (.bl z) ∧ if z = true then k (.d (.bl true)) μ1 else wb ρ μ1 k := by
  unfold aOrV
  congr 1; funext x μ1
  refine bl_split (fun q => by rw [q]; simp) (fun q => by rw [q]; simp) fun q h => ?_
  split at h <;> rename_i e
  · exact q _ e
  · exact q _ e
  · exact h
@[simp ↓] theorem e_notV : aNotV wa ρ μ k = wa ρ μ fun x μ1 => ∃ z, rdD μ1 x = some (.bl z) ∧ k (.d (.bl (!z))) μ1 := by
  unfold aNotV
  congr 1; funext x μ1
  refine bl_split (fun q => by rw [q]) (fun q => by rw [q]) fun q h => ?_
  split at h <;> rename_i e
  · exact q _ e
  · exact h
@[simp ↓] theorem e_ifE : aIfE u wa wb ρ μ k = u ρ μ fun z μ1 => if z = true then wa ρ μ1 k else wb ρ μ1 k := rfl
@[simp ↓] theorem e_nil : aNil ρ μ ka = ka [] μ := rfl
@[simp ↓] theorem e_cons : aCons w wr ρ μ ka = w ρ μ fun x μ1 => wr ρ μ1 fun xs μ2 => ka (x :: xs) μ2 := rfl
@[simp] theorem fz_d : freeze μ (.d d) = some (d, μ) := rfl
/-- frozen, then k -/
def fzK (k : Sl → Mu → Prop) (x : Sl) (μ : Mu) : Prop := match freeze μ x with
  | some (d, μ2) => k (.d d) μ2
  | none => False
@[simp ↓] theorem e_fz : aFz w ρ μ k = w ρ μ fun x μ1 => fzK k x μ1 := rfl
@[simp ↓] theorem fzK_d : fzK k (.d d) μ = k (.d d) μ := rfl
theorem fzK_l {j : Nat} {l : List D} (h : μ[j]? = some (.lst (l.map .d))) : fzK k (.m j) μ = k (.d (.lst l)) (μ.set j (.frz (.lst l))) := by
  have e : freeze μ (.m j) = some (.lst l, μ.set j (.frz (.lst l))) := by
    show (match μ[j]? with
      | some (.frz x) => some (x, μ)
      | some (.lst l) => (dsOf l).map fun ds => (.lst ds, μ.set j (.frz (.lst ds)))
      | some (.ins C ns l) => (dsOf l).map fun ds => (.ins C ns ds, μ.set j (.frz (.ins C ns ds)))
      | _ => none) = _
    rw [h]
    show (dsOf (l.map .d)).map _ = _
    rw [dsOf_map]
    rfl
  unfold fzK
  rw [e]
@[simp] theorem ds_nil : dsOf [] = some [] := rfl
@[simp] theorem ds_cons {r : List Sl} : dsOf (.d d :: r) = (dsOf r).map (d :: ·) := rfl
theorem ds_ex {P : List D → Mu → Prop} {xs : List Sl} : (match dsOf xs with | some ds => P ds μ | none => False) = ∃ ds, dsOf xs = some ds ∧ P ds μ := by
  apply propext
  constructor
  · intro h
    split at h
    · rename_i ds q; exact ⟨ds, q, h⟩
    · exact h.elim
  · rintro ⟨ds, q, h⟩; rw [q]; exact h
@[simp ↓] theorem e_tup : aTup wr ρ μ k = wr ρ μ fun xs μ1 => ∃ ds, dsOf xs = some ds ∧ ds.length ≤ sizeLine ∧ k (.d (.tup ds)) μ1 := by
  unfold aTup
  congr 1; funext xs μ1
  exact ds_ex (P := fun ds μ1 => ds.length ≤ sizeLine ∧ k (.d (.tup ds)) μ1)
@[simp ↓] theorem e_lst : aLst wr ρ μ k = wr ρ μ fun xs μ1 => ∃ ds, dsOf xs = some ds ∧ ds.length ≤ sizeLine ∧ k (.d (.lst ds)) μ1 := by
  unfold aLst
  congr 1; funext xs μ1
  exact ds_ex (P := fun ds μ1 => ds.length ≤ sizeLine ∧ k (.d (.lst ds)) μ1)
@[simp ↓] theorem e_lstC : aLstC wr ρ μ k = wr ρ μ fun xs μ1 => xs.length ≤ sizeLine ∧ k (.m μ1.length) (μ1 ++ [.lst xs]) := rfl
@[simp ↓] theorem e_ix : gIx μ s s' k = ∃ z, ixC μ s s' = some z ∧ k z μ := by
  apply propext
  unfold gIx
  constructor
  · intro h
    split at h
    · rename_i z q; exact ⟨z, q, h⟩
    · exact h.elim
  · rintro ⟨z, q, h⟩; rw [q]; exact h
@[simp] theorem ixC_d {i : D} : ixC μ (.d d) (.d i) = (ixD d i).map .d := rfl
@[simp] theorem ixC_m {i : D} {j : Nat} : ixC μ (.m j) (.d i) = (μ[j]?).bind fun c => cellAt c i := rfl
@[simp] theorem ixD_l {l : List D} {i : Int} : ixD (.lst l) (.int i) = atI l i := rfl
@[simp] theorem ixD_t {l : List D} {i : Int} : ixD (.tup l) (.int i) = atI l i := rfl
@[simp] theorem ixD_p {l : List D} {i : Int} : ixD (.tpl l) (.int i) = atI l i := rfl
@[simp] theorem cellAt_k {ks : List Key} {vs : List Sl} {x : Str} : cellAt (.dic ks vs) (.str x) = look2 (Sum.inr x) ks vs := rfl
@[simp] theorem cellAt_l {l : List Sl} {i : Int} : cellAt (.lst l) (.int i) = atI l i := rfl
@[simp] theorem cellAt_f {i : D} : cellAt (.frz d) i = (ixD d i).map .d := by cases i <;> rfl
theorem atI_nat {α : Type} (l : List α) (n : Nat) : atI l (n : Int) = l[n]? := by
  unfold atI ixN
  by_cases h : n < l.length
  · rw [if_pos (by omega), if_pos (by omega)]; simp
  · rw [if_pos (by omega), if_neg (by omega)]
    simp; omega
@[simp] theorem atI_0 {α : Type} (l : List α) : atI l 0 = l[0]? := atI_nat l 0
@[simp] theorem atI_1 {α : Type} (l : List α) : atI l 1 = l[1]? := atI_nat l 1
@[simp] theorem atI_2 {α : Type} (l : List α) : atI l 2 = l[2]? := atI_nat l 2
@[simp ↓] theorem e_cb {h : AR1} : aCB h wr ρ μ k = wr ρ μ fun xs μ1 => h μ1 xs k := rfl
@[simp ↓] theorem e_on1 {f : D → (Sl → Mu → Prop) → Mu → Prop} : on1 f μ [s] k = ∃ d, rdD μ s = some d ∧ f d k μ := by
  apply propext
  show (match rdD μ s with | some d => f d k μ | none => False) ↔ _
  constructor
  · intro h
    split at h
    · rename_i d q; exact ⟨d, q, h⟩
    · exact h.elim
  · rintro ⟨d, q, h⟩; rw [q]; exact h
@[simp ↓] theorem e_on2 {f : D → D → (Sl → Mu → Prop) → Mu → Prop} : on2 f μ [s, s'] k = rd2 f μ s s' k := rfl
@[simp ↓] theorem e_lenL {l : List D} : fLen (.lst l) k μ = k (.d (.int (l.length : Nat))) μ := rfl
@[simp ↓] theorem e_lenT {l : List D} : fLen (.tup l) k μ = k (.d (.int (l.length : Nat))) μ := rfl
@[simp ↓] theorem e_lenS {x : Str} : fLen (.str x) k μ = (x.length ≤ sizeLine ∧ k (.d (.int (x.length : Nat))) μ) := rfl
@[simp ↓] theorem e_bools {f : List Bool → Bool} : fBools f d k μ = ∃ l, d = .lst l ∧ ∃ bs, bools l = some bs ∧ k (.d (.bl (f bs))) μ := by
  apply propext
  constructor
  · intro h; obtain ⟨l, bs, h1, h2, h3⟩ := fBools_elim h; exact ⟨l, h1, bs, h2, h3⟩
  · rintro ⟨l, rfl, bs, h2, h3⟩
    show (match bools l with | some bs => k (.d (.bl (f bs))) μ | none => False)
    rw [h2]; exact h3
theorem bools_map (bs : List Bool) : bools (bs.map D.bl) = some bs := by
  induction bs with
  | nil => rfl
  | cons b r ih => show (bools (r.map D.bl)).map (b :: ·) = _; rw [ih]; rfl
/-! isinstance -/
@[simp] theorem nrm_bl {z : Bool} : nrm (.bl z) = .bl z := rfl
@[simp] theorem nrm_int {z : Int} : nrm (.int z) = .int z := rfl
@[simp] theorem nrm_str {z : Str} : nrm (.str z) = .str z := rfl
@[simp] theorem nrm_non : nrm .non = .non := rfl
@[simp] theorem nrm_tup {z : List D} : nrm (.tup z) = .tup z := rfl
@[simp] theorem nrm_tpl {z : List D} : nrm (.tpl z) = .tup z := rfl
@[simp] theorem nrm_lst {z : List D} : nrm (.lst z) = .lst z := rfl
@[simp] theorem nrm_ins {C : Addr} {n : List Str} {z : List D} : nrm (.ins C n z) = .ins C n z := rfl
@[simp] theorem nrm_ty {n : String} : nrm (.ty n) = .ty n := rfl
@[simp] theorem nrm_cls {C : Addr} : nrm (.cls C) = .cls C := rfl
@[simp] theorem ty_bl {z : Bool} : tyName (.bl z) = some "bool" := rfl
@[simp] theorem ty_int {z : Int} : tyName (.int z) = some "int" := rfl
@[simp] theorem ty_str {z : Str} : tyName (.str z) = some "str" := rfl
@[simp] theorem ty_non : tyName .non = some "NoneType" := rfl
@[simp] theorem ty_tup {z : List D} : tyName (.tup z) = some "tuple" := rfl
@[simp] theorem ty_lst {z : List D} : tyName (.lst z) = some "list" := rfl
@[simp ↓] theorem e_isiT {K : Fg} {n : String} : fIsi K d (.ty n) k μ = (n ∈ knds ∧ ∃ m, tyName d = some m ∧ k (.d (.bl (isTyB m n))) μ) := by
  cases d <;> rfl
@[simp ↓] theorem e_isiS {K : Fg} {l : List D} : fIsi K d (.tup l) k μ = ∃ m, tyName d = some m ∧ ∃ ns, tys l = some ns ∧ k (.d (.bl (ns.any fun n => isTyB m n))) μ := by
  apply propext
  constructor
  · intro h
    have h' : ∃ m ns, tyName d = some m ∧ tys l = some ns ∧ k (.d (.bl (ns.any fun n => isTyB m n))) μ := by cases d <;> exact h
    obtain ⟨m, ns, h1, h2, h3⟩ := h'
    exact ⟨m, h1, ns, h2, h3⟩
  · rintro ⟨m, h1, ns, h2, h3⟩
    have h' : ∃ m ns, tyName d = some m ∧ tys l = some ns ∧ k (.d (.bl (ns.any fun n => isTyB m n))) μ := ⟨m, ns, h1, h2, h3⟩
    cases d <;> exact h'
@[simp ↓] theorem e_isiC {K : Fg} {C C' : Addr} {n : List Str} {l : List D} : fIsi K (.ins C n l) (.cls C') k μ = (C = C' ∧ KindF K C ∧ k (.d (.bl true)) μ) := rfl
@[simp] theorem in_knds {n : String} : (n ∈ knds) = (n = "NoneType" ∨ n = "bool" ∨ n = "int" ∨ n = "str" ∨ n = "tuple" ∨ n = "list" ∨ n = "dict") := by simp [knds]
@[simp] theorem isTyB_eq {m n : String} : isTyB m n = (m == n || (m == "bool" && n == "int")) := rfl
@[simp] theorem tys_nil : tys [] = some [] := rfl
@[simp] theorem tys_cons {n : String} {l : List D} : tys (.ty n :: l) = if n ∈ knds then (tys l).map (n :: ·) else none := rfl
@[simp] theorem bools_mapf {α : Type} (l : List α) (g : α → Bool) : bools (l.map fun d => .bl (g d)) = some (l.map g) := by
  have := bools_map (l.map g)
  rw [List.map_map] at this
  exact this
@[simp] theorem bools_comp {α β : Type} (l : List α) (g : β → Bool) (f : α → β) : bools (l.map (D.bl ∘ g ∘ f)) = some (l.map (g ∘ f)) := by
  have := bools_map (l.map (g ∘ f))
  rw [List.map_map] at this
  exact this
@[simp ↓] theorem e_inS {neg : Bool} {x y : Str} : fIn neg (.str x) (.str y) k μ = k (.d (.bl (if neg then !(!(Builtin.Str.occurrences y x 0 y.length 1).isEmpty) else !(Builtin.Str.occurrences y x 0 y.length 1).isEmpty))) μ := by
  apply propext
  constructor
  · rintro ⟨z, e, h⟩; cases e; exact h
  · intro h; exact ⟨x, rfl, h⟩
/-! in -/
@[simp ↓] theorem e_inT {neg : Bool} {l : List D} : fIn neg d (.tup l) k μ = (flatD d = true ∧ l.all flatD = true ∧ k (.d (.bl (if neg then !(l.any fun y => eqF y d) else l.any fun y => eqF y d))) μ) := rfl
@[simp] theorem flat_s {x : Str} : flatD (.str x) = true := rfl
@[simp] theorem flat_i {x : Int} : flatD (.int x) = true := rfl
@[simp] theorem flat_b {x : Bool} : flatD (.bl x) = true := rfl
@[simp] theorem eqF_s {x y : Str} : eqF (.str x) (.str y) = (x == y) := rfl
@[simp] theorem eqF_i {x y : Int} : eqF (.int x) (.int y) = (x == y) := rfl
@[simp] theorem eqF_b {x y : Bool} : eqF (.bl x) (.bl y) = (x == y) := rfl
@[simp] theorem isN_n : isN .non = true := rfl
@[simp] theorem isN_l {l : List D} : isN (.lst l) = false := rfl
@[simp] theorem isN_t {l : List D} : isN (.tup l) = false := rfl
@[simp] theorem isN_i {i : Int} : isN (.int i) = false := rfl
@[simp] theorem isN_s {i : Str} : isN (.str i) = false := rfl
@[simp] theorem isN_b {i : Bool} : isN (.bl i) = false := rfl
@[simp] theorem wipe0 : wipeR ρ [] = ρ := rfl
@[simp] theorem wipe1 {v : Nat} {vs : List Nat} : wipeR ρ (v :: vs) = (wipeR ρ vs).set v none := rfl
/-! ends, starts -/
@[simp] theorem b_nx {k : Sl → Mu → Prop} {μ μ' : Mu} : (bEnds μ k).nx ρ μ' = (Keep μ μ' ∧ k (.d .non) (μ'.take μ.length)) := rfl
@[simp] theorem b_rt {k : Sl → Mu → Prop} {μ μ' : Mu} : (bEnds μ k).rt (.d d) μ' = (Keep μ μ' ∧ k (.d d) (μ'.take μ.length)) := by
  apply propext
  constructor
  · rintro ⟨d', e, h⟩; cases e; exact h
  · intro h; exact ⟨d, rfl, h⟩
@[simp] theorem keep_refl (μ : Mu) : Keep μ μ := Keep.refl μ
@[simp] theorem keep_app (μ ν : Mu) : Keep μ (μ ++ ν) := Keep.app μ ν
/-! texts, shapes -/
theorem ofString_inj {a b : String} (h : Str.ofString a = Str.ofString b) : a = b := by
  rw [Str.ofString_eq_toList, Str.ofString_eq_toList] at h
  have h1 : (a.toList.map Char.toNat).toArray = (b.toList.map Char.toNat).toArray := by injection h
  have h2 : a.toList.map Char.toNat = b.toList.map Char.toNat := by injection h1
  have h3 : a.toList = b.toList := (List.map_inj_right fun x y e => Char.toNat_inj.mp e).mp h2
  exact String.toList_inj.mp h3
@[simp] theorem lit_beq {a b : String} : (Str.ofString a == Str.ofString b) = (a == b) := by
  by_cases h : a = b
  · subst h; simp
  · have : Str.ofString a ≠ Str.ofString b := fun e => h (ofString_inj e)
    rw [beq_eq_false_iff_ne.mpr h, beq_eq_false_iff_ne.mpr this]
@[simp] theorem lit_eq {a b : String} : (Str.ofString a = Str.ofString b) = (a = b) := propext ⟨ofString_inj, fun h => by rw [h]⟩
theorem lit_ok (s : String) : PyData.strOk (Str.ofString s) = true := by
  rw [Str.ofString_eq_toList]
  show (s.toList.map Char.toNat).toArray.all _ = true
  rw [← Array.all_toList]
  simp only [List.all_map, List.all_eq_true]
  intro c _
  exact decide_eq_true (show c.val.toNat < 1114112 by have := c.valid; rcases this with h | h <;> omega)
@[simp] theorem sh_str (s : String) : SeqAt.shaped (.str (Str.ofString s)) = true := by
  show (PyData.strOk (Str.ofString s) && decide (0 ≤ 64)) = true
  rw [lit_ok]; rfl
@[simp] theorem py_int {i : Int} : toPy (.int i) = some (.int i) := rfl
@[simp] theorem py_bl {i : Bool} : toPy (.bl i) = some (.bool i) := rfl
@[simp] theorem py_non : toPy .non = some .none := rfl
@[simp] theorem py_str {i : Str} : toPy (.str i) = some (.str i) := rfl
@[simp] theorem py_tup {l : List D} : toPy (.tup l) = (toPys l).map .tuple := rfl
@[simp] theorem py_tpl {l : List D} : toPy (.tpl l) = (toPys l).map .tuple := rfl
@[simp] theorem py_lst {l : List D} : toPy (.lst l) = (toPys l).map .list := rfl
@[simp] theorem pys_nil : toPys [] = some [] := rfl
@[simp] theorem pys_cons {l : List D} : toPys (d :: l) = (toPy d).bind fun p => (toPys l).map (p :: ·) := by
  show (match toPy d, toPys l with | some a, some b => some (a :: b) | _, _ => none) = _
  cases toPy d <;> cases toPys l <;> rfl
@[simp] theorem sh_int {i : Int} : SeqAt.shaped (.int i) = true := rfl
@[simp] theorem sh_bl {i : Bool} : SeqAt.shaped (.bool i) = true := rfl
@[simp] theorem sh_non : SeqAt.shaped .none = true := rfl
@[simp] theorem sh_tnil : SeqAt.shaped (.tuple []) = true := rfl
@[simp] theorem sh_lnil : SeqAt.shaped (.list []) = true := rfl
@[simp] theorem eqv_i {i j : Int} : PyData.eqv (.int i) (.int j) = (i == j) := rfl
@[simp] theorem eqv_s {i j : Str} : PyData.eqv (.str i) (.str j) = (i == j) := rfl
@[simp] theorem eqv_b {i j : Bool} : PyData.eqv (.bool i) (.bool j) = (i == j) := rfl
@[simp] theorem eqv_t {i j : List PyData} : PyData.eqv (.tuple i) (.tuple j) = PyData.eqvAll i j := rfl
@[simp] theorem eqv_l {i j : List PyData} : PyData.eqv (.list i) (.list j) = PyData.eqvAll i j := rfl
@[simp] theorem eqvA_nn : PyData.eqvAll [] [] = true := rfl
@[simp] theorem eqvA_nc {x : PyData} {l : List PyData} : PyData.eqvAll [] (x :: l) = false := rfl
@[simp] theorem eqvA_cn {x : PyData} {l : List PyData} : PyData.eqvAll (x :: l) [] = false := rfl
@[simp] theorem eqvA_cc {x y : PyData} {l m : List PyData} : PyData.eqvAll (x :: l) (y :: m) = (PyData.eqv x y && PyData.eqvAll l m) := rfl
@[simp] theorem sizeLine_val : sizeLine = 16777216 := rfl
end
end Ww
/-! W16: .. of cells, calls, what is walked. -/
namespace Ww
open PySem PySem.Spec PyProof.Rows L2
section
variable {w wa wb wc wo : AE} {wr : AA} {u v : AT} {a b : AS} {A : AEnds} {ρ : Rho} {μ : Mu} {k : Sl → Mu → Prop} {kb : Bool → Mu → Prop} {ka : List Sl → Mu → Prop} {g g' : AR2} {s s' : Sl} {d d' : D} {j : Nat} {kl : List D → Mu → Prop} {S : ASp}
theorem rd_l {l : List D} (h : μ[j]? = some (.lst (l.map .d))) : rdD μ (.m j) = some (.lst l) := by
  show (match μ[j]? with | some (.frz x) => some (nrm x) | some (.lst l) => (dsOf l).map .lst | _ => none) = _
  rw [h]
  show (dsOf (l.map .d)).map D.lst = _
  rw [dsOf_map]; rfl
@[simp] theorem rd_at {l : List Sl} : rdD (μ ++ [.lst l]) (.m μ.length) = (dsOf l).map .lst := by
  show (match (μ ++ [Cell.lst l])[μ.length]? with | some (.frz x) => some (nrm x) | some (.lst l) => (dsOf l).map .lst | _ => none) = _
  simp
@[simp] theorem at_end {c : Cell} : (μ ++ [c])[μ.length]? = some c := by simp
@[simp] theorem set_end {c c' : Cell} : (μ ++ [c]).set μ.length c' = μ ++ [c'] := by simp
@[simp] theorem take_end {ν : Mu} : (μ ++ ν).take μ.length = μ := by simp
@[simp] theorem dsOf_map' (l : List D) : dsOf (l.map .d) = some l := dsOf_map l
@[simp] theorem dsOf_mapf {α : Type} (l : List α) (f : α → D) : dsOf (l.map fun q => .d (f q)) = some (l.map f) := by
  have := dsOf_map (l.map f)
  rw [List.map_map] at this
  exact this
@[simp] theorem ds_app : ∀ (a b : List Sl), dsOf (a ++ b) = (dsOf a).bind fun x => (dsOf b).map (x ++ ·)
  | [], b => by simp
  | .d x :: r, b => by
    rw [List.cons_append, ds_cons, ds_app r b, ds_cons]
    cases dsOf r <;> cases dsOf b <;> rfl
  | .m _ :: r, b => rfl
@[simp] theorem pys_app : ∀ (a b : List D), toPys (a ++ b) = (toPys a).bind fun x => (toPys b).map (x ++ ·)
  | [], b => by simp
  | x :: r, b => by
    rw [List.cons_append, pys_cons, pys_app r b, pys_cons]
    cases toPy x <;> cases toPys r <;> cases toPys b <;> rfl
theorem pys_map {α : Type} {f : α → D} {p : α → PyData} (h : ∀ x, toPy (f x) = some (p x)) : ∀ l : List α, toPys (l.map f) = some (l.map p)
  | [] => rfl
  | x :: r => by simp [h, pys_map h r]
theorem lay_map {α : Type} {p : α → PyData} : ∀ {l : List α}, (∀ x ∈ l, (p x).canLay0 = true) → PyData.canLayAll0 (l.map p) = true
  | [], _ => rfl
  | x :: r, h => by
    show ((p x).canLay0 && PyData.canLayAll0 (r.map p)) = true
    rw [h x List.mem_cons_self, lay_map fun y hy => h y (List.mem_cons_of_mem _ hy)]; rfl
theorem depth_map {α : Type} {p : α → PyData} {n : Nat} : ∀ {l : List α}, (∀ x ∈ l, (p x).depth ≤ n) → PyData.depthAll (l.map p) ≤ n
  | [], _ => Nat.zero_le _
  | x :: r, h => by
    show max (p x).depth (PyData.depthAll (r.map p)) ≤ n
    exact Nat.max_le.mpr ⟨h x List.mem_cons_self, depth_map fun y hy => h y (List.mem_cons_of_mem _ hy)⟩
theorem shaped_list {α : Type} {p : α → PyData} {l : List α} (h : ∀ x ∈ l, (p x).canLay0 = true ∧ (p x).depth ≤ 63) : SeqAt.shaped (.list (l.map p)) = true := by
  have h2 := depth_map (n := 63) fun x hx => (h x hx).2
  show (PyData.canLayAll0 (l.map p) && decide (PyData.depthAll (l.map p) + 1 ≤ 64)) = true
  rw [lay_map fun x hx => (h x hx).1, decide_eq_true (by omega)]; rfl
theorem shaped_tuple {α : Type} {p : α → PyData} {l : List α} (h : ∀ x ∈ l, (p x).canLay0 = true ∧ (p x).depth ≤ 63) : SeqAt.shaped (.tuple (l.map p)) = true := by
  have h2 := depth_map (n := 63) fun x hx => (h x hx).2
  show (PyData.canLayAll0 (l.map p) && decide (PyData.depthAll (l.map p) + 1 ≤ 64)) = true
  rw [lay_map fun x hx => (h x hx).1, decide_eq_true (by omega)]; rfl
theorem eqvAll_nil (l : List PyData) : PyData.eqvAll l [] = l.isEmpty := by cases l <;> rfl
/-! methods of list cells -/
@[simp ↓] theorem e_bm {f : AR3} : aBM f wo wr ρ μ k = wo ρ μ fun y μ1 => isLst μ1 y ∧ wr ρ μ1 fun xs μ2 => f μ2 y xs k := rfl
@[simp ↓] theorem e_bm0 {f : AR3} : aBM0 f wo ρ μ k = wo ρ μ fun y μ1 => isLst μ1 y ∧ f μ1 y [] k := rfl
@[simp] theorem isLst_at {l : List Sl} : isLst (μ ++ [.lst l]) (.m μ.length) = True := eq_true (.inl ⟨l, by simp⟩)
theorem isLst_of {l : List Sl} (h : μ[j]? = some (.lst l)) : isLst μ (.m j) := .inl ⟨l, h⟩
theorem cellL_ex {f : Nat → List Sl → Prop} : cellL μ (.m j) f = ∃ l, μ[j]? = some (.lst l) ∧ f j l := by
  apply propext
  show (match μ[j]? with | some (.lst l) => f j l | _ => False) ↔ _
  constructor
  · intro h
    split at h
    · rename_i l q; exact ⟨l, q, h⟩
    · exact h.elim
  · rintro ⟨l, q, h⟩; rw [q]; exact h
@[simp ↓] theorem e_append {x : Sl} : gAppend μ (.m j) [x] k = ∃ l, μ[j]? = some (.lst l) ∧ l.length < sizeLine ∧ k (.d .non) (μ.set j (.lst (l ++ [x]))) :=
  cellL_ex (f := fun j l => l.length < sizeLine ∧ k (.d .non) (μ.set j (.lst (l ++ [x]))))
@[simp ↓] theorem e_extend {ds : List D} : gExtend μ (.m j) [.d (.lst ds)] k = ∃ l, μ[j]? = some (.lst l) ∧ l.length + ds.length ≤ sizeLine ∧ k (.d .non) (μ.set j (.lst (l ++ ds.map .d))) :=
  cellL_ex (f := fun j l => l.length + ds.length ≤ sizeLine ∧ k (.d .non) (μ.set j (.lst (l ++ ds.map Sl.d))))
@[simp ↓] theorem e_pop0 : gPop μ (.m j) [] k = ∃ l, μ[j]? = some (.lst l) ∧ ∃ s, l.getLast? = some s ∧ k s (μ.set j (.lst l.dropLast)) := by
  refine (cellL_ex (f := fun j l => (match l.getLast? with | some s => k s (μ.set j (.lst l.dropLast)) | none => False))).trans ?_
  congr 1; funext l; congr 1; apply propext
  constructor
  · intro h
    split at h
    · rename_i s q; exact ⟨s, q, h⟩
    · exact h.elim
  · rintro ⟨s, q, h⟩; rw [q]; exact h
@[simp ↓] theorem e_pop {i : Int} : gPop μ (.m j) [.d (.int i)] k = ∃ l, μ[j]? = some (.lst l) ∧ 0 ≤ i ∧ i < 2 ^ 63 ∧ ∃ s, l[i.toNat]? = some s ∧ k s (μ.set j (.lst (l.eraseIdx i.toNat))) := by
  refine (cellL_ex (f := fun j l => 0 ≤ i ∧ i < 2 ^ 63 ∧ (match l[i.toNat]? with | some s => k s (μ.set j (.lst (l.eraseIdx i.toNat))) | none => False))).trans ?_
  congr 1; funext l; congr 1; congr 1; congr 1; apply propext
  constructor
  · intro h
    split at h
    · rename_i s q; exact ⟨s, q, h⟩
    · exact h.elim
  · rintro ⟨s, q, h⟩; rw [q]; exact h
/-! index, slices, minus, min -/
@[simp ↓] theorem e_index {l : List D} {z : Str} : gIndexT μ (.d (.tpl l)) [.d (.str z)] k = ∃ ys j, txts l = some ys ∧ FirstAt ys z j ∧ k (.d (.int (j : Nat))) μ := rfl
@[simp ↓] theorem e_sl {wl wh : AO} : aSl wa wl wh ρ μ k = wa ρ μ fun x μ1 => wl ρ μ1 fun lo μ2 => wh ρ μ2 fun hi μ3 => ∃ a, rdD μ3 x = some a ∧ fSl a lo hi k μ3 := by
  unfold aSl
  congr 1; funext x μ1; congr 1; funext lo μ2; congr 1; funext hi μ3; apply propext
  constructor
  · intro h
    split at h
    · rename_i a q; exact ⟨a, q, h⟩
    · exact h.elim
  · rintro ⟨a, q, h⟩; rw [q]; exact h
@[simp ↓] theorem e_noP {ko : Option Int → Mu → Prop} : aNoP ρ μ ko = ko none μ := rfl
@[simp ↓] theorem e_part {ko : Option Int → Mu → Prop} : aPart w ρ μ ko = w ρ μ fun x μ1 => ∃ i, rdD μ1 x = some (.int i) ∧ ko (some i) μ1 := by
  unfold aPart
  congr 1; funext x μ1; apply propext
  constructor
  · intro h
    split at h
    · rename_i i q; exact ⟨i, q, h⟩
    · exact h.elim
  · rintro ⟨i, q, h⟩; rw [q]; exact h
@[simp ↓] theorem e_slL {l : List D} {lo hi : Option Int} : fSl (.lst l) lo hi k μ = k (.d (.lst (cut l lo hi))) μ := rfl
@[simp ↓] theorem e_slT {l : List D} {lo hi : Option Int} : fSl (.tup l) lo hi k μ = k (.d (.tup (cut l lo hi))) μ := rfl
@[simp ↓] theorem e_neg : aNeg w ρ μ k = w ρ μ fun x μ1 => ∃ i, rdD μ1 x = some (.int i) ∧ k (.d (.int (-i))) μ1 := by
  unfold aNeg
  congr 1; funext x μ1; apply propext
  constructor
  · intro h
    split at h
    · rename_i i q; exact ⟨i, q, h⟩
    · exact h.elim
  · rintro ⟨i, q, h⟩; rw [q]; exact h
@[simp ↓] theorem e_min {i i' : Int} : fMin (.int i) (.int i') k μ = k (.d (.int (if i' < i then i' else i))) μ := rfl
@[simp ↓] theorem e_abs {i : Int} : fAbs (.int i) k μ = k (.d (.int (if i < 0 then -i else i))) μ := rfl
@[simp ↓] theorem e_int {i : Int} : fInt (.int i) k μ = k (.d (.int i)) μ := rfl
@[simp ↓] theorem e_tupL {l : List D} : fTup (.lst l) k μ = k (.d (.tup l)) μ := rfl
@[simp ↓] theorem e_tupT {l : List D} : fTup (.tup l) k μ = k (.d (.tup l)) μ := rfl
@[simp ↓] theorem e_lstL {l : List D} : fLst (.lst l) k μ = k (.d (.lst l)) μ := rfl
@[simp ↓] theorem e_lstT {l : List D} : fLst (.tup l) k μ = k (.d (.lst l)) μ := rfl
@[simp ↓] theorem e_lstLC {l : List D} : fLstC (.lst l) k μ = k (.m μ.length) (μ ++ [.lst (l.map .d)]) := rfl
@[simp ↓] theorem e_lstTC {l : List D} : fLstC (.tup l) k μ = k (.m μ.length) (μ ++ [.lst (l.map .d)]) := rfl
@[simp ↓] theorem e_tupC : gTupC μ [s] k = fTupC s μ k := rfl
@[simp ↓] theorem e_tupCp {l : List D} : fTupC (.d (.tpl l)) μ k = k (.d (.tpl l)) μ := rfl
@[simp ↓] theorem e_tupCt {l : List D} : fTupC (.d (.tup l)) μ k = k (.d (.tup l)) μ := rfl
@[simp ↓] theorem e_tupCl {l : List D} : fTupC (.d (.lst l)) μ k = k (.d (.tpl l)) μ := rfl
@[simp ↓] theorem e_addC : gAddC μ s s' k = ∃ a, rdD μ s = some (.lst a) ∧ ∃ b, rdD μ s' = some (.lst b) ∧ a.length + b.length ≤ sizeLine ∧ k (.m μ.length) (μ ++ [.lst ((a ++ b).map .d)]) := by
  apply propext
  unfold gAddC
  constructor
  · intro h
    split at h
    · rename_i a b h1 h2; exact ⟨a, h1, b, h2, h⟩
    · exact h.elim
  · rintro ⟨a, h1, b, h2, h⟩; rw [h1, h2]; exact h
@[simp ↓] theorem e_lenSet : aLenSet w ρ μ k = w ρ μ fun s μ1 => ∃ d l xs, rdD μ1 s = some d ∧ itemsD d = some l ∧ txts l = some xs ∧ xs.length < 4000 ∧ k (.d (.int (metS xs xs.length).length)) μ1 := rfl
@[simp ↓] theorem e_listRg : aListRg1 w ρ μ k = w ρ μ fun s μ1 => ∃ n, rdD μ1 s = some (.int n) ∧ (0 ≤ n ∧ n ≤ 16777216) ∧ k (.d (.lst ((List.range n.toNat).map fun i => .int (i : Nat)))) μ1 := by
  unfold aListRg1
  congr 1; funext x μ1; apply propext
  constructor
  · intro h
    split at h
    · rename_i i q; exact ⟨i, q, h⟩
    · exact h.elim
  · rintro ⟨i, q, h⟩; rw [q]; exact h
/-! calls -/
@[simp ↓] theorem e_call : aCall S wr ρ μ k = wr ρ μ fun ss μ1 => S ss μ1 k := rfl
@[simp ↓] theorem e_kw {m : Nat} {is : List Nat} : aKw m S is wr ρ μ k = wr ρ μ fun ss μ1 => ss.length = m ∧ S (perm is ss) μ1 k := rfl
@[simp ↓] theorem e_prop {C : Addr} : aProp S C w ρ μ k = w ρ μ fun s μ1 => ∃ ns ds, s = .d (.ins C ns ds) ∧ S [s] μ1 k := rfl
@[simp ↓] theorem e_fld {C : Addr} {f : Str} : aFld C f w ρ μ k = w ρ μ fun s μ1 => ∃ ns ds, s = .d (.ins C ns ds) ∧ ∃ d, fldD f ns ds = some d ∧ k (.d d) μ1 := by
  unfold aFld
  congr 1; funext s μ1; apply propext
  constructor
  · intro h
    split at h
    · obtain ⟨rfl, h⟩ := h
      split at h
      · rename_i d q; exact ⟨_, _, rfl, d, q, h⟩
      · exact h.elim
    · exact h.elim
  · rintro ⟨ns, ds, rfl, d, q, h⟩
    refine ⟨rfl, ?_⟩
    rw [q]; exact h
@[simp ↓] theorem e_make {C : Addr} {dd : List D} : aMakeD S C dd wr ρ μ k = wr ρ μ fun ss μ1 => S (.m μ1.length :: (ss ++ dd.map .d)) (μ1 ++ [.ins C [] []]) (made μ1 k) := rfl
@[simp ↓] theorem e_gfld {C : Addr} {f : Str} {kr : Rho → Mu → Prop} : aGfld C f w s ρ μ kr = w ρ μ fun y μ1 => ∃ j, y = .m j ∧ ∃ ns vs, μ1[j]? = some (.ins C ns vs) ∧ ns.length < 1000 ∧ kr ρ (μ1.set j (.ins C (putD f s ns vs).1 (putD f s ns vs).2)) := by
  unfold aGfld
  congr 1; funext y μ1; apply propext
  constructor
  · intro h
    split at h
    · rename_i j
      split at h
      · rename_i C' ns vs q; obtain ⟨rfl, h⟩ := h; exact ⟨j, rfl, ns, vs, q, h⟩
      · exact h.elim
    · exact h.elim
  · rintro ⟨j, rfl, ns, vs, q, h⟩
    show (match μ1[j]? with | some (.ins C' ns vs) => C' = C ∧ ns.length < 1000 ∧ kr ρ (μ1.set j (.ins C (putD f s ns vs).1 (putD f s ns vs).2)) | _ => False)
    rw [q]; exact ⟨rfl, h⟩
/-! what is walked -/
@[simp ↓] theorem e_seqI : aSeqI w ρ μ kl = aFz w ρ μ (seqK kl) := rfl
@[simp ↓] theorem e_seqL {l : List D} : seqK kl (.d (.lst l)) μ = kl l μ := rfl
@[simp ↓] theorem e_seqT {l : List D} : seqK kl (.d (.tup l)) μ = kl l μ := rfl
@[simp ↓] theorem e_seqP {l : List D} : seqK kl (.d (.tpl l)) μ = kl l μ := rfl
@[simp ↓] theorem e_rng1 : aRng1 wr ρ μ kl = wr ρ μ fun ss μ1 => ∃ s, ss = [s] ∧ ∃ j, rdD μ1 s = some (.int j) ∧ (-(2 ^ 62) ≤ j ∧ j < 2 ^ 62) ∧ kl ((List.range j.toNat).map fun i => .int (i : Nat)) μ1 := by
  unfold aRng1
  congr 1; funext ss μ1; apply propext
  constructor
  · intro h
    split at h
    · split at h
      · rename_i j q; exact ⟨_, rfl, j, q, h⟩
      · exact h.elim
    · exact h.elim
  · rintro ⟨s, rfl, j, q, h⟩
    show (match rdD μ1 s with | some (.int j) => (-(2 ^ 62) ≤ j ∧ j < 2 ^ 62) ∧ kl ((List.range j.toNat).map fun i => .int (i : Nat)) μ1 | _ => False)
    rw [q]; exact h
@[simp ↓] theorem e_strI : aStrI w ρ μ kl = w ρ μ fun s μ1 => ∃ x, rdD μ1 s = some (.str x) ∧ kl (signs x) μ1 := by
  unfold aStrI
  congr 1; funext x μ1; apply propext
  constructor
  · intro h
    split at h
    · rename_i i q; exact ⟨i, q, h⟩
    · exact h.elim
  · rintro ⟨i, q, h⟩; rw [q]; exact h
@[simp ↓] theorem e_enumI : aEnumI wr ρ μ kl = wr ρ μ (oneK fun l μ1 => kl (numbered l) μ1) := rfl
@[simp ↓] theorem e_oneL {l : List D} : oneK kl [.d (.lst l)] μ = kl l μ := rfl
@[simp ↓] theorem e_oneT {l : List D} : oneK kl [.d (.tup l)] μ = kl l μ := rfl
@[simp ↓] theorem e_oneP {l : List D} : oneK kl [.d (.tpl l)] μ = kl l μ := rfl
/-! loops -/
def lcK (ga : AG) (u : AT) (we : AE) (vs : List Nat) (ρ : Rho) (k : Sl → Mu → Prop) : List D → Mu → Prop := fun ds μ1 => ∃ I : Nat → List D → Mu → Prop, I 0 [] μ1 ∧
  (∀ i d acc μ', ds[i]? = some d → I i acc μ' → ga (.d d) (wipeR ρ vs) μ' fun ρ2 μ2 => u ρ2 μ2 fun b μ3 => if b = true then aFz we ρ2 μ3 fun s μ4 => ∃ y, s = .d y ∧ acc.length < sizeLine ∧ I (i + 1) (acc ++ [y]) μ4 else I (i + 1) acc μ3) ∧
  ∀ acc μ', I ds.length acc μ' → k (.d (.lst acc)) μ'
@[simp ↓] theorem e_lc {wi : AIt} {ga : AG} {we : AE} {vs : List Nat} : aLc wi ga u we vs ρ μ k = wi ρ μ (lcK ga u we vs ρ k) := rfl
/-- [f d for d in ds if c d], each turn leaves the memory -/
theorem lc_run {ga : AG} {we : AE} {vs : List Nat} {ds : List D} (f : D → D) (c : D → Bool) (hl : ds.length < sizeLine)
    (ht : ∀ d ∈ ds, ∀ (K1 : Sl → Mu → Prop) (K2 : Mu → Prop), (c d = true → K1 (.d (f d)) μ) → (c d = false → K2 μ) → ga (.d d) (wipeR ρ vs) μ fun ρ2 μ2 => u ρ2 μ2 fun z μ3 => if z = true then aFz we ρ2 μ3 K1 else K2 μ3)
    (hk : k (.d (.lst ((ds.filter c).map f))) μ) : lcK ga u we vs ρ k ds μ := by
  refine ⟨fun i acc μ' => μ' = μ ∧ i ≤ ds.length ∧ acc = ((ds.take i).filter c).map f, ⟨rfl, Nat.zero_le _, by simp⟩, ?_, ?_⟩
  · rintro i d acc μ' hd ⟨rfl, hi, rfl⟩
    obtain ⟨hlt, e⟩ := List.getElem?_eq_some_iff.mp hd
    have et : ds.take (i + 1) = ds.take i ++ [d] := by rw [List.take_succ_eq_append_getElem hlt, e]
    refine ht d (List.mem_of_getElem? hd) _ _ (fun ct => ⟨f d, rfl, ?_, rfl, hlt, ?_⟩) fun cf => ⟨rfl, hlt, ?_⟩
    · have h1 := List.length_filter_le c (ds.take i)
      have h2 : (ds.take i).length ≤ ds.length := List.length_take_le' ..
      rw [List.length_map]; omega
    · rw [et, List.filter_append, List.map_append]; simp [ct]
    · rw [et, List.filter_append, List.map_append]; simp [cf]
  · rintro acc μ' ⟨rfl, _, rfl⟩
    rw [List.take_length]
    exact hk
/-- [f d for d in ds], each turn leaves the memory -/
theorem lc_map {ga : AG} {we : AE} {vs : List Nat} {ds : List D} (f : D → D) (hl : ds.length < sizeLine)
    (ht : ∀ d ∈ ds, ∀ (K1 : Sl → Mu → Prop) (K2 : Mu → Prop), K1 (.d (f d)) μ → ga (.d d) (wipeR ρ vs) μ fun ρ2 μ2 => u ρ2 μ2 fun z μ3 => if z = true then aFz we ρ2 μ3 K1 else K2 μ3)
    (hk : k (.d (.lst (ds.map f))) μ) : lcK ga u we vs ρ k ds μ :=
  lc_run f (fun _ => true) hl (fun d hd K1 K2 h1 _ => ht d hd K1 K2 (h1 rfl)) (by rw [List.filter_eq_self.mpr fun _ _ => rfl]; exact hk)
def forK (g : AG) (b : AS) (A : AEnds) (ρ : Rho) : List D → Mu → Prop := fun ds μ1 => ∃ I : Nat → Rho → Mu → Prop, I 0 ρ μ1 ∧
  (∀ i d ρ' μ', ds[i]? = some d → I i ρ' μ' → g (.d d) ρ' μ' fun ρ2 μ2 => b { A with nx := I (i + 1), ct := I (i + 1), bk := A.nx } ρ2 μ2) ∧ ∀ ρ' μ', I ds.length ρ' μ' → A.nx ρ' μ'
@[simp ↓] theorem e_for {wi : AIt} {ga : AG} : aFor wi ga b A ρ μ = wi ρ μ (forK ga b A ρ) := rfl
end
end Ww
/-! W17: index of a text in a list. -/
namespace Ww
open PySem PySem.Spec PyProof.Rows L2
section
variable {X : Cx} {e o : Expr} {tr : TA} {wr : AA} {to : TE} {wo : AE} {apos cpos : Pos}
def gIndexL : AR3 := fun μ y xs k => ∃ l z ys j, rdD μ y = some (.lst l) ∧ xs = [.d (.str z)] ∧ txts l = some ys ∧ FirstAt ys z j ∧ k (.d (.int (j : Nat))) μ
theorem snd_indexL {K : Fg} : SndM K "list" (rIndex K) gIndexL := by
  intro F H μ as y u xs vs k Q M r rs h hQ
  obtain ⟨l, z, ys, j, e1, rfl, e2, f, h⟩ := h
  cases rs with
  | cons r1 r2 =>
    cases r2
    have e3 : _ = V.str z := r1
    subst e3
    obtain ⟨a, us, rfl, g1, g2⟩ := rd_ok M r e1
    have e4 := txts_ok g2 e2
    subst e4
    refine ⟨a, ys.map V.str, .str z, j, .str z, rfl, rfl, .inl g1, rfl, flat_strs ys, by rw [List.getElem?_map, f.1]; rfl, ?_, fun m z' hm hz => ?_, hQ _ _ _ _ (.d (.int _)) _ .refl M reps_int h⟩
    · show (z == z) = true
      exact beq_self_eq_true z
    · rw [List.getElem?_map] at hz
      obtain ⟨x, hx, rfl⟩ := Option.map_eq_some_iff.mp hz
      show (x == z) = false
      exact beq_eq_false_iff_ne.mpr fun q => f.2 m hm (by rw [hx, q])
theorem j_indexL (ho : JE X o to wo) (ha : JA X [e] tr wr) (hbase : attributeBase o "index" X.env (eval o X.env) = eval o X.env := by rfl)
    (hfew : ((backTo cpos (starEach [e] X.env)).all (fun x => !x.1) && (backToKw cpos (keywordEach [] X.env)).all (fun x => x.1.isSome)
      && decide ([e].length + ([] : List Keyword).length + (if ([] : List Keyword).isEmpty then 0 else 1) < 30)) = true := by rfl)
    (hline : (apos.endLine == cpos.line) = true := by rfl) (hse : starEach [e] X.env = (false, eval e X.env) :: starEach [] X.env := by rfl) (hplain : (backTo cpos (starEach [] X.env)).any (·.1) = false := by rfl) :
    JE X (.Call (.Attribute o "index" apos) [e] [] cpos) (tBM X.K "list" (rIndex X.K) to tr) (aBM gIndexL wo wr) := j_bm PySem.F.slot_list_index PySem.F.type_list_index mt_index snd_indexL ho ha hbase hfew hline hse hplain
end
end Ww
/-! W18: {k: v for a in S for b in T}, the keys tuples. -/
namespace Ww
open PySem PySem.Spec PyProof.Rows L2
section
variable {P : Program} {w : World} {A : Around} {R : Result → Shared → Prop} {s : Shared} {ke ve ta sa tb sb : Expr} {scope : Scope} {pos : Pos} {it acc : Value} {D : Addr} {env : Env}
abbrev dc2 (ke ve ta sa tb sb : Expr) (scope : Scope) (pos : Pos) : Expr := .DictComp ke ve [⟨ta, sa, [], 0⟩, ⟨tb, sb, [], 0⟩] scope pos
theorem dc2_turn0 : compTurn (dc2 ke ve ta sa tb sb scope pos) 0 it acc env = (do
      standAt sa.pos
      match ← pyNext it with
      | none => pure (.done .next)
      | some z =>
        letOwnedTupleGo ta it z
        assign ta env z
        let l ← eval sb env
        standAt sb.pos
        let l ← foldedSetIterable sb env l
        let _ ← runOwn (.compStart (dc2 ke ve ta sa tb sb scope pos) 1 (← holding [l] (pyIter l)) acc env) env
        again (.compLoop (dc2 ke ve ta sa tb sb scope pos) 0 it acc env)) := by rfl
theorem dc2_turn1 : compTurn (dc2 ke ve ta sa tb sb scope pos) 1 it (.ref D) env = (do
      standAt sb.pos
      match ← pyNext it with
      | none => pure (.done .next)
      | some z =>
        letOwnedTupleGo tb it z
        assign tb env z
        (do
          let q ← eval ke env
          let r ← holding [q] (eval ve env)
          standAt { ke.pos with endLine := ve.pos.endLine, endCol := ve.pos.endCol }
          holding [q, r] (dictSet D q r))
        again (.compLoop (dc2 ke ve ta sa tb sb scope pos) 1 it (.ref D) env)) := by rfl
abbrev Nt (P : Program) (w : World) (A : Around) (env : Env) (R : Result → Shared → Prop) : Value → Shared → Prop := notedBy (model P w) A env fun e z => R (.error e) z
theorem dc2_loop0 (fold : ∀ l, foldedSetIterable sb env l = pure l) (J : Nat → Shared → Prop)
    (turn : ∀ n s, J n s → wpAny (model P w) A (pyNext it) (fun r z1 => match r with
      | none => R (.ok .next) z1
      | some v => wpAny (model P w) A (letOwnedTupleGo ta it v) (fun _ z2 => wpAny (model P w) A (assign ta env v) (fun _ z3 =>
          wpAny (model P w) A (eval sb env) (fun l z4 => wpAny (model P w) A (pyIter l) (fun jt z5 =>
              codeAny (model P w) A (.compStart (dc2 ke ve ta sa tb sb scope pos) 1 jt acc env) (fun r z => match r with
                | .ok _ => ∃ m, m < n ∧ J m z
                | .error _ => False) z5) (Nt P w A env R) z4) (Nt P w A env R) z3) (Nt P w A env R) z2) (Nt P w A env R) z1) (Nt P w A env R) s)
    (n : Nat) (h : J n s) : codeAny (model P w) A (.compLoop (dc2 ke ve ta sa tb sb scope pos) 0 it acc env) R s := by
  refine codeAny_loop rfl J (fun n s hJ => ?_) n h
  show wpAny _ A ((compTurn (dc2 ke ve ta sa tb sb scope pos) 0 it acc env).onRaise (fun x => do noteFrame x env; theTreesLotGoes x)) _ _ s
  refine wpAny_noted ?_
  rw [dc2_turn0]
  refine wpAny_bind (wpAny_standAt (wpAny_bind (wpAny_mono (turn n s hJ) (fun r z1 h1 => ?_) fun _ _ q => q)))
  cases r with
  | none => exact wpAny_pure h1
  | some v =>
    refine wpAny_bind (wpAny_mono h1 (fun _ z2 h2 => ?_) fun _ _ q => q)
    refine wpAny_bind (wpAny_mono h2 (fun _ z3 h3 => ?_) fun _ _ q => q)
    refine wpAny_bind (wpAny_mono h3 (fun l z4 h4 => ?_) fun _ _ q => q)
    refine wpAny_bind (wpAny_standAt (wpAny_bind (wpAny_of_eq (fold l) (wpAny_bind (wpAny_holding (wpAny_mono h4 (fun jt z5 h5 => ?_) fun _ _ q => q))))))
    refine wpAny_bind (wpAny_runOwn ?_)
    rw [Around.mark_none]
    refine codeAny_mono h5 fun r z hr => ?_
    cases r with
    | ok f =>
      first
        | exact wpAny_pure ⟨rfl, hr⟩
        | exact wpAny_bind (wpAny_pure (wpAny_pure ⟨rfl, hr⟩))
    | error e => exact hr.elim
theorem dc2_loop1 (J : Nat → Shared → Prop)
    (turn : ∀ n s, J n s → wpAny (model P w) A (pyNext it) (fun r z1 => match r with
      | none => R (.ok .next) z1
      | some v => wpAny (model P w) A (letOwnedTupleGo tb it v) (fun _ z2 => wpAny (model P w) A (assign tb env v) (fun _ z3 =>
          wpAny (model P w) A (eval ke env) (fun q z4 => wpAny (model P w) A (eval ve env) (fun r z5 =>
              wpAny (model P w) A (dictSet D q r) (fun _ z6 => ∃ m, m < n ∧ J m z6) (Nt P w A env R) z5) (Nt P w A env R) z4) (Nt P w A env R) z3) (Nt P w A env R) z2) (Nt P w A env R) z1) (Nt P w A env R) s)
    (n : Nat) (h : J n s) : codeAny (model P w) A (.compLoop (dc2 ke ve ta sa tb sb scope pos) 1 it (.ref D) env) R s := by
  refine codeAny_loop rfl J (fun n s hJ => ?_) n h
  show wpAny _ A ((compTurn (dc2 ke ve ta sa tb sb scope pos) 1 it (.ref D) env).onRaise (fun x => do noteFrame x env; theTreesLotGoes x)) _ _ s
  refine wpAny_noted ?_
  rw [dc2_turn1]
  refine wpAny_bind (wpAny_standAt (wpAny_bind (wpAny_mono (turn n s hJ) (fun r z1 h1 => ?_) fun _ _ q => q)))
  cases r with
  | none => exact wpAny_pure h1
  | some v =>
    refine wpAny_bind (wpAny_mono h1 (fun _ z2 h2 => ?_) fun _ _ q => q)
    refine wpAny_bind (wpAny_mono h2 (fun _ z3 h3 => ?_) fun _ _ q => q)
    refine wpAny_bind (wpAny_bind (wpAny_mono h3 (fun q z4 h4 => wpAny_bind (wpAny_holding (wpAny_mono h4 (fun r z5 h5 => wpAny_bind (wpAny_standAt (wpAny_holding (wpAny_mono h5 (fun _ z6 h6 => wpAny_pure ⟨rfl, h6⟩) fun _ _ q => q)))) fun _ _ q => q))) fun _ _ q => q))
theorem dc2_start1 (h0 : codeAny (model P w) A (.compLoop (dc2 ke ve ta sa tb sb scope pos) 1 it acc env) R s)
    (h : wpAny (model P w) A (pyIter it) (fun jt z => codeAny (model P w) A (.compLoop (dc2 ke ve ta sa tb sb scope pos) 1 jt acc env) R z) (Nt P w A env R) s) :
    codeAny (model P w) A (.compStart (dc2 ke ve ta sa tb sb scope pos) 1 it acc env) R s := by
  refine codeAny_of_tree ?_
  show wpAny _ _ ((compStart (dc2 ke ve ta sa tb sb scope pos) 1 it acc env).onRaise (fun x => do noteFrame x env; standAt theWindowsPlace)) _ _ s
  refine wpAny_notedAt ?_
  unfold compStart
  refine wpAny_bind (wpAny_askSetting (wpAny_ite ?_))
  split
  · first
      | exact wpAny_pure ⟨rfl, h0⟩
      | exact wpAny_bind (wpAny_pure (wpAny_pure ⟨rfl, h0⟩))
  · refine wpAny_bind (wpAny_rule ?_)
    show wpAny _ _ (standAt sb.pos >>= _) _ _ s
    exact wpAny_bind (wpAny_standAt (wpAny_bind (wpAny_mono h (fun jt z q => wpAny_pure ⟨rfl, q⟩) fun _ _ q => q)))
end
section
variable {X : Cx}
/-- D[y] = z in a comprehension, y a tuple of ints and texts -/
theorem dT_set {pins : List (Addr × Obj)} {σ : L2.St} {H : Hp} {s : Shared} {E : Value → Shared → Prop} {D b : Addr} {kvs : List (List Key × V)} {k : List Key} {z : V} {u r : Value} {Q : Unit → Shared → Prop} (hu : X.A.units + 1 < cLine) (I : Inv X pins σ H s)
    (hD : H D = some (.dT kvs)) (hb : H b = some (.tup (k.map kV))) (hz : kvs.length < sizeLine) (ru : L2.RelV (.ref b) u) (rr : L2.RelV z r) (h : ∀ s', Inv X pins σ (upd H D (.dT (putK kvs k z))) s' → Q () s') : wpAny (model X.prog X.w) X.A (dictSet D u r) Q E s := by
  cases (show u = Value.ref b from ru)
  obtain ⟨c1, c2, xs, rel, dd⟩ := dt_of I.hok hD
  have room : (tupleKind (mixKind X.prog X.w)).room X.A := Nat.lt_of_succ_lt hu
  have l1 : xs.length ≤ sizeLine := Nat.le_trans (Nat.le_of_eq (Paired.length rel).symm) c1
  have l2 : (putK kvs k z).length ≤ sizeLine := Nat.le_trans (length_putK kvs k z) hz
  refine wpAny_dictSet_heap (hsz := l1) room (key_of I.hok hb) dd fun h' d1 same => h _ ?_
  obtain ⟨o, es, ep, g1, g2, g3, g4, _, g5⟩ := d1
  have J : ObjOk X.prog X.w (upd H D (.dT (putK kvs k z))) h' D (.dT (putK kvs k z)) :=
    ⟨l2, c2, _, (rel.put k hb rr).keeps fun c ys e => by rw [upd_ne (ne_of e hD (fun q => nomatch q))]; exact e, o, es, ep, g1, g2, g3, g4, g5⟩
  exact d_write I (by rw [hD]; trivial) same ⟨o, g1⟩ J
/-- the reading -/
def tDc2 (wi : TI) (g : TG) (wi1 : TI) (g1 : TG) (tk tv : TE) (vs vs1 : List Nat) : TE := fun σ H Q => wi σ H fun J H1 => ∀ D, H1 D = none → ∃ W : Nat → Nat → Hp → Prop, (∃ m, W 0 m (upd H1 D (.dT []))) ∧ ∀ i m H, W i m H →
  (J.stop i H ∧ Q (.ref D) H) ∨ (J.go i H ∧ ∃ Nx : Hp → Prop, (∀ H', Nx H' → ∃ m', m' < m ∧ W (i + 1) m' H') ∧ ∀ x H', J.yld i H x H' → g x (wipe σ vs) H' fun σ2 H2 => wipe σ2 vs = wipe σ vs ∧
    wi1 σ2 H2 fun J1 H4 => ∃ W1 : Nat → Nat → Hp → Prop, (∃ m, W1 0 m H4) ∧ ∀ j k H, W1 j k H →
      (J1.stop j H ∧ Nx H) ∨ (J1.go j H ∧ ∃ Ny : Hp → Prop, (∀ H', Ny H' → ∃ k', k' < k ∧ W1 (j + 1) k' H') ∧ ∀ x H', J1.yld j H x H' → g1 x (wipe σ2 vs1) H' fun σ3 H5 => wipe σ3 vs1 = wipe σ2 vs1 ∧
        tk σ3 H5 fun y H6 => tv σ3 H6 fun z H7 => ∃ kvs k b, y = .ref b ∧ H7 b = some (.tup (k.map kV)) ∧ H7 D = some (.dT kvs) ∧ kvs.length < sizeLine ∧ Ny (upd H7 D (.dT (putK kvs k z)))))
theorem pe_dc2 {ke ve ta sa tb sb : Expr} {scope : Scope} {own : List (Str × Nat)} {vs1 : List Nat} {pos : Pos} {wi wi1 : TI} {g g1 : TG} {tk tv : TE} (hu : X.A.units + 1 < cLine) (hc : X.calm = true) (hN : X.N.Nodup) (hi : PI X ta sa wi) (ok : BlkOk X.N X.env.scope scope own) (hv : ∀ i ∈ vs1, i ∈ own.map (·.2))
    (hg : ∀ (s : Shared) (H : Hp) (C : Addr) (cl : List (Str × Addr)) (fp : List Addr), PG (X.blk s H scope (compEnvC scope cl C X.env) fp) ta g)
    (hj : ∀ (s : Shared) (H : Hp) (C : Addr) (cl : List (Str × Addr)) (fp : List Addr), PI (X.blk s H scope (compEnvC scope cl C X.env) fp) tb sb wi1)
    (hh : ∀ (s : Shared) (H : Hp) (C : Addr) (cl : List (Str × Addr)) (fp : List Addr), PG (X.blk s H scope (compEnvC scope cl C X.env) fp) tb g1)
    (hk : ∀ (s : Shared) (H : Hp) (C : Addr) (cl : List (Str × Addr)) (fp : List Addr), PE (X.blk s H scope (compEnvC scope cl C X.env) fp) ke tk)
    (he : ∀ (s : Shared) (H : Hp) (C : Addr) (cl : List (Str × Addr)) (fp : List Addr), PE (X.blk s H scope (compEnvC scope cl C X.env) fp) ve tv)
    (f0 : ∀ x, foldedSetIterable sa X.env x = pure x := by intro _; rfl) (f1 : ∀ env x, foldedSetIterable sb env x = pure x := by intro _ _; rfl) :
    PE X (dc2 ke ve ta sa tb sb scope pos) (tDc2 wi g wi1 g1 tk tv (own.map (·.2)) vs1) := by
  refine ⟨fun pins s σ H Q I h => ?_⟩
  rw [arm_eval_DictComp]
  have hfree : ∀ y ∈ scope.names, y.2 = .free → ∃ c, X.env.cells.lookup y.1 = some c := fun y hy e => (ok.free y hy e).elim (fun k => I.ok.has _ (.inl k)) fun k => I.ok.has _ (.inr k)
  refine wpAny_comprehension_free (use := none) rfl f0 (closure_ok hfree) ok.kind (fun y hy e => (ok.uniq y hy).trans (by rw [e])) (thn (hi.run pins s σ H _ I h) fun xv s1 hx => thn hx fun itv s2 h2 => ?_)
  obtain ⟨it, fp, tn, J, H2, e0, I2, T, st2, fpo, q⟩ := h2
  subst e0
  refine wpAny_newObj_type (newEnv_comp ?_)
  obtain ⟨D, hD⟩ : ∃ D, D = s2.heap.objs.size := ⟨_, rfl⟩
  have Dnew : H2 D = none := I2.hok.fresh (by rw [hD]; exact Nat.le_refl _)
  obtain ⟨W, ⟨m0, w0⟩, turn⟩ := q D Dnew
  obtain ⟨s3, hs3⟩ : ∃ s3 : Shared, s3 = { s2 with heap := s2.heap.push { cls := .type "dict", data := .dict #[] } } := ⟨_, rfl⟩
  have hp3 : s3.heap = s2.heap.push { cls := .type "dict", data := .dict #[] } := by rw [hs3]
  have I3 : Inv X pins σ (upd H2 D (.dT [])) s3 := by
    rw [hs3, hD]
    exact I2.laid (t' := s2.toks) (fun b o e => Heap.get?_push_of_some _ e) (Nat.le_refl _) (dt_empty s2.heap I2.big)
  have low : ∀ b ∈ fp, b < s2.heap.objs.size := fun b hb => let ⟨o, e, _⟩ := T.obj _ _ st2 b hb; Heap.lt_size e
  have fp3 : ∀ b ∈ fp, FpOk X pins (upd H2 D (.dT [])) b ∧ b < s3.heap.objs.size := fun b hb => by
    have lt := low b hb
    have ne : b ≠ D := fun e => Nat.lt_irrefl D (by rw [← e] at hD ⊢; exact hD ▸ lt)
    refine ⟨⟨?_, (fpo b hb).2⟩, ?_⟩
    · rw [upd_ne ne]; exact (fpo b hb).1
    · rw [hp3, Heap.size_push]; exact Nat.lt_succ_of_lt lt
  have st3 : tn 0 s3.heap := T.keep _ _ _ st2 fun b _ o e => by rw [hp3]; exact Heap.get?_push_of_some _ e
  have I4 := block_start I3 ok hN fp3
  have pg := hg s3 (upd H2 D (.dT [])) s3.heap.objs.size (cellsFrom (s3.heap.objs.size + 1) scope.names (cloFrom X.env.cells scope.names [])) fp
  have pj := hj s3 (upd H2 D (.dT [])) s3.heap.objs.size (cellsFrom (s3.heap.objs.size + 1) scope.names (cloFrom X.env.cells scope.names [])) fp
  have ph := hh s3 (upd H2 D (.dT [])) s3.heap.objs.size (cellsFrom (s3.heap.objs.size + 1) scope.names (cloFrom X.env.cells scope.names [])) fp
  have pk := hk s3 (upd H2 D (.dT [])) s3.heap.objs.size (cellsFrom (s3.heap.objs.size + 1) scope.names (cloFrom X.env.cells scope.names [])) fp
  have pv := he s3 (upd H2 D (.dT [])) s3.heap.objs.size (cellsFrom (s3.heap.objs.size + 1) scope.names (cloFrom X.env.cells scope.names [])) fp
  have dead : ∀ b ∈ fp, (upd H2 D (.dT [])) b = none := fun b hb => (fp3 b hb).1.1
  rw [← hD]
  rw [← hs3]
  show codeAny _ _ (.compStart (dc2 ke ve ta sa tb sb scope pos) 0 (.ref it) (.ref D) (compEnvC scope (cellsFrom (s3.heap.objs.size + 1) scope.names (cloFrom X.env.cells scope.names [])) s3.heap.objs.size X.env)) (compPost (model X.prog X.w) X.A X.xe none (EP X pins σ Q) (.ref D) s3.heap.objs.size) { s3 with heap := pushCells (s3.heap.push { cls := .type "dict", data := .dict #[] }) scope.names }
  generalize hce : compEnvC scope (cellsFrom (s3.heap.objs.size + 1) scope.names (cloFrom X.env.cells scope.names [])) s3.heap.objs.size X.env = ce at I4 pg pj ph pk pv ⊢
  have cL : ce.locals = s3.heap.objs.size := by rw [← hce]; rfl
  generalize hH3 : upd H2 D (.dT []) = H3 at I3 I4 pg pj ph pk pv w0 dead fp3
  generalize hs4 : ({ s3 with heap := pushCells (s3.heap.push { cls := .type "dict", data := .dict #[] }) scope.names } : Shared) = s4 at I4 ⊢
  have st4 : tn 0 s4.heap := T.keep _ _ _ st3 fun b _ o e => by rw [← hs4]; exact pushCells_keeps _ _ _ _ (Heap.get?_push_of_some _ e)
  have still : ∀ {σ' : L2.St} {H' : Hp} {z : Shared}, Inv (X.blk s3 H3 scope ce fp) [] σ' H' z → (∀ b ∈ fp, H' b = none) → ∀ b ∈ fp, FpOk (X.blk s3 H3 scope ce fp) [] H' b := fun {σ' H' z} K hn b hb =>
    ⟨hn b hb, (K.ok.exf b hb).1, K.ok.exfs b hb, .inl hb, fun x c e => (K.ok.exf b hb).2 x c e, fun p hp => absurd (show p ∈ ([] : List (Addr × Obj)) ++ [] from hp) (by simp)⟩
  -- what holds at the head of each turn of the first clause
  let Top : Nat → Shared → Prop := fun n z => ∃ i G, Inv (X.blk s3 H3 scope ce fp) [] (wipe σ (own.map (·.2))) G z ∧ tn i z.heap ∧ (∀ b ∈ fp, G b = none) ∧ W i n G
  have loop : codeAny (model X.prog X.w) X.A (.compLoop (dc2 ke ve ta sa tb sb scope pos) 0 (.ref it) (.ref D) ce) (compPost (model X.prog X.w) X.A X.xe none (EP X pins σ Q) (.ref D) s3.heap.objs.size) s4 := by
    refine dc2_loop0 (f1 ce) Top ?_ m0 ⟨0, H3, I4, st4, dead, w0⟩
    rintro n s5 ⟨i, H5, I5, st5, n5, w5⟩
    rcases turn i n H5 w5 with ⟨stop, fin⟩ | ⟨go, Nx, hNx, step⟩
    · refine thnF (T.done (X.blk s3 H3 scope ce fp) rfl rfl rfl hc i [] s5 _ H5 (fun _ _ => False) I5 (still I5 n5) st5 stop) fun r s6 ⟨hr, I6⟩ => ?_
      subst hr
      have I7 : Inv X pins σ H5 s6 := I3.call' (ch := fp) I6.os I6.base I6.hok I6.bare fun b hb => let z := (fp3 b hb).1; ⟨z.2.2.2.1, z.2.1, z.2.2.2.2.1, z.2.2.2.2.2⟩
      have nC : H5 s3.heap.objs.size = none := by
        have z : H5 ce.locals = none := I6.free
        rwa [cL] at z
      obtain ⟨m, hn, _⟩ := I6.loc
      have hn2 : s6.heap.Ns ce.locals m := hn
      rw [cL] at hn2
      refine ⟨m, hn2, fun h'' sb => ?_⟩
      obtain ⟨a0, a1, a2, a3, a4, a5⟩ := I3.fpOk (H' := H5) (Nat.le_refl s3.heap.objs.size) nC
      exact ⟨.ref D, H5, I7.turned (t' := s6.toks) (fun b o hb e => (sb.2 b hb).trans e) a0 a1 a3 a4 a5, rfl, fin⟩
    · refine thnF (T.item (X.blk s3 H3 scope ce fp) rfl rfl rfl hc i [] s5 _ H5 (fun _ _ => False) I5 (still I5 n5) st5 go) fun r s6 ⟨u, hr, h6⟩ => ?_
      subst hr
      refine thnF h6 fun _ s7 ⟨x, H7, I7, r7, y7, st7, n7⟩ => ?_
      have I7' := I7.pinned (still I7 n7) (T.obj _ _ st7)
      refine thnF (pg.run _ s7 _ H7 x u _ I7' r7 (step x H7 y7)) fun _ s8 ⟨σ8, H8, I8, hw8, q8⟩ => ?_
      -- on to the next turn
      have on : ∀ {σ9 : L2.St} {z : Shared} {G : Hp}, Inv (X.blk s3 H3 scope ce fp) ([] ++ pinsAt fp s7.heap) σ9 G z → (wipe σ (own.map (·.2))).length = σ9.length → (∀ (j : Nat) v, (wipe σ (own.map (·.2)))[j]? = some (some v) → σ9[j]? = some (some v)) → Nx G → ∃ m, m < n ∧ Top m z := fun {σ9 z G} K hl hk nx => by
        obtain ⟨m', hm, w'⟩ := hNx G nx
        have there : ∀ b ∈ fp, ∀ o, s7.heap.get? b = some o → z.heap.get? b = some o ∧ G b = none := fun b hb o e =>
          let p := K.pin (b, o) (List.mem_append_right _ (List.mem_append_right _ (mem_pinsAt hb e)))
          ⟨p.1, p.2.1⟩
        refine ⟨m', hm, i + 1, G, (K.unpinned (pins := [])).weak hl hk, T.keep _ _ _ st7 fun b hb o e => (there b hb o e).1, fun b hb => ?_, w'⟩
        obtain ⟨o, e, _⟩ := T.obj _ _ st7 b hb
        exact (there b hb o e).2
      have hk8 : ∀ (j : Nat) v, (wipe σ (own.map (·.2)))[j]? = some (some v) → (wipe σ8 vs1)[j]? = some (some v) := fun j v e => by
        rw [← hw8] at e
        obtain ⟨e1, e2⟩ := wipe_some e
        rw [wipe_out fun z => e2 (hv j z)]
        exact e1
      have hl8 : (wipe σ (own.map (·.2))).length = (wipe σ8 vs1).length := by rw [← hw8, wipe_length, wipe_length]
      refine thnF (pj.run _ s8 σ8 H8 _ I8 q8) fun xv s10 hx => thnF hx fun itv s11 h11 => ?_
      obtain ⟨it1, fq, tm, J1, H11, e1, I11, T1, st11, f11, W1, ⟨m1, w1⟩, turn1⟩ := h11
      subst e1
      have still1 : ∀ {G : Hp}, (∀ b ∈ fq, G b = none) → ∀ b ∈ fq, FpOk (X.blk s3 H3 scope ce fp) ([] ++ pinsAt fp s7.heap) G b := fun hn b hb => ⟨hn b hb, (f11 b hb).2⟩
      have loop1 : codeAny (model X.prog X.w) X.A (.compLoop (dc2 ke ve ta sa tb sb scope pos) 1 (.ref it1) (.ref D) ce) (fun r z => match r with
              | .ok _ => ∃ m, m < n ∧ Top m z
              | .error _ => False) s11 := by
        refine dc2_loop1 (fun k z => ∃ j G, Inv (X.blk s3 H3 scope ce fp) ([] ++ pinsAt fp s7.heap) (wipe σ8 vs1) G z ∧ tm j z.heap ∧ (∀ b ∈ fq, G b = none) ∧ W1 j k G) ?_ m1 ⟨0, H11, I11.weak (wipe_length _ _) (fun j v e => (wipe_some e).1), st11, fun b hb => (f11 b hb).1, w1⟩
        rintro k s12 ⟨j, H12, I12, st12, n12, w12⟩
        rcases turn1 j k H12 w12 with ⟨stop1, nx1⟩ | ⟨go1, Ny, hNy, step1⟩
        · refine thnF (T1.done (X.blk s3 H3 scope ce fp) rfl rfl rfl hc j _ s12 (wipe σ8 vs1) H12 (fun _ _ => False) I12 (still1 n12) st12 stop1) fun r s13 ⟨hr, I13⟩ => ?_
          subst hr
          exact on I13 hl8 hk8 nx1
        · refine thnF (T1.item (X.blk s3 H3 scope ce fp) rfl rfl rfl hc j _ s12 (wipe σ8 vs1) H12 (fun _ _ => False) I12 (still1 n12) st12 go1) fun r s13 ⟨u1, hr, h13⟩ => ?_
          subst hr
          refine thnF h13 fun _ s14 ⟨x1, H14, I14, r14, y14, st14, n14⟩ => ?_
          have I14' := I14.pinned (still1 n14) (T1.obj _ _ st14)
          refine thnF (ph.run _ s14 (wipe σ8 vs1) H14 x1 u1 _ I14' r14 (step1 x1 H14 y14)) fun _ s15 ⟨σ15, H15, I15, hw15, q15⟩ => ?_
          refine thnF (pk.run _ s15 σ15 H15 _ I15 q15) fun kv s16 ⟨yk, H16, I16, r16, q16⟩ => ?_
          refine thnF (pv.run _ s16 σ15 H16 _ I16 q16) fun vv s17 ⟨yv, H17, I17, r17, kvs, key, b, eb, hb17, hD17, hz17, nx⟩ => ?_
          subst eb
          refine dT_set (X := X.blk s3 H3 scope ce fp) hu I17 hD17 hb17 hz17 r16 r17 fun s18 I18 => ?_
          obtain ⟨m', hm, w'⟩ := hNy _ nx
          have there : ∀ b ∈ fq, ∀ o, s14.heap.get? b = some o → s18.heap.get? b = some o ∧ (upd H17 D (.dT (putK kvs key yv))) b = none := fun b hb o e =>
            let p := I18.pin (b, o) (List.mem_append_right _ (List.mem_append_right _ (mem_pinsAt hb e)))
            ⟨p.1, p.2.1⟩
          refine ⟨m', hm, j + 1, _, I18.unpinned.weak (by rw [← hw15, wipe_length]) (fun j v e => by rw [← hw15] at e; exact (wipe_some e).1), T1.keep _ _ _ st14 fun b hb o e => (there b hb o e).1, fun b hb => ?_, w'⟩
          obtain ⟨o, e, _⟩ := T1.obj _ _ st14 b hb
          exact (there b hb o e).2
      exact dc2_start1 loop1 (T1.self X.A 0 _ _ _ st11 loop1)
  exact codeAny_compStart_dict loop (T.self X.A 0 _ _ _ st4 loop)
end
end Ww
/-! W19: an object under way; the comprehension over data; a display that is a cell; == of dicts with tuples for keys. -/
namespace Ww
open PySem PySem.Spec PyProof.Rows L2
/-- the object at Dl is by no cell and not yet data; P tells of it -/
structure WayO (K : Fg) (F H : Hp) (μ : Mu) (as : List Addr) (Dl : Addr) (P : Hp → HO → Prop) : Prop where
  mem : Mem K F H μ as
  out : Dl ∉ as
  free : F Dl = none
  at_ : ∃ o, H Dl = some o ∧ P F o
def MonoP (P : Hp → HO → Prop) : Prop := ∀ F F' o, Sub F F' → P F o → P F' o
section
variable {K : Fg} {F H F' H' F0 H0 : Hp} {μ μ' : Mu} {as as' as0 : List Addr} {Dl : Addr} {P P' : Hp → HO → Prop} {o : HO}
theorem RepS.sub (e : Sub F F') : ∀ {s : Sl} {v : V}, RepS K F as s v → RepS K F' as s v
  | .d x, v, h => Rep.mono e x v h
  | .m _, _, h => h
theorem RepSs.sub {l : List Sl} {vs : List V} (e : Sub F F') (h : RepSs K F as l vs) : RepSs K F' as l vs := Paired.imp (fun _ _ => RepS.sub e) h
theorem CellAt.sub {a : Addr} {c : Cell} (e : Sub F F') (f : F a = none → F' a = none) (h : CellAt K F H as a c) : CellAt K F' H as a c := by
  cases c with
  | lst l => obtain ⟨q1, us, q2, q3⟩ := h; exact ⟨f q1, us, q2, q3.sub e⟩
  | dic ks l => obtain ⟨q1, us, q2, q4, q3⟩ := h; exact ⟨f q1, us, q2, q4, q3.sub e⟩
  | ins C ns l => obtain ⟨q1, dx, us, q2, q4, q3⟩ := h; exact ⟨f q1, dx, us, q2, q4, q3.sub e⟩
  | frz x => exact Rep.mono e x _ h
theorem EnvR.grow {σ : L2.St} {ρ : Rho} (e : Sub F F') (p : as <+: as') (h : EnvR K F as σ ρ) : EnvR K F' as' σ ρ :=
  h.later (H := fun _ => Option.none) (H' := fun _ => Option.none) ⟨e, p, fun _ _ z _ => (nomatch z), fun _ _ _ => rfl, fun _ z _ _ => absurd rfl z⟩
theorem WayO.begin (M : Mem K F H μ as) (h : H Dl = none) (p : P F o) : WayO K F (upd H Dl o) μ as Dl P ∧ Later F H as F (upd H Dl o) as := by
  obtain ⟨M', L⟩ := M.ghost (o := o) h
  exact ⟨⟨M', fun q => M.ex Dl q h, M.sub.free h, o, upd_same, p⟩, L⟩
theorem WayO.step (hm : MonoP P) (w : WayO K F H μ as Dl P) (L : Later F H as F' H' as') (M : Mem K F' H' μ' as') : WayO K F' H' μ' as' Dl P := by
  obtain ⟨o, h1, h2⟩ := w.at_
  have ne : H Dl ≠ none := by rw [h1]; simp
  exact ⟨M, fun q => ne (L.fresh Dl q w.out), L.frzn Dl ne w.out w.free, o, L.others Dl o h1 w.out, hm _ _ _ L.sub h2⟩
theorem WayO.put (w : WayO K F H μ as Dl P) (p : P' F o) (L : Later F0 H0 as0 F H as) (h0 : H0 Dl = none) : WayO K F (upd H Dl o) μ as Dl P' ∧ Later F0 H0 as0 F (upd H Dl o) as := by
  have M := w.mem
  have same : ∀ a, a ∈ as → (upd H Dl o) a = H a := fun a ha => upd_ne fun e => w.out (e ▸ ha)
  refine ⟨⟨⟨fun a u e => ?_, M.len, M.nd, fun a q => by rw [same a q]; exact M.ex a q, fun k c a g1 g2 => ?_⟩, w.out, w.free, o, upd_same, p⟩, ⟨L.sub, L.pre, fun a u e n => by rw [upd_ne (ne_of_none e h0)]; exact L.others a u e n, L.fresh, L.frzn⟩⟩
  · rw [upd_ne (ne_of_none e w.free)]; exact M.sub a u e
  · have e1 := same a (List.mem_of_getElem? g2)
    have c1 := M.at_ k c a g1 g2
    cases c with
    | lst l => obtain ⟨q1, us, q2, q3⟩ := c1; exact ⟨q1, us, e1.trans q2, q3⟩
    | dic ks l => obtain ⟨q1, us, q2, q3⟩ := c1; exact ⟨q1, us, e1.trans q2, q3⟩
    | ins C ns l => obtain ⟨q1, dx, us, q2, q3⟩ := c1; exact ⟨q1, dx, us, e1.trans q2, q3⟩
    | frz x => exact c1
theorem WayO.done (w : WayO K F H μ as Dl P) (hm : MonoP P) (L : Later F0 H0 as0 F H as) (h0 : H0 Dl = none) : ∃ F' o, Mem K F' H μ as ∧ Later F0 H0 as0 F' H as ∧ F' Dl = some o ∧ P F' o := by
  obtain ⟨o, h1, h2⟩ := w.at_
  have M := w.mem
  have sb : Sub F (upd F Dl o) := Sub.upd_new w.free
  refine ⟨upd F Dl o, o, ⟨fun a u e => ?_, M.len, M.nd, M.ex, fun k c a g1 g2 => ?_⟩, ⟨L.sub.trans sb, L.pre, L.others, L.fresh, fun a q n f => ?_⟩, upd_same, hm _ _ _ sb h2⟩
  · by_cases q : a = Dl
    · subst q; rw [upd_same] at e; cases e; exact h1
    · rw [upd_ne q] at e; exact M.sub a u e
  · have ne : a ≠ Dl := fun e => w.out (e ▸ List.mem_of_getElem? g2)
    exact (M.at_ k c a g1 g2).sub sb fun f => by rw [upd_ne ne]; exact f
  · rw [upd_ne (fun e : a = Dl => q (by rw [e]; exact h0))]
    exact L.frzn a q n f
/-- done: it is a cell -/
theorem WayO.cell {c : Cell} (w : WayO K F H μ as Dl P) (L : Later F0 H0 as0 F H as) (h0 : H0 Dl = none) (hc : CellAt K F H (as ++ [Dl]) Dl c) : Mem K F H (μ ++ [c]) (as ++ [Dl]) ∧ Later F0 H0 as0 F H (as ++ [Dl]) := by
  obtain ⟨o, h1, h2⟩ := w.at_
  have M := w.mem
  have pre : ∀ (k : Nat) (a : Addr), as[k]? = some a → (as ++ [Dl])[k]? = some a := fun k a h => by rw [List.getElem?_append_left (List.getElem?_eq_some_iff.mp h).1]; exact h
  refine ⟨⟨M.sub, by simp [M.len], ?_, fun a h => ?_, fun k c' a g1 g2 => ?_⟩, ⟨L.sub, L.pre.trans (List.prefix_append as [Dl]), L.others, fun a h n => ?_, L.frzn⟩⟩
  · rw [List.nodup_append]
    exact ⟨M.nd, by simp, fun a h b h' => by rw [List.mem_singleton.mp h']; exact fun e => w.out (e ▸ h)⟩
  · rcases List.mem_append.mp h with h | h
    · exact M.ex a h
    · rw [List.mem_singleton.mp h, h1]; simp
  · by_cases hk : k < as.length
    · rw [List.getElem?_append_left hk] at g2
      rw [List.getElem?_append_left (by rw [← M.len]; exact hk)] at g1
      have c1 := M.at_ k c' a g1 g2
      cases c' with
      | lst l => obtain ⟨q1, us, q2, q3⟩ := c1; exact ⟨q1, us, q2, RepSs.pre pre q3⟩
      | dic ks l => obtain ⟨q1, us, q2, q4, q3⟩ := c1; exact ⟨q1, us, q2, q4, RepSs.pre pre q3⟩
      | ins C ns l => obtain ⟨q1, dx, us, q2, q4, q3⟩ := c1; exact ⟨q1, dx, us, q2, q4, RepSs.pre pre q3⟩
      | frz x => exact c1
    · have hk2 : k < (as ++ [Dl]).length := (List.getElem?_eq_some_iff.mp g2).1
      have ek : k = as.length := by simp at hk2; omega
      subst ek
      have e1 : (as ++ [Dl])[as.length]? = some Dl := by simp
      rw [e1] at g2
      have e2 : (μ ++ [c])[as.length]? = some c := by rw [M.len]; simp
      rw [e2] at g1
      cases g1
      cases g2
      exact hc
  · rcases List.mem_append.mp h with h | h
    · exact L.fresh a h n
    · rw [List.mem_singleton.mp h]; exact h0
end
/-! ### {(a, ..): v for x in S for y in T} -/
abbrev KAcc := List (List Key × D)
def PdT (K : Fg) (acc : KAcc) : Hp → HO → Prop := fun F o => ∃ kvs : List (List Key × V), o = .dT kvs ∧ kvs.map (·.1) = acc.map (·.1) ∧ RepL K F (acc.map (·.2)) (kvs.map (·.2))
theorem pdT_mono (K : Fg) (acc : KAcc) : MonoP (PdT K acc) := fun _ _ _ e ⟨kvs, h1, h2, h3⟩ => ⟨kvs, h1, h2, h3.mono' e⟩
/-- the dict's datum -/
def dicT (acc : KAcc) : D := .dic (acc.map fun q => .tup (q.1.map kD)) (acc.map (·.2))
def aDc2 (wi : AIt) (g : AG) (wj : AIt) (g1 : AG) (wk : AA) (wv : AE) (vs vs1 : List Nat) : AE := fun ρ μ k => wi ρ μ fun ds μ1 => ∃ I : Nat → KAcc → Mu → Prop, I 0 [] μ1 ∧
  (∀ i d acc μ', ds[i]? = some d → I i acc μ' → g (.d d) (wipeR ρ vs) μ' fun ρ2 μ2 => wj ρ2 μ2 fun es μ3 => ∃ J : Nat → KAcc → Mu → Prop, J 0 acc μ3 ∧
    (∀ j e acc' ν, es[j]? = some e → J j acc' ν → g1 (.d e) (wipeR ρ2 vs1) ν fun ρ3 μ4 => wk ρ3 μ4 fun ss μ5 => ∃ ks : List Key, ss = ks.map (fun q => .d (kD q)) ∧ ks.length ≤ sizeLine ∧
      aFz wv ρ3 μ5 fun s μ6 => ∃ y, s = .d y ∧ acc'.length < sizeLine ∧ ks ∉ acc'.map (·.1) ∧ J (j + 1) (acc' ++ [(ks, y)]) μ6) ∧
    ∀ acc' ν, J es.length acc' ν → I (i + 1) acc' ν) ∧
  ∀ acc μ', I ds.length acc μ' → k (.d (dicT acc)) μ'
theorem keys_of {K : Fg} {F : Hp} {as : List Addr} : ∀ {ks : List Key} {us : List V}, RepSs K F as (ks.map fun q => .d (kD q)) us → us = ks.map kV
  | [], _, .nil => rfl
  | .inl i :: ks, _, .cons h t => by rw [keys_of t, show _ = V.int i from h]; rfl
  | .inr x :: ks, _, .cons h t => by rw [keys_of t, show _ = V.str x from h]; rfl
theorem val_none {κ : Type} [DecidableEq κ] {k : κ} : ∀ {kvs : List (κ × V)}, k ∉ kvs.map (·.1) → valV kvs k = none
  | [], _ => rfl
  | p :: r, h => by
    rw [List.map_cons, List.mem_cons, not_or] at h
    rw [valV_neg fun e => h.1 e.symm]
    exact val_none h.2
theorem snd_dc2 {K : Fg} {wi wi1 : TI} {wI wJ : AIt} {gt gt1 : TG} {ga ga1 : AG} {tr : TA} {wk : AA} {tv : TE} {wv : AE} {vs vs1 : List Nat} (hi : SndI K wi wI) (hg : SndG K gt ga) (ho : GOnly vs gt) (hj : SndI K wi1 wJ) (hg1 : SndG K gt1 ga1) (ho1 : GOnly vs1 gt1)
    (hk : SndA K tr wk) (hv : SndE K tv wv) : SndE K (tDc2 wi gt wi1 gt1 (tTup tr) tv vs vs1) (aDc2 wI ga wJ ga1 wk wv vs vs1) := by
  intro F H σ ρ μ as k Q M E q hQ
  refine hi M E q fun F1 H1 μ1 as1 J ds L1 M1 W z => ?_
  obtain ⟨I, i0, hs, hd⟩ := z
  obtain ⟨G, Y, h1, h2, h3⟩ := W
  intro Dl hD
  obtain ⟨w0, l0⟩ := WayO.begin (P := PdT K []) (o := .dT []) M1 hD ⟨[], rfl, rfl, rfl⟩
  refine ⟨fun i m H' => m = ds.length - i ∧ i ≤ ds.length ∧ ∃ F' μ' as' acc, Later F1 H1 as1 F' H' as' ∧ WayO K F' H' μ' as' Dl (PdT K acc) ∧ I i acc μ', ⟨ds.length, by simp, Nat.zero_le _, F1, μ1, as1, [], l0, w0, i0⟩, ?_⟩
  rintro i m H' ⟨rfl, hile, F', μ', as', acc, L', w, i'⟩
  have gH : G H' := h2 H' (L'.sub.trans w.mem.sub)
  by_cases hlt : i < ds.length
  case neg =>
    obtain rfl : i = ds.length := by omega
    refine .inl ⟨h1.stops H' gH, ?_⟩
    obtain ⟨F2, o, M2, L2, hF, kvs, rfl, e1, e2⟩ := w.done (pdT_mono K acc) L' hD
    refine hQ _ _ _ _ (.d (dicT acc)) _ (L1.trans L2) M2 ⟨Dl, rfl, .inr ⟨kvs, hF, ?_, e2⟩⟩ (hd acc μ' i')
    have e3 : (acc.map (·.1)).map (fun q : List Key => D.tup (q.map kD)) = (kvs.map (·.1)).map (fun q : List Key => D.tup (q.map kD)) := by rw [e1]
    rw [List.map_map, List.map_map] at e3
    exact e3
  case pos =>
    refine .inr ⟨h1.goes i H' hlt gH, fun H'' => ∃ F' μ' as' acc, Later F1 H1 as1 F' H'' as' ∧ WayO K F' H'' μ' as' Dl (PdT K acc) ∧ I (i + 1) acc μ', fun H'' p => ⟨ds.length - (i + 1), by omega, rfl, hlt, p⟩, fun x H'' y => ?_⟩
    have y := h1.yields i H' x H'' hlt gH y
    obtain ⟨d, ed⟩ : ∃ d, ds[i]? = some d := ⟨ds[i], by simp [hlt]⟩
    obtain ⟨F2, L2', M2, r2⟩ := WalkD.step L'.sub w.mem ed h3 y
    have w2 := w.step (pdT_mono K acc) L2' M2
    have E0 := (E.later (L1.trans (L'.trans L2'))).wipe vs
    refine ho.at_ (hg M2 E0 (s := .d d) r2 (hs i d acc μ' ed i') fun F3 H3 σ3 ρ3 μ3 as3 L3 M3 E3 z3 => ?_)
    have w3 := w2.step (pdT_mono K acc) L3 M3
    refine hj M3 E3 z3 fun F4 H4 μ4 as4 J1 es L4 M4 W4 z4 => ?_
    have w4 := w3.step (pdT_mono K acc) L4 M4
    have L14 := ((L'.trans L2').trans L3).trans L4
    obtain ⟨I1, j0, hs1, hd1⟩ := z4
    obtain ⟨G1, Y1, g1, g2, g3⟩ := W4
    refine ⟨fun j m H5 => m = es.length - j ∧ j ≤ es.length ∧ ∃ F5 μ5 as5 acc5, Later F1 H1 as1 F5 H5 as5 ∧ Sub F4 F5 ∧ as3 <+: as5 ∧ WayO K F5 H5 μ5 as5 Dl (PdT K acc5) ∧ I1 j acc5 μ5, ⟨es.length, by simp, Nat.zero_le _, F4, μ4, as4, acc, L14, Sub.refl _, L4.pre, w4, j0⟩, ?_⟩
    rintro j m H5 ⟨rfl, hjle, F5, μ5, as5, acc5, L5, s5, p5, w5, i5⟩
    have gH5 : G1 H5 := g2 H5 (s5.trans w5.mem.sub)
    by_cases hlj : j < es.length
    case neg =>
      obtain rfl : j = es.length := by omega
      exact .inl ⟨g1.stops H5 gH5, F5, μ5, as5, acc5, L5, w5, hd1 acc5 μ5 i5⟩
    case pos =>
      refine .inr ⟨g1.goes j H5 hlj gH5, fun H6 => ∃ F5 μ5 as5 acc5, Later F1 H1 as1 F5 H6 as5 ∧ Sub F4 F5 ∧ as3 <+: as5 ∧ WayO K F5 H6 μ5 as5 Dl (PdT K acc5) ∧ I1 (j + 1) acc5 μ5, fun H6 p => ⟨es.length - (j + 1), by omega, rfl, hlj, p⟩, fun x1 H6 y1 => ?_⟩
      have y1 := g1.yields j H5 x1 H6 hlj gH5 y1
      obtain ⟨e, ee⟩ : ∃ e, es[j]? = some e := ⟨es[j], by simp [hlj]⟩
      obtain ⟨F6, L6, M6, r6⟩ := WalkD.step s5 w5.mem ee g3 y1
      have w6 := w5.step (pdT_mono K acc5) L6 M6
      have E6 := (E3.grow ((L4.sub.trans s5).trans L6.sub) (p5.trans L6.pre)).wipe vs1
      refine ho1.at_ (hg1 M6 E6 (s := .d e) r6 (hs1 j e acc5 μ5 ee i5) fun F7 H7 σ7 ρ7 μ7 as7 L7 M7 E7 z7 => ?_)
      refine hk M7 E7 z7 fun F8 H8 μ8 as8 ss us L8 M8 r8 z8 => ?_
      obtain ⟨ks, rfl, hlen, z8⟩ := z8
      have eu := keys_of r8
      subst eu
      refine ⟨by rw [List.length_map]; exact hlen, fun b hb => ?_⟩
      obtain ⟨M9, L9⟩ := M8.new (o := .tup (ks.map kV)) hb
      refine snd_fz hv M9 (E7.later (L8.trans L9)) z8 fun F10 H10 μ10 as10 s v L10 M10 r10 z10 => ?_
      obtain ⟨y, rfl, hl, nk, z11⟩ := z10
      have w10 := (((w6.step (pdT_mono K acc5) L7 M7).step (pdT_mono K acc5) L8 M8).step (pdT_mono K acc5) L9 M9).step (pdT_mono K acc5) L10 M10
      have L610 := (((L6.trans L7).trans L8).trans L9).trans L10
      have hbF : F10 b = some (.tup (ks.map kV)) := L10.sub _ _ upd_same
      obtain ⟨o, ho, kvs, rfl, e1, e2⟩ := w10.at_
      have lk : kvs.length = acc5.length := by
        have := congrArg List.length e1
        simpa using this
      have pe : putK kvs ks v = kvs ++ [(ks, v)] := putK_new v (val_none (by rw [e1]; exact nk))
      refine ⟨kvs, ks, b, rfl, M10.sub _ _ hbF, ho, by rw [lk]; exact hl, ?_⟩
      obtain ⟨w11, L11⟩ := w10.put (P' := PdT K (acc5 ++ [(ks, y)])) (o := .dT (putK kvs ks v)) ⟨_, rfl, by rw [pe, List.map_append, List.map_append, e1]; rfl, by rw [pe, List.map_append, List.map_append]; exact e2.app (RepL.one r10)⟩ (L5.trans L610) hD
      exact ⟨F10, μ10, as10, _, L11, s5.trans L610.sub, p5.trans L610.pre, w11, z11⟩
section
variable {X : Cx} {e : Expr} {t ta tb : TE} {w wa wb : AE} {tr : TA} {wr : AA} {pos p : Pos}
theorem j_dc2 {kes : List Expr} {ve tg0 sa tg1 sb : Expr} {scope : Scope} {own : List (Str × Nat)} {vs1 : List Nat} {kx1} {kp : Pos} {wi wi1 : TI} {wI wJ : AIt} {g g1 : TG} {ga ga1 : AG} {tv : TE} {wv : AE} (hu : X.A.units + 1 < cLine) (hc : X.calm = true) (hN : X.N.Nodup) (hi : JI X tg0 sa wi wI) (ok : BlkOk X.N X.env.scope scope own) (hv : ∀ i ∈ vs1, i ∈ own.map (·.2))
    (hg : ∀ (s : Shared) (H : Hp) (C : Addr) (cl : List (Str × Addr)) (fp : List Addr), JG (X.blk s H scope (compEnvC scope cl C X.env) fp) tg0 g ga) (ho : GOnly (own.map (·.2)) g)
    (hj : ∀ (s : Shared) (H : Hp) (C : Addr) (cl : List (Str × Addr)) (fp : List Addr), JI (X.blk s H scope (compEnvC scope cl C X.env) fp) tg1 sb wi1 wJ)
    (hh : ∀ (s : Shared) (H : Hp) (C : Addr) (cl : List (Str × Addr)) (fp : List Addr), JG (X.blk s H scope (compEnvC scope cl C X.env) fp) tg1 g1 ga1) (ho1 : GOnly vs1 g1)
    (hk : ∀ (s : Shared) (H : Hp) (C : Addr) (cl : List (Str × Addr)) (fp : List Addr), JA (X.blk s H scope (compEnvC scope cl C X.env) fp) kes tr wr)
    (he : ∀ (s : Shared) (H : Hp) (C : Addr) (cl : List (Str × Addr)) (fp : List Addr), JE (X.blk s H scope (compEnvC scope cl C X.env) fp) ve tv wv)
    (f0 : ∀ x, foldedSetIterable sa X.env x = pure x := by intro _; rfl) (f1 : ∀ env x, foldedSetIterable sb env x = pure x := by intro _ _; rfl) :
    JE X (.DictComp (.Tuple kes kx1 kp) ve [⟨tg0, sa, [], 0⟩, ⟨tg1, sb, [], 0⟩] scope pos) (tDc2 wi g wi1 g1 (tTup tr) tv (own.map (·.2)) vs1) (aDc2 wI ga wJ ga1 wr wv (own.map (·.2)) vs1) :=
  ⟨pe_dc2 hu hc hN hi.pi ok hv (fun a b c d e => (hg a b c d e).pg) (fun a b c d e => (hj a b c d e).pi) (fun a b c d e => (hh a b c d e).pg) (fun a b c d e => pe_tup (hk a b c d e).pa) (fun a b c d e => (he a b c d e).pe) f0 f1,
   snd_dc2 hi.snd (hg X.s_0 X.H_0 0 [] []).snd ho (hj X.s_0 X.H_0 0 [] []).snd (hh X.s_0 X.H_0 0 [] []).snd ho1 (hk X.s_0 X.H_0 0 [] []).snd (he X.s_0 X.H_0 0 [] []).snd⟩
/-! ### {"k": v, ..}, a cell -/
structure JP (X : Cx) (pos : Pos) (keys : List (Option Expr)) (values : List Expr) (trs : List (TE × TE)) (ks : List Str) (w : AA) : Prop where
  pps : PPs X pos keys values trs
  snd : ∀ {F H : Hp} {σ : L2.St} {ρ : Rho} {μ : Mu} {as : List Addr} {k : List Sl → Mu → Prop} {Q : List (V × V) → Hp → Prop}, Mem X.K F H μ as → EnvR X.K F as σ ρ → w ρ μ k →
    (∀ F' H' μ' as' ss vs, Later F H as F' H' as' → Mem X.K F' H' μ' as' → RepSs X.K F' as' ss vs → vs.length = ks.length → k ss μ' → Q ((ks.zip vs).map fun q => (V.str q.1, q.2)) H') → tPairs trs σ H Q
theorem jp_nil : JP X pos [] [] [] [] aNil := ⟨pps_nil, fun M E h hQ => hQ _ _ _ _ _ _ .refl M .nil rfl h⟩
theorem jp_cons {x : Str} {j} {kp : Pos} {keys : List (Option Expr)} {values : List Expr} {trs : List (TE × TE)} {ks : List Str} {wr : AA} (h : JE X e t w) (r : JP X pos keys values trs ks wr) :
    JP X pos (some (.Constant (.str x) j kp) :: keys) (e :: values) ((tC (.str x), t) :: trs) (x :: ks) (aCons w wr) := ⟨pps_cons pe_str h.pe r.pps, by
  intro F H σ ρ μ as k Q M E q hQ
  refine h.snd M E q fun F1 H1 μ1 as1 s v L1 M1 r1 q1 => ?_
  exact r.snd M1 (E.later L1) q1 fun F2 H2 μ2 as2 ss vs L2 M2 r2 l2 q2 => hQ _ _ _ _ _ _ (L1.trans L2) M2 (.cons (r1.later L2) r2) (by rw [List.length_cons, List.length_cons, l2]) q2⟩
def aDispC (ks : List Str) (w : AA) : AE := fun ρ μ k => w ρ μ fun ss μ1 => k (.m μ1.length) (μ1 ++ [.dic (ks.map .inr) ss])
theorem merge_new : ∀ {ks : List Key} {vs : List V} {acc : List (Key × V)}, ks.Nodup → (∀ k ∈ ks, k ∉ acc.map (·.1)) → mergeK acc (ks.zip vs) = acc ++ ks.zip vs
  | [], vs, acc, _, _ => by simp [mergeK]
  | k :: ks, [], acc, _, _ => by simp [mergeK]
  | k :: ks, v :: vs, acc, hn, hk => by
    rw [List.nodup_cons] at hn
    have e1 : putK acc k v = acc ++ [(k, v)] := putK_new v (val_none (hk k List.mem_cons_self))
    show mergeK (putK acc k v) (ks.zip vs) = _
    rw [e1, merge_new hn.2 fun k' h' hm => ?_, List.append_assoc]
    · rfl
    · rw [List.map_append, List.mem_append] at hm
      rcases hm with hm | hm
      · exact hk k' (List.mem_cons_of_mem _ h') hm
      · rw [List.map_cons, List.map_nil, List.mem_singleton] at hm
        have hm' : k' = k := hm
        exact hn.1 (hm' ▸ h')
theorem j_dispC {keys : List (Option Expr)} {values : List Expr} {trs : List (TE × TE)} {ks : List Str} (h : JP X pos keys values trs ks wr) (hn : ks.Nodup) (h15 : ks.length ≤ 15) (hall : keys.all (·.isSome) = true := by rfl) (hl : keys.length = values.length := by rfl) (h0 : keys ≠ [] := by exact fun z => nomatch z)
    (hk15 : keys.length ≤ 15 := by decide) : JE X (.Dict keys values pos) (tDisp trs) (aDispC ks wr) := ⟨pe_disp h.pps hall hl h0 hk15, by
  intro F H σ ρ μ as k Q M E q hQ
  intro p hp
  obtain ⟨w0, l0⟩ := WayO.begin (P := fun _ o => o = .dK []) (o := .dK []) M hp rfl
  have mono : MonoP fun _ o => o = HO.dK [] := fun _ _ _ _ z => z
  refine h.snd w0.mem (E.later l0) q fun F1 H1 μ1 as1 ss vs L1 M1 r1 len1 h1 => ?_
  have w1 := w0.step mono L1 M1
  obtain ⟨o, ho, rfl⟩ := w1.at_
  refine ⟨ho, (ks.map Sum.inr).zip vs, ?_, ?_, ?_⟩
  · clear h1 r1 len1 h hn h15 q
    induction ks generalizing vs with
    | nil => simp
    | cons x ks ih => cases vs with
      | nil => simp
      | cons v vs => simp [kV]; exact ih vs
  · rw [List.length_zip, List.length_map]
    exact Nat.le_trans (Nat.min_le_left _ _) h15
  · have nd : (ks.map (Sum.inr : Str → Key)).Nodup := List.Pairwise.map _ (fun a b hab z => hab (Sum.inr.inj z)) hn
    have em : mergeK [] ((ks.map Sum.inr).zip vs) = (ks.map Sum.inr).zip vs := by
      have := merge_new (vs := vs) (acc := []) nd (by simp)
      simpa using this
    rw [em]
    obtain ⟨w2, L2⟩ := w1.put (P' := fun _ o => o = .dK ((ks.map Sum.inr).zip vs)) (o := .dK ((ks.map Sum.inr).zip vs)) rfl (l0.trans L1) hp
    have lz : vs.length = (ks.map (Sum.inr : Str → Key)).length := by rw [List.length_map]; exact len1
    obtain ⟨M3, L3⟩ := w2.cell L2 hp (c := .dic (ks.map .inr) ss) ⟨w2.free, _, upd_same, List.map_fst_zip (by omega), by
      rw [List.map_snd_zip (by omega)]
      exact RepSs.pre (fun k a h => by rw [List.getElem?_append_left (List.getElem?_eq_some_iff.mp h).1]; exact h) r1⟩
    exact hQ _ _ _ _ (.m μ1.length) _ L3 M3 ⟨p, by rw [← M1.len]; simp, rfl⟩ h1⟩
end
end Ww
/-! W20: == of two dicts whose keys are tuples, the same keys in the same sequence. -/
namespace Ww
open PySem PySem.Spec PyProof.Rows L2
section
variable {P : Program} {w : World} {K : Type} [DecidableEq K] {knd : HeapKind P w K} {A : Around} {E : Value → Shared → Prop} {s : Shared} {a b : Addr}
theorem pairs_same {id : String} {xs ys : List (K × Addr × Value)} {e : Nat → Bool} {Q : Bool → Shared → Prop} (na : (a == sysModules) = false) (nb : (b == sysModules) = false) (room : knd.room A) (da : s.heap.DictOfH knd a xs) (db : s.heap.DictOfH knd b ys)
    (hk : xs.map (·.1) = ys.map (·.1)) (hv : ∀ (j : Nat) k p q, xs[j]? = some (k, p) → ys[j]? = some (k, q) → SeqAt.EqP P w A s p.2 q.2 (e j)) (h : Q ((List.range xs.length).all e) s) :
    wpAny (model P w) A (Builtin.Dict.samePairs id a b) Q E s := by
  obtain ⟨oa, es, ea, a1, _, a3, a4, a5, a6⟩ := da
  obtain ⟨ob, fs, eb, b1, _, b3, b4, b5, b6⟩ := db
  have sa : es.size = xs.length := size_of_entries a4
  have sb : fs.size = ys.length := size_of_entries b4
  have sxy : xs.length = ys.length := by simpa using congrArg List.length hk
  unfold Builtin.Dict.samePairs Builtin.Dict.showsAll
  rw [if_neg (by rw [na]; simp), if_neg (by rw [nb]; simp)]
  refine wpAny_bind (wpAny_pure (wpAny_bind (wpAny_pure ?_)))
  refine wpAny_bind (wpAny_dictEntries a1 a3 ?_)
  dsimp only
  refine wpAny_bind (wpAny_dictEntries b1 b3 ?_)
  rw [if_neg (by rw [sa, sb, sxy]; simp)]
  refine wpAny_bind (wpAny_dictEpoch a1 a3 (wpAny_bind ?_))
  rw [Std.Legacy.Range.forIn_eq_forIn_range']
  simp only [Std.Legacy.Range.size, Nat.sub_zero, Nat.add_sub_cancel, Nat.div_one]
  rw [sa]
  refine wpAny_forIn_list _ (fun rest q z => z = s ∧ q = (none, ()) ∧ ∃ i, rest = List.range' i (xs.length - i) ∧ i ≤ xs.length ∧ ∀ j, j < i → e j = true) _ ?_ ?_ _ _ ⟨rfl, rfl, 0, by simp, Nat.zero_le _, fun j hj => absurd hj (Nat.not_lt_zero _)⟩
  · rintro n rest q z ⟨rfl, rfl, i, hr, hi, all⟩
    have hlt : i < xs.length := by
      by_cases c : i < xs.length
      · exact c
      · rw [Nat.sub_eq_zero_of_le (Nat.le_of_not_lt c)] at hr; cases hr
    have e0 : xs.length - i = (xs.length - (i + 1)) + 1 := by omega
    rw [e0, List.range'_succ] at hr
    obtain ⟨rfl, hrest⟩ := List.cons.inj hr
    obtain ⟨⟨k, p⟩, hx⟩ : ∃ x, xs[n]? = some x := ⟨xs[n], by simp [hlt]⟩
    obtain ⟨⟨k', q⟩, hy⟩ : ∃ y, ys[n]? = some y := ⟨ys[n]'(sxy ▸ hlt), by simp [sxy ▸ hlt]⟩
    have ek : k = k' := by
      have := congrArg (fun l => l[n]?) hk
      simpa [List.getElem?_map, hx, hy] using this
    subst ek
    refine wpAny_bind (wpAny_dictEntries a1 a3 ?_)
    rw [entry_at a4 n, hx]
    show wpAny _ _ (holding [Value.ref p.1, p.2] _ >>= _) _ _ _
    have val := hv n k p q hx hy
    refine wpAny_bind (wpAny_holding (wpAny_bind (wpAny_dictFind_heap room (a5 (k, p) (List.mem_of_getElem? hx)) b1 b3 b4 b5 b6 (fun hn => absurd hy (hn n q)) fun j q' hj => ?_)))
    have ej : j = n := by
      have g1 : (ys.map (·.1))[j]? = some k := by rw [List.getElem?_map, hj]; rfl
      have g2 : (ys.map (·.1))[n]? = some k := by rw [List.getElem?_map, hy]; rfl
      obtain ⟨l1, m1⟩ := List.getElem?_eq_some_iff.mp g1
      obtain ⟨l2, m2⟩ := List.getElem?_eq_some_iff.mp g2
      exact (List.getElem_inj b6).mp (m1.trans m2.symm)
    subst ej
    rw [hy] at hj
    cases hj
    refine wpAny_bind (wpAny_dictEntries b1 b3 ?_)
    rw [entry_at b4 j, hy]
    refine wpAny_holding (val _ _ ?_)
    cases ev : e j with
    | false =>
      show wpAny _ _ (if (!false) = true then _ else _) _ _ _
      rw [if_pos (by decide)]
      have ef : (List.range xs.length).all e = false := by
        rw [List.all_eq_false]
        exact ⟨j, List.mem_range.mpr hlt, by rw [ev]; simp⟩
      rw [ef] at h
      exact wpAny_pure (wpAny_pure h)
    | true =>
      show wpAny _ _ (if (!true) = true then _ else _) _ _ _
      rw [if_neg (by decide)]
      refine wpAny_bind (wpAny_dictEpoch a1 a3 ?_)
      rw [if_neg (by simp)]
      refine wpAny_pure ⟨rfl, rfl, j + 1, hrest, hlt, fun m hm => ?_⟩
      rcases Nat.lt_succ_iff_lt_or_eq.mp hm with z | z
      · exact all m z
      · rw [z]; exact ev
  · rintro q z ⟨rfl, rfl, i, hr, hi, all⟩
    have ei : i = xs.length := by
      by_cases c : i < xs.length
      · have e0 : xs.length - i = (xs.length - (i + 1)) + 1 := by omega
        rw [e0, List.range'_succ] at hr; cases hr
      · omega
    have et : (List.range xs.length).all e = true := by
      rw [List.all_eq_true]
      exact fun m hm => all m (ei ▸ List.mem_range.mp hm)
    rw [et] at h
    exact wpAny_pure h
theorem eq_dictsH {xs ys : List (K × Addr × Value)} {e : Nat → Bool} {Q : Value → Shared → Prop} (na : (a == sysModules) = false) (nb : (b == sysModules) = false) (room : knd.room A.in1) (da : s.heap.DictOfH knd a xs) (db : s.heap.DictOfH knd b ys)
    (hk : xs.map (·.1) = ys.map (·.1)) (hu : A.units < cLine) (hv : ∀ (j : Nat) k p q, xs[j]? = some (k, p) → ys[j]? = some (k, q) → SeqAt.EqP P w A.in1 s p.2 q.2 (e j)) (h : Q (.bool ((List.range xs.length).all e)) s) :
    wpAny (model P w) A (compareOp .Eq (.ref a) (.ref b)) Q E s := by
  refine wpAny_richCompare_same_room (op := .Eq) da.typeIs db.typeIs PySem.F.slot_dict_eq (wpAny_call_entry PySem.F.slot_dict_eq da.typeIs PySem.F.entry_dict_eq ?_ (PySem.F.args_dict_eq_2 _ _)) hu
  refine wpAny_bind ?_
  unfold Builtin.Dict.dictSlotArgs
  refine wpAny_bind (wpAny_notOrdered_dict da.typeIs (wpAny_pure ?_))
  refine wpAny_bind (wpAny_isInstance (T := "dict") db.typeIs PySem.F.sub_dict_dict ?_)
  simp only [Bool.not_true, Bool.false_eq_true, if_false]
  refine wpAny_bind (wpAny_pure (wpAny_bind (wpAny_pure ?_)))
  refine wpAny_bind (pairs_same na nb room da db hk hv ?_)
  exact wpAny_pure ⟨_, rfl, (fun x => nomatch x), by simpa using h⟩
end
/-! ### over data -/
section
variable {X : Cx}
def rEqT (K : Fg) : R2 := fun x y H Q => ∃ (a b : Addr) (kvs lvs : List (List Key × V)) (ps qs : List PyData), x = .ref a ∧ y = .ref b ∧ Rd H a (.dT kvs) ∧ Rd H b (.dT lvs) ∧ kvs.map (·.1) = lvs.map (·.1) ∧
  DpAll K H (kvs.map (·.2)) ps ∧ DpAll K H (lvs.map (·.2)) qs ∧ (∀ p ∈ ps, SeqAt.shaped p = true) ∧ (∀ p ∈ qs, SeqAt.shaped p = true) ∧ Q (.bl (PyData.eqvAll ps qs)) H
theorem dpAll_at {K : Fg} {H : Hp} : ∀ {vs : List V} {ps : List PyData} {j : Nat} {v : V}, DpAll K H vs ps → vs[j]? = some v → ∃ p, ps[j]? = some p ∧ Dp K H v p
  | [], _, _, _, _, e => by simp at e
  | _ :: _, _, 0, _, .cons h _, e => by cases e; exact ⟨_, rfl, h⟩
  | _ :: _, _, j + 1, v, .cons _ t, e => dpAll_at (j := j) t (by simpa using e)
theorem dpAll_len {K : Fg} {H : Hp} : ∀ {vs : List V} {ps : List PyData}, DpAll K H vs ps → vs.length = ps.length
  | _, _, .nil => rfl
  | _, _, .cons _ t => congrArg (· + 1) (dpAll_len t)
theorem eqvAll_range : ∀ {ps qs : List PyData}, ps.length = qs.length → PyData.eqvAll ps qs = (List.range ps.length).all fun j => match ps[j]?, qs[j]? with
    | some p, some q => PyData.eqv p q
    | _, _ => false
  | [], [], _ => rfl
  | p :: ps, q :: qs, h => by
    have ih := eqvAll_range (ps := ps) (qs := qs) (by simpa using h)
    rw [List.length_cons, List.range_succ_eq_map, List.all_cons, List.all_map]
    show (PyData.eqv p q && PyData.eqvAll ps qs) = _
    rw [ih]
    rfl
  | [], _ :: _, h => by cases h
  | _ :: _, [], h => by cases h
theorem op_eqT (hu : X.A.units + 65 < cLine) : OpR X (compareOp .Eq) (rEqT X.K) := by
  intro pins s σ H x y v u Q I rx ry h
  obtain ⟨a, b, kvs, lvs, ps, qs, rfl, rfl, ha, hb, hk, da, db, sa, sb, q⟩ := h
  cases rx
  cases ry
  obtain ⟨_, na, xs, r1, d1⟩ := dt_rd I.hok ha
  obtain ⟨_, nb, ys, r2, d2⟩ := dt_rd I.hok hb
  have k1 : ∀ {l : List (List Key × V)} {m : List (List Key × Addr × Value)}, KT H l m → l.map (·.1) = m.map (·.1) := by
    intro l m r
    induction r with
    | nil => rfl
    | cons z _ ih => rw [List.map_cons, List.map_cons, z.1, ih]
  have hxy : xs.map (·.1) = ys.map (·.1) := by rw [← k1 r1, hk, k1 r2]
  have lx : xs.length = ps.length := by rw [← paired_len r1, ← dpAll_len da, List.length_map]
  have lq : ps.length = qs.length := by
    have z := congrArg List.length hk
    rw [← dpAll_len da, ← dpAll_len db]
    simpa using z
  refine eq_dictsH (e := fun j => match ps[j]?, qs[j]? with
    | some p, some q => PyData.eqv p q
    | _, _ => false) na nb (tupleKind_room_in1 (by omega)) d1 d2 hxy (by omega) (fun j k p q' hx hy => ?_) ⟨.bl _, H, I, rfl, ?_⟩
  · have tkn : ∀ {l : List (List Key × V)} {m : List (List Key × Addr × Value)} {p : Addr × Value}, KT H l m → m[j]? = some (k, p) → ∃ z, l[j]? = some z ∧ L2.RelV z.2 p.2 := by
      intro l m p r e
      clear hx hy da db sa sb q hk k1 hxy lx lq
      induction r generalizing j with
      | nil => simp at e
      | @cons z z' _ _ h t ih => cases j with
        | zero => simp at e; subst e; exact ⟨z, rfl, h.2.2⟩
        | succ j => exact ih (j := j) (by simpa using e)
    obtain ⟨z1, e1, g1⟩ := tkn r1 hx
    obtain ⟨z2, e2, g2⟩ := tkn r2 hy
    obtain ⟨p1, f1, m1⟩ := dpAll_at da (j := j) (v := z1.2) (by rw [List.getElem?_map, e1]; rfl)
    obtain ⟨p2, f2, m2⟩ := dpAll_at db (j := j) (v := z2.2) (by rw [List.getElem?_map, e2]; rfl)
    rw [f1, f2]
    obtain ⟨as1, w1⟩ := Dp.reads I p1 z1.2 p.2 m1 g1
    obtain ⟨as2, w2⟩ := Dp.reads I p2 z2.2 q'.2 m2 g2
    have s1 := sa p1 (List.mem_of_getElem? f1)
    have s2 := sb p2 (List.mem_of_getElem? f2)
    refine SeqAt.EqAt.eqP (SeqAt.eqAt_reads p1 p2 X.A.in1 s p.2 q'.2 as1 as2 w1 w2 (SeqAt.canLay_of_shaped s1) (SeqAt.canLay_of_shaped s2) (SeqAt.room_of_shaped s1 ?_))
    show X.A.units + 1 + 64 < cLine
    omega
  · rw [lx, ← eqvAll_range lq]
    exact q
/-- an empty dict -/
def EmptyD (H : Hp) (a : Addr) : Prop := Rd H a (.dK []) ∨ Rd H a (.dT [])
theorem EmptyD.at_ {pins : List (Addr × Obj)} {σ : L2.St} {H : Hp} {s : Shared} {a : Addr} (I : Inv X pins σ H s) (h : EmptyD H a) : (a == sysModules) = false ∧ ∃ xs, xs = [] ∧ s.heap.DictOfH (tupleKind (mixKind X.prog X.w)) a xs := by
  rcases h with h | h
  · obtain ⟨_, n, vs, r, o, es, ep, h1, h2, h3, h4, h5, h6⟩ := dk_rd I.hok h
    cases r
    have e0 : es.toList.length = 0 := h5.length
    have e1 : es.toList = [] := List.eq_nil_of_length_eq_zero e0
    exact ⟨n, [], rfl, o, es, ep, h1, h2, h3, (by rw [e1]; rfl), (fun x hx => by simp at hx), List.nodup_nil⟩
  · obtain ⟨_, n, xs, r, d⟩ := dt_rd I.hok h
    cases r
    exact ⟨n, [], rfl, d⟩
def rEqE : R2 := fun x y H Q => ∃ a b, x = .ref a ∧ y = .ref b ∧ EmptyD H a ∧ EmptyD H b ∧ Q (.bl true) H
theorem op_eqE (hu : X.A.units + 65 < cLine) : OpR X (compareOp .Eq) rEqE := by
  intro pins s σ H x y v u Q I rx ry h
  obtain ⟨a, b, rfl, rfl, ha, hb, q⟩ := h
  cases rx
  cases ry
  obtain ⟨na, xs, rfl, d1⟩ := ha.at_ I
  obtain ⟨nb, ys, rfl, d2⟩ := hb.at_ I
  exact eq_dictsH (e := fun _ => true) na nb (tupleKind_room_in1 (by omega)) d1 d2 rfl (by omega) (fun j k p q' hx hy => by simp at hx) ⟨.bl _, H, I, rfl, q⟩
/-- dicts that are told by tuples -/
def fEqT : D → D → (Sl → Mu → Prop) → Mu → Prop
  | .dic ks vs, .dic ks' vs', k, μ => ks = ks' ∧ (∀ x ∈ ks, ∃ l, x = .tup l) ∧ ∃ ps qs, toPys vs = some ps ∧ toPys vs' = some qs ∧ (∀ p ∈ ps, SeqAt.shaped p = true) ∧ (∀ p ∈ qs, SeqAt.shaped p = true) ∧ k (.d (.bl (PyData.eqvAll ps qs))) μ
  | _, _, _, _ => False
theorem dT_rep {K : Fg} {F : Hp} {ks vs : List D} {v : V} (r : Rep K F (.dic ks vs) v) (h0 : ks ≠ []) (ht : ∀ x ∈ ks, ∃ l, x = .tup l) : ∃ a, v = .ref a ∧ ∃ kvs : List (List Key × V), F a = some (.dT kvs) ∧ ks = kvs.map (fun p => D.tup (p.1.map kD)) ∧ RepL K F vs (kvs.map (·.2)) := by
  obtain ⟨a, rfl, h | h⟩ := r
  · exfalso
    obtain ⟨kvs, _, e, _⟩ := h
    cases kvs with
    | nil => exact h0 e
    | cons p r =>
      obtain ⟨l, hl⟩ := ht (kD p.1) (by rw [e]; exact List.mem_cons_self)
      cases hp : p.1 <;> rw [hp] at hl <;> cases hl
  · exact ⟨a, rfl, h⟩
theorem kDs_inj : ∀ {a b : List Key}, a.map kD = b.map kD → a = b
  | [], [], _ => rfl
  | [], _ :: _, e => by cases e
  | _ :: _, [], e => by cases e
  | x :: xs, y :: ys, e => by
    rw [List.map_cons, List.map_cons] at e
    injection e with e1 e2
    have : x = y := by
      cases x <;> cases y <;> first | (cases e1; rfl) | cases e1
    rw [this, kDs_inj e2]
theorem keysT_inj : ∀ {a b : List (List Key × V)}, a.map (fun p => D.tup (p.1.map kD)) = b.map (fun p => D.tup (p.1.map kD)) → a.map (·.1) = b.map (·.1)
  | [], [], _ => rfl
  | [], _ :: _, e => by cases e
  | _ :: _, [], e => by cases e
  | x :: xs, y :: ys, e => by
    rw [List.map_cons, List.map_cons] at e
    injection e with e1 e2
    injection e1 with e1
    rw [List.map_cons, List.map_cons, kDs_inj e1, keysT_inj e2]
theorem empty_rep {K : Fg} {F : Hp} {vs : List D} {v : V} (r : Rep K F (.dic [] vs) v) : vs = [] ∧ ∃ a, v = .ref a ∧ EmptyD F a := by
  obtain ⟨a, rfl, ⟨kvs, h1, h2, h3⟩ | ⟨kvs, h1, h2, h3⟩⟩ := r
  · have e := List.map_eq_nil_iff.mp h2.symm
    subst e
    have l := h3.len
    exact ⟨List.eq_nil_of_length_eq_zero (by simpa using l.symm), a, rfl, .inl (.inl h1)⟩
  · have e := List.map_eq_nil_iff.mp h2.symm
    subst e
    have l := h3.len
    exact ⟨List.eq_nil_of_length_eq_zero (by simpa using l.symm), a, rfl, .inr (.inl h1)⟩
theorem snd_eqT {K : Fg} : SndR K (fun x y H Q => rEqT K x y H Q ∨ rEqE x y H Q) (rd2 fEqT) := by
  intro F H μ as x y v u k Q M r1 r2 h hQ
  obtain ⟨a, b, h1, h2, h⟩ := rd2_elim h
  unfold fEqT at h
  split at h
  · rename_i ks vs ks' vs'
    obtain ⟨rfl, ht, ps, qs, e1, e2, s1, s2, h⟩ := h
    have g1 : Rep K H (.dic ks vs) v := (rd_ok M r1 h1).rep M.sub
    have g2 : Rep K H (.dic ks vs') u := (rd_ok M r2 h2).rep M.sub
    by_cases h0 : ks = []
    · subst h0
      obtain ⟨rfl, p1, rfl, a1⟩ := empty_rep g1
      obtain ⟨rfl, p2, rfl, b1⟩ := empty_rep g2
      cases e1
      cases e2
      exact .inr ⟨p1, p2, rfl, rfl, a1, b1, kb M hQ h⟩
    refine .inl ?_
    obtain ⟨p1, rfl, kvs, a1, a2, a3⟩ := dT_rep g1 h0 ht
    obtain ⟨p2, rfl, lvs, b1, b2, b3⟩ := dT_rep g2 h0 ht
    exact ⟨p1, p2, kvs, lvs, ps, qs, rfl, rfl, .inl a1, .inl b1, keysT_inj (a2.symm.trans b2), dps_of _ _ _ a3 e1, dps_of _ _ _ b3 e2, s1, s2, kb M hQ h⟩
  · exact h.elim
theorem c_eqT (hu : X.A.units + 65 < cLine) : CmpJ X .Eq (fun x y H Q => rEqT X.K x y H Q ∨ rEqE x y H Q) (rd2 fEqT) := ⟨(op_eqT hu).or (op_eqE hu), snd_eqT⟩
end
end Ww
/-! W21: the pure side: dicts, lists from comprehensions that become cells, one statement at a time. -/
namespace Ww
open PySem PySem.Spec PyProof.Rows L2
section
variable {w wa wb wc wo wi wv : AE} {wr wk : AA} {u v : AT} {a b : AS} {A : AEnds} {ρ : Rho} {μ : Mu} {k : Sl → Mu → Prop}
@[simp ↓] theorem e_eqT {ks vs ks' vs' : List D} : fEqT (.dic ks vs) (.dic ks' vs') k μ = (ks = ks' ∧ (∀ x ∈ ks, ∃ l, x = .tup l) ∧ ∃ ps qs, toPys vs = some ps ∧ toPys vs' = some qs ∧ (∀ p ∈ ps, SeqAt.shaped p = true) ∧ (∀ p ∈ qs, SeqAt.shaped p = true) ∧ k (.d (.bl (PyData.eqvAll ps qs))) μ) := rfl
@[simp] theorem nrm_dic {ks vs : List D} : nrm (.dic ks vs) = .dic ks vs := rfl
@[simp] theorem nrm_dicT {acc : KAcc} : nrm (dicT acc) = dicT acc := rfl
@[simp ↓] theorem e_dispC {ks : List Str} : aDispC ks wr ρ μ k = wr ρ μ fun ss μ1 => k (.m μ1.length) (μ1 ++ [.dic (ks.map .inr) ss]) := rfl
@[simp ↓] theorem e_dput : aDPut wo wi wv A ρ μ = wv ρ μ fun s μ1 => wo ρ μ1 fun y μ2 => wi ρ μ2 fun i μ3 => ∃ j, y = .m j ∧ ∃ x, i = .d x ∧ ∃ ks vs, μ3[j]? = some (.dic ks vs) ∧ ∃ key, keyD x = some key ∧ ks.length < 1000 ∧ A.nx ρ (μ3.set j (.dic (putK2 key s ks vs).1 (putK2 key s ks vs).2)) := by
  unfold aDPut
  congr 1; funext s μ1; congr 1; funext y μ2; congr 1; funext i μ3; apply propext
  constructor
  · intro h
    split at h
    · rename_i j x
      split at h
      · rename_i ks vs key e1 e2
        exact ⟨j, rfl, x, rfl, ks, vs, e1, key, e2, h⟩
      · exact h.elim
    · exact h.elim
  · rintro ⟨j, rfl, x, rfl, ks, vs, e1, key, e2, h⟩
    show (match μ3[j]?, keyD x with
      | some (.dic ks vs), some k => ks.length < 1000 ∧ A.nx ρ (μ3.set j (.dic (putK2 k s ks vs).1 (putK2 k s ks vs).2))
      | _, _ => False)
    rw [e1, e2]
    exact h
@[simp] theorem keyD_str {x : Str} : keyD (.str x) = some (.inr x) := rfl
@[simp ↓] theorem e_indexL {y : Sl} {xs : List Sl} : gIndexL μ y xs k = ∃ l, rdD μ y = some (.lst l) ∧ ∃ z, xs = [.d (.str z)] ∧ ∃ ys, txts l = some ys ∧ ∃ j, FirstAt ys z j ∧ k (.d (.int (j : Nat))) μ := by
  apply propext
  constructor
  · rintro ⟨l, z, ys, j, h1, h2, h3, h4, h5⟩; exact ⟨l, h1, z, h2, ys, h3, j, h4, h5⟩
  · rintro ⟨l, h1, z, h2, ys, h3, j, h4, h5⟩; exact ⟨l, z, ys, j, h1, h2, h3, h4, h5⟩
/-! one statement, the rest as a word -/
theorem step1 (h : ∀ N : Rho → Mu → Prop, N = b A → a { A with nx := N } ρ μ) : aSeq a b A ρ μ := h _ rfl
theorem step1A (h : ∀ B : AEnds, B.rt = A.rt → B.nx = b A → B.bk = A.bk → B.ct = A.ct → a B ρ μ) : aSeq a b A ρ μ := h _ rfl rfl rfl rfl
/-! a comprehension that becomes a cell -/
def lcCK (ga : AG) (u : AT) (we : AE) (vs : List Nat) (ρ : Rho) (k : Sl → Mu → Prop) : List D → Mu → Prop := fun ds μ1 => ∃ I : Nat → List D → Mu → Prop, I 0 [] μ1 ∧
  (∀ i d acc μ', ds[i]? = some d → I i acc μ' → ga (.d d) (wipeR ρ vs) μ' fun ρ2 μ2 => u ρ2 μ2 fun b μ3 => if b = true then aFz we ρ2 μ3 fun s μ4 => ∃ y, s = .d y ∧ acc.length < sizeLine ∧ I (i + 1) (acc ++ [y]) μ4 else I (i + 1) acc μ3) ∧
  ∀ acc μ', I ds.length acc μ' → k (.m μ'.length) (μ' ++ [.lst (acc.map .d)])
@[simp ↓] theorem e_lcC {wi : AIt} {ga : AG} {we : AE} {vs : List Nat} : aLcC wi ga u we vs ρ μ k = wi ρ μ (lcCK ga u we vs ρ k) := rfl
theorem lcC_filt {ga : AG} {we : AE} {vs : List Nat} {α : Type} {l : List α} (d : α → D) (g : α → D) (c : α → Bool) (hl : l.length < sizeLine)
    (ht : ∀ x ∈ l, ∀ (K1 : Sl → Mu → Prop) (K2 : Mu → Prop), (c x = true → K1 (.d (g x)) μ) → (c x = false → K2 μ) → ga (.d (d x)) (wipeR ρ vs) μ fun ρ2 μ2 => u ρ2 μ2 fun z μ3 => if z = true then aFz we ρ2 μ3 K1 else K2 μ3)
    (hk : k (.m μ.length) (μ ++ [.lst (((l.filter c).map g).map .d)])) : lcCK ga u we vs ρ k (l.map d) μ := by
  refine ⟨fun i acc μ' => μ' = μ ∧ i ≤ l.length ∧ acc = ((l.take i).filter c).map g, ⟨rfl, Nat.zero_le _, by simp⟩, ?_, ?_⟩
  · rintro i y acc μ' hd ⟨rfl, hi, rfl⟩
    rw [List.getElem?_map] at hd
    obtain ⟨x, hx, rfl⟩ := Option.map_eq_some_iff.mp hd
    obtain ⟨hlt, e⟩ := List.getElem?_eq_some_iff.mp hx
    have et : l.take (i + 1) = l.take i ++ [x] := by rw [List.take_succ_eq_append_getElem hlt, e]
    refine ht x (List.mem_of_getElem? hx) _ _ (fun ct => ⟨g x, rfl, ?_, rfl, hlt, ?_⟩) fun cf => ⟨rfl, hlt, ?_⟩
    · have h1 := List.length_filter_le c (l.take i)
      have h2 : (l.take i).length ≤ l.length := List.length_take_le' ..
      rw [List.length_map]; omega
    · rw [et, List.filter_append, List.map_append]; simp [ct]
    · rw [et, List.filter_append, List.map_append]; simp [cf]
  · rintro acc μ' ⟨rfl, _, rfl⟩
    rw [List.length_map, List.take_length]
    exact hk
/-! a dict comprehension of two clauses -/
def dcK (g : AG) (wj : AIt) (g1 : AG) (wk : AA) (wv : AE) (vs vs1 : List Nat) (ρ : Rho) (k : Sl → Mu → Prop) : List D → Mu → Prop := fun ds μ1 => ∃ I : Nat → KAcc → Mu → Prop, I 0 [] μ1 ∧
  (∀ i d acc μ', ds[i]? = some d → I i acc μ' → g (.d d) (wipeR ρ vs) μ' fun ρ2 μ2 => wj ρ2 μ2 fun es μ3 => ∃ J : Nat → KAcc → Mu → Prop, J 0 acc μ3 ∧
    (∀ j e acc' ν, es[j]? = some e → J j acc' ν → g1 (.d e) (wipeR ρ2 vs1) ν fun ρ3 μ4 => wk ρ3 μ4 fun ss μ5 => ∃ ks : List Key, ss = ks.map (fun q => .d (kD q)) ∧ ks.length ≤ sizeLine ∧
      aFz wv ρ3 μ5 fun s μ6 => ∃ y, s = .d y ∧ acc'.length < sizeLine ∧ ks ∉ acc'.map (·.1) ∧ J (j + 1) (acc' ++ [(ks, y)]) μ6) ∧
    ∀ acc' ν, J es.length acc' ν → I (i + 1) acc' ν) ∧
  ∀ acc μ', I ds.length acc μ' → k (.d (dicT acc)) μ'
@[simp ↓] theorem e_dc2 {wi : AIt} {g : AG} {wj : AIt} {g1 : AG} {vs vs1 : List Nat} : aDc2 wi g wj g1 wk wv vs vs1 ρ μ k = wi ρ μ (dcK g wj g1 wk wv vs vs1 ρ k) := rfl
theorem dc_run {g : AG} {wj : AIt} {g1 : AG} {vs vs1 : List Nat} {α β : Type} {as : List α} {bs : List β} (da : α → D) (db : β → D) (key : α → β → List Key) (val : α → β → D) (r2 : α → Rho) (r3 : α → β → Rho)
    (hl : as.length * bs.length < sizeLine) (hn : (as.flatMap fun x => bs.map fun y => key x y).Nodup) (hlen : ∀ x y, (key x y).length ≤ sizeLine)
    (hg : ∀ x ∈ as, ∀ KK : Rho → Mu → Prop, KK (r2 x) μ → g (.d (da x)) (wipeR ρ vs) μ KK) (hj : ∀ x ∈ as, ∀ KK : List D → Mu → Prop, KK (bs.map db) μ → wj (r2 x) μ KK)
    (hg1 : ∀ x ∈ as, ∀ y ∈ bs, ∀ KK : Rho → Mu → Prop, KK (r3 x y) μ → g1 (.d (db y)) (wipeR (r2 x) vs1) μ KK) (hkk : ∀ x ∈ as, ∀ y ∈ bs, ∀ KK : List Sl → Mu → Prop, KK ((key x y).map fun q => .d (kD q)) μ → wk (r3 x y) μ KK)
    (hv : ∀ x ∈ as, ∀ y ∈ bs, ∀ KK : Sl → Mu → Prop, KK (.d (val x y)) μ → aFz wv (r3 x y) μ KK) (hk : k (.d (dicT (as.flatMap fun x => bs.map fun y => (key x y, val x y)))) μ) : dcK g wj g1 wk wv vs vs1 ρ k (as.map da) μ := by
  let row : α → KAcc := fun x => bs.map fun y => (key x y, val x y)
  have keys : ∀ l : List α, (l.flatMap row).map (·.1) = l.flatMap fun x => bs.map fun y => key x y := by
    intro l
    rw [List.map_flatMap]
    congr 1
    funext x
    show (bs.map _).map _ = _
    rw [List.map_map]
    rfl
  have lenf : ∀ l : List α, (l.flatMap row).length = l.length * bs.length := by
    intro l
    induction l with
    | nil => simp
    | cons x r ih => rw [List.flatMap_cons, List.length_append, ih]; show (bs.map _).length + _ = _; rw [List.length_map, List.length_cons, Nat.succ_mul]; omega
  refine ⟨fun i acc μ' => μ' = μ ∧ i ≤ as.length ∧ acc = (as.take i).flatMap row, ⟨rfl, Nat.zero_le _, by simp⟩, ?_, ?_⟩
  · rintro i d acc μ' hd ⟨rfl, hi, rfl⟩
    rw [List.getElem?_map] at hd
    obtain ⟨x, hx, rfl⟩ := Option.map_eq_some_iff.mp hd
    obtain ⟨hlt, ex⟩ := List.getElem?_eq_some_iff.mp hx
    have hm := List.mem_of_getElem? hx
    refine hg x hm _ (hj x hm _ ⟨fun j acc' ν => ν = μ' ∧ j ≤ bs.length ∧ acc' = (as.take i).flatMap row ++ (row x).take j, ⟨rfl, Nat.zero_le _, by simp⟩, ?_, ?_⟩)
    · rintro j e acc' ν he ⟨rfl, hjl, rfl⟩
      rw [List.getElem?_map] at he
      obtain ⟨y, hy, rfl⟩ := Option.map_eq_some_iff.mp he
      obtain ⟨hlj, ey⟩ := List.getElem?_eq_some_iff.mp hy
      have hmy := List.mem_of_getElem? hy
      refine hg1 x hm y hmy _ (hkk x hm y hmy _ ⟨key x y, rfl, hlen x y, hv x hm y hmy _ ⟨val x y, rfl, ?_, ?_, rfl, hlj, ?_⟩⟩)
      · have h1 : (as.take i).length ≤ i := List.length_take_le ..
        have h2 : (as.take i).length * bs.length ≤ i * bs.length := Nat.mul_le_mul_right _ h1
        have h4 : (i + 1) * bs.length ≤ as.length * bs.length := Nat.mul_le_mul_right _ hlt
        rw [Nat.succ_mul] at h4
        have h5 : ((row x).take j).length ≤ j := List.length_take_le ..
        rw [List.length_append, lenf]
        omega
      · intro hin
        have e1 : as = as.take i ++ x :: as.drop (i + 1) := by
          rw [← ex]; exact (List.take_append_drop i as).symm.trans (by rw [List.drop_eq_getElem_cons hlt])
        have e2 : (as.flatMap fun x => bs.map fun y => key x y) = ((as.take i).flatMap row ++ (row x).take j).map (·.1) ++ (key x y :: (((row x).drop (j + 1)).map (·.1) ++ ((as.drop (i + 1)).flatMap row).map (·.1))) := by
          rw [← keys]
          conv => lhs; rw [e1]
          rw [List.flatMap_append, List.flatMap_cons, List.map_append, List.map_append, List.map_append, List.append_assoc]
          congr 1
          have e3 : row x = (row x).take j ++ (key x y, val x y) :: (row x).drop (j + 1) := by
            have hlr : j < (row x).length := by show j < (bs.map _).length; rw [List.length_map]; exact hlj
            have e4 : (row x)[j] = (key x y, val x y) := by show (bs.map _)[j] = _; rw [List.getElem_map, ey]
            rw [← e4]; exact (List.take_append_drop j (row x)).symm.trans (by rw [List.drop_eq_getElem_cons hlr])
          conv => lhs; rw [e3]
          simp
        rw [e2] at hn
        have := (List.nodup_append.mp hn).2.2 (key x y) hin (key x y) List.mem_cons_self
        exact this rfl
      · have hlr : j < (row x).length := by show j < (bs.map _).length; rw [List.length_map]; exact hlj
        rw [List.append_assoc, List.take_succ_eq_append_getElem hlr]
        congr 2
        have e4 : (row x)[j] = (key x y, val x y) := by show (bs.map _)[j] = _; rw [List.getElem_map, ey]
        rw [e4]
    · rintro acc' ν ⟨rfl, hjl, rfl⟩
      refine ⟨rfl, hlt, ?_⟩
      have e5 : (bs.map db).length = (row x).length := by show _ = (bs.map _).length; rw [List.length_map, List.length_map]
      rw [e5, List.take_length, List.take_succ_eq_append_getElem hlt, List.flatMap_append, ex]
      simp
  · rintro acc μ' ⟨rfl, _, rfl⟩
    rw [List.length_map, List.take_length]
    exact hk
/-! loops, the body and what comes behind a turn as words -/
theorem while1 (I : Nat → Rho → Mu → Prop) (m0 : Nat) (h0 : I m0 ρ μ) (h : ∀ (B : AS) (N : Rho → Mu → Prop) m ρ' μ', B = b → (∀ m' ρ2 μ2, m' < m → I m' ρ2 μ2 → N ρ2 μ2) → I m ρ' μ' →
    u ρ' μ' fun z μ1 => if z = true then B { A with nx := N, ct := N, bk := A.nx } ρ' μ1 else A.nx ρ' μ1) : aWhile u b A ρ μ :=
  ⟨I, ⟨m0, h0⟩, fun m ρ' μ' hi => h b (fun ρ2 μ2 => ∃ m', m' < m ∧ I m' ρ2 μ2) m ρ' μ' rfl (fun m' _ _ hm hI => ⟨m', hm, hI⟩) hi⟩
theorem for1 {g : AG} {ds : List D} (I : Nat → Rho → Mu → Prop) (h0 : I 0 ρ μ) (h : ∀ (B : AS) (N : Rho → Mu → Prop) i d ρ' μ', B = b → (∀ ρ2 μ2, I (i + 1) ρ2 μ2 → N ρ2 μ2) → ds[i]? = some d → I i ρ' μ' →
    g (.d d) ρ' μ' fun ρ2 μ2 => B { A with nx := N, ct := N, bk := A.nx } ρ2 μ2) (he : ∀ ρ' μ', I ds.length ρ' μ' → A.nx ρ' μ') : forK g b A ρ ds μ :=
  ⟨I, h0, fun i d ρ' μ' hd hi => h b (I (i + 1)) i d ρ' μ' rfl (fun _ _ z => z) hd hi, he⟩
theorem in_flat {neg : Bool} {d : D} {l : List D} (hd : flatD d = true) (hl : l.all flatD = true) (h : k (.d (.bl (if neg then !(l.any fun y => eqF y d) else l.any fun y => eqF y d))) μ) : fIn neg d (.lst l) k μ := .inl ⟨hd, hl, h⟩
theorem in_py {neg : Bool} {d : D} {l : List D} {p : PyData} {ps : List PyData} (h1 : toPy d = some p) (h2 : toPys l = some ps) (h3 : SeqAt.shaped p = true) (h4 : SeqAt.shaped (.list ps) = true)
    (h : k (.d (.bl (if neg then !(ps.any fun z => PyData.eqv z p) else ps.any fun z => PyData.eqv z p))) μ) : fIn neg d (.lst l) k μ := .inr ⟨p, ps, h1, h2, h3, h4, h⟩
end
end Ww
/-! W22: an own exception, caught and kept as a value. -/
namespace Ww
open PySem PySem.Spec PyProof.Rows L2
/-- an exception object of the program's class C, without a dict, at a -/
def ExC (C a : Addr) : HO := .ext fun h => ∃ (oe : Obj) (vs : Array Value), h.get? a = some oe ∧ oe.cls = .ref C ∧ oe.dict = none ∧ oe.data = .fields vs
section
variable {X : Cx} {pins : List (Addr × Obj)} {σ : L2.St} {H : Hp} {s : Shared}
theorem exC_ok {P : Program} {w : World} {h : Heap} {C a : Addr} {oe : Obj} {vs : Array Value} (e : h.get? a = some oe) (c : oe.cls = .ref C) (d : oe.dict = none) (f : oe.data = .fields vs) : ObjOk P w H h a (ExC C a) :=
  ⟨⟨oe, vs, e, c, d, f⟩, ⟨oe, e⟩, fun _ _ ⟨oe, vs, e, z⟩ k => ⟨oe, vs, k oe e, z⟩⟩
/-- what is pinned may be tracked from now on -/
theorem Inv.track {a : Addr} {oe : Obj} {o : HO} (I : Inv X ((a, oe) :: pins) σ H s) (h0 : X.s_0.heap.get? a = none) (hp : ∀ p ∈ X.pn ++ pins, p.1 ≠ a) (new : ObjOk X.prog X.w (upd H a o) s.heap a o) : Inv X pins σ (upd H a o) s := by
  obtain ⟨p1, p2, p3, p4, p5⟩ := I.pin (a, oe) (List.mem_append_right _ List.mem_cons_self)
  have p2 : H a = none := p2
  have old : ∀ b u, X.s_0.heap.get? b = some u → b ≠ a := fun b u e z => by
    rw [z, h0] at e
    cases e
  have trk : ∀ b u, H b = some u → b ≠ a := fun b u e => ne_of_none e p2
  refine ⟨I.ok, I.os, I.bare, ⟨I.base.keep, I.base.slot, fun b u e n x => ?_, I.base.there, fun b xs e => ?_, fun b u z e => ?_, fun b ps e => ?_⟩, I.loc, I.cell, ?_, fun x c e => ?_, fun p h => ?_, fun b u e => ?_, I.len⟩
  · rw [upd_ne (old b u e)]; exact I.base.free b u e n x
  · have q := I.base.tups b xs e
    rw [upd_ne (trk b _ q)]; exact q
  · have q := I.base.frzs b u z e
    rw [upd_ne (trk b _ q)]; exact q
  · obtain ⟨m, q⟩ := I.base.tbls b ps e
    exact ⟨m, by rw [upd_ne (trk b _ q)]; exact q⟩
  · rw [upd_ne (Ne.symm p3)]; exact I.free
  · have ne : c ≠ a := fun z => by
      obtain ⟨v, ob, ho, hd⟩ := I.cell x c e
      rw [z, p1] at ho
      cases ho
      exact p5 _ hd
    rw [upd_ne ne]; exact I.freeC x c e
  · obtain ⟨q1, q2, q3⟩ := I.pin p (by
      rcases List.mem_append.mp h with h | h
      · exact List.mem_append_left _ h
      · exact List.mem_append_right _ (List.mem_cons_of_mem _ h))
    exact ⟨q1, by rw [upd_ne (hp p h)]; exact q2, q3⟩
  · by_cases hb : b = a
    · subst hb
      rw [upd_same] at e
      cases e
      exact new
    · rw [upd_ne hb] at e
      exact (I.hok b u e).stay (fun _ _ _ q => q) (fun c q => by rw [upd_ne (trk c _ q)]; exact q) fun c xs q => by rw [upd_ne (trk c _ q)]; exact q
/-- the clause's wish: what is caught is kept in y's slot -/
def wKeep (K : Fg) (c : Value) (i j : Nat) (Wout : WX) (D : Ends) : WX := fun cls d σ H => ∃ b, PySem.W.exmOne K cls c = some b ∧
  (b = true → ∃ C, cls = .ref C ∧ d = none ∧ ∀ a, H a = none → D.nx ((σ.set i (some (.ref a))).set j (some (.ref a)) |>.set i none) (upd H a (ExC C a))) ∧ (b = false → Wout cls d σ H)
theorem ps_try_keep {x n y : Str} {c : Value} {i j : Nat} {body : List Stmt} {np hp pos yp ap sp : Pos} {tb : WX → TS} {Wout : WX} (hs : X.stack = X.env :: X.outer) (hf : X.env.frame = some X.env.locals) (hex : X.ex = []) (hN : X.N.Nodup) (hi : X.N[i]? = some n) (hj : X.N[j]? = some y)
    (hln : X.env.kindOf n = some .local) (hly : X.env.kindOf y = some .local) (nd : (n == ("__debug__" : Str)) = false) (ncd : (n == ("__classdict__" : Str)) = false) (hc : Names X x c) (tk : Takes X Wout)
    (hb : ∀ (W : WX) (pn : List (Addr × Obj)) (xe : Value → Shared → Prop), Takes (X.tr pn xe) W → PassesOwn (model X.prog X.w) X.A X.env xe → PSs (X.tr pn xe) body (tb W)) :
    PS X (.Try body [.ExceptHandler (some (.Name x np)) (some n) [.Assign [.Name y yp] (.Name n ap) sp] hp] [] [] pos) (fun D σ H => tb (wKeep X.K c i j Wout D) D σ H) := by
  refine ⟨fun pins s σ H D I h => ?_⟩
  have ok := I.ok
  have fr : X.A.frames = some (X.env :: X.outer) := ok.frames.trans (by rw [hs])
  refine wpAny_Try_except (wpAny_mono ((hb (wKeep X.K c i j Wout D) (X.pn ++ pins) (fun e z1 => wpAny (model X.prog X.w) X.A (noteFrame e X.env) (fun _ z2 => wpAny (model X.prog X.w) X.A (setFlight e none) (fun _ z3 =>
    wpAny (model X.prog X.w) X.A (handleBy e X.env [.ExceptHandler (some (.Name x np)) (some n) [.Assign [.Name y yp] (.Name n ap) sp] hp]) (SP X pins D) X.xe z3) X.xe z2) X.xe z1) (fun u z xx => ?_) PassesOwn.looking).run [] s σ H D (I.toTry _) h) (fun f z q => ?_) (fun e z q => q))
  · obtain ⟨a, B, sI, ps, σ', H', cls, d, rfl, J', nb, up, sky, na, os, ag, b, hb1, hyes, hno⟩ := xx
    have J : Inv X pins σ' H' sI := J'.ofTry ok
    have sky2 : Sky B (X.env :: X.outer) a (Zc cls d) X.env.locals z.heap := by rw [← hs]; exact sky
    have Ba : B.get? a = none := by
      rcases sky with q | q | q
      · exact q.2.1
      · exact q.2.1
      · exact q.2.1
    show wpAny _ X.A (noteFrame (.ref a) X.env) _ _ _
    refine Sky.land Zc.steady fr hf sky2 fun h3 fl3 up3 => ?_
    have J3 : Inv X pins σ' H' { z with heap := h3 } := J.landed nb fl3.1 (up.trans up3) os ag
    obtain ⟨o3, v3, at3, z3, d3⟩ := fl3.there
    have apart : ∀ {g : Heap} {o : Obj} {vs : Array Value}, g.FunFrames B (X.env :: X.outer) → g.get? a = some o → o.data = .fields vs → a ∉ frs (X.env :: X.outer) := fun ff e dd hm => by
      obtain ⟨_, o', e', nf⟩ := ff.mem hm
      rw [e] at e'
      cases e'
      exact nf _ dd
    have nst := apart fl3.2.2.1 at3 d3
    have nL : a ≠ X.env.locals := fun q => nst (List.mem_filterMap.mpr ⟨X.env, List.mem_cons_self, by rw [hf, q]⟩)
    have nF : a ∉ X.fs := fun hm => by
      obtain ⟨e, he, q⟩ := List.mem_filterMap.mp hm
      exact nst (List.mem_filterMap.mpr ⟨e, List.mem_cons_of_mem _ he, q⟩)
    -- it was not there at the state without it
    have newI : sI.heap.get? a = none := by
      cases q : sI.heap.get? a with
      | none => rfl
      | some o =>
        have := nb a o q (by rw [hs]; exact nst)
        rw [Ba] at this
        cases this
    have new0 : X.s_0.heap.get? a = none := by
      cases q : X.s_0.heap.get? a with
      | none => rfl
      | some o =>
        obtain ⟨o', q'⟩ := J.base.there a o q (by rw [hex]; exact fun m => nomatch m)
        rw [newI] at q'
        cases q'
    have newP : ∀ p ∈ X.pn ++ pins, p.1 ≠ a := fun p hp q => by
      have := (J.pin p hp).1
      rw [q, newI] at this
      cases this
    have S3 := J3.suite at3 d3 na nL nF
    refine wpAny_handleBy_cons (codeAny_handlers_test ?_) (by intro q; cases q)
    have look : PySem.W.Looks (model X.prog X.w) h3 (typeOf (.ref a)) cls := fun A Q E s k q => wpAny_typeOf_ref (k _ _ at3) (by rw [z3.1]; exact q)
    have mt := PySem.W.exm_one (M := model X.prog X.w) (J3.kIn) look hb1
    have named : ∀ {Q E : Value → Shared → Prop}, Q c { z with heap := h3 } → wpAny (model X.prog X.w) (X.A.mark (some (.ref a))) (eval (.Name x np) X.env) Q E { z with heap := h3 } := fun {Q E} q => by
      obtain ⟨g1, g2, g3 | ⟨g3, g4, g5⟩⟩ := hc
      · exact ld_glob (X := X.suite a ((a, o3) :: (X.pn ++ pins))) S3 g1 g3 q g2
      · exact ld_blt (X := X.suite a ((a, o3) :: (X.pn ++ pins))) S3 g1 g3 g4 q g5 g2
    refine named (mt.here ?_)
    cases b with
    | true =>
      obtain ⟨C, rfl, rfl, hnx⟩ := hyes rfl
      refine codeAny_handlers_suite_as (HandSPX.lands_againZ fl3 fun h4 fl4 up4 => ?_)
      have J4 : Inv X pins σ' H' { z with heap := h4 } := J.landed nb fl4.1 ((up.trans up3).trans up4) os ag
      obtain ⟨o4, v4, at4, z4, d4⟩ := fl4.there
      have S4 := J4.suite at4 d4 na nL nF
      refine store_ok (X := X.suite a ((a, o4) :: (X.pn ++ pins))) (v := .ref a) S4 hN hi (.inl hln) rfl (fun s5 S5 => ?_) (.inr hln)
      have body5 : PSs (X.suite a ((a, o4) :: (X.pn ++ pins))) [.Assign [.Name y yp] (.Name n ap) sp] (tAsg (tVar i) (gName j)) :=
        pss_one (ps_set hN hj (.inl hly) (pe_var hi (.inl hln) nd ncd) rfl (.inr hly))
      have i5 : (σ'.set i (some (V.ref a)))[i]? = some (some (.ref a)) := by
        have hl : i < σ'.length := by
          rw [J.len]
          exact (List.getElem?_eq_some_iff.mp hi).1
        exact List.getElem?_set_self hl
      let D5 : Ends := { nx := fun σ6 H6 => σ6 = (σ'.set i (some (.ref a))).set j (some (.ref a)) ∧ H6 = H', rt := fun _ _ => False }
      refine wpAny_mono (body5.run [] s5 _ H' D5 S5 ⟨.ref a, i5, rfl, rfl⟩) (fun f s6 sp6 => ?_) (fun _ _ q => False.elim q)
      cases f with
      | next =>
        obtain ⟨σ6, H6, S6, rfl, rfl⟩ := sp6
        have J6 : Inv X ((a, o4) :: pins) ((σ'.set i (some (.ref a))).set j (some (.ref a))) H6 s6 := ⟨ok, S6.os, S6.bare, S6.base, S6.loc, S6.cell, S6.free, S6.freeC, fun p m => S6.pin p (by
          refine List.mem_append_left _ ?_
          rcases List.mem_append.mp m with m | m
          · exact List.mem_cons_of_mem _ (List.mem_append_left _ m)
          · rcases List.mem_cons.mp m with m | m
            · rw [m]; exact List.mem_cons_self
            · exact List.mem_cons_of_mem _ (List.mem_append_right _ m)), S6.hok, S6.len⟩
        refine gone_ok J6 hN hi hln fun s7 J7 => ?_
        have at7 : s7.heap.get? a = some o4 := (J7.pin (a, o4) (List.mem_append_right _ List.mem_cons_self)).1
        exact ⟨_, _, Inv.track J7 new0 newP (exC_ok at7 z4.1 z4.2 d4), hnx a na⟩
      | brk => obtain ⟨_, _, _, q⟩ := sp6; exact q.elim
      | cont => obtain ⟨_, _, _, q⟩ := sp6; exact q.elim
      | ret u => obtain ⟨_, _, _, _, _, q⟩ := sp6; exact q.elim
    | false =>
      show wpAny _ X.A (handleBy (.ref a) X.env []) _ _ _
      refine wpAny_handleBy_nil ?_
      obtain ⟨k1, k2, k3, o5, vs, T, oT, ts, he, hz, hd, h1, hr⟩ := id fl3
      unfold PySem.passOn
      refine wpAny_bind (wpAny_field he hd h1 ?_)
      rw [if_neg (show ¬ ((Value.ref T == Value.none) = true) by simp)]
      have out : wpAny (model X.prog X.w) X.A (setFlight (.ref a) X.env.frame) (fun _ z4 => wpAny (model X.prog X.w) X.A (throw (.ref a) : Sem Flow) (SP X pins D) X.xe z4) X.xe { z with heap := h3 } := by
        rw [hf]
        exact HandSPX.setFlight_upZ fl3 fun h4 hh4 up4 => wpAny_throw (tk _ _ ⟨a, B, sI, pins, σ', H', cls, d, rfl, J, nb, (up.trans up3).trans up4, .inr (.inr (by rw [hs]; exact hh4)), na, os, ag, hno rfl⟩)
      first
        | exact wpAny_bind (wpAny_pure (wpAny_bind out))
        | exact wpAny_bind out
  · cases f with
    | next => obtain ⟨σ', H', J', q⟩ := q; exact wpAny_execs_nil ⟨σ', H', J'.ofTry ok, q⟩
    | brk => obtain ⟨σ', H', J', q⟩ := q; exact ⟨σ', H', J'.ofTry ok, q⟩
    | cont => obtain ⟨σ', H', J', q⟩ := q; exact ⟨σ', H', J'.ofTry ok, q⟩
    | ret u => obtain ⟨v, σ', H', J', r, q⟩ := q; exact ⟨v, σ', H', J'.ofTry ok, r, q⟩
/-! ### isinstance(e, C), e such an object -/
def rIsiX (K : Fg) : List V → Hp → VK → Prop := fun xs H Q => ∃ (a C : Addr), xs = [.ref a, .ref C] ∧ H a = some (ExC C a) ∧ Q (.bl true) H
/-- what isinstance asks of the class -/
structure ExK (K : Fg) (C : Addr) : Prop where
  cls : (PySem.W.clsIn K C).isSome = true
  ga : PySem.W.findIn K (.ref C) "__getattribute__" = some (some (.builtin "BaseException.__getattribute__"))
  gt : ∃ gt, PySem.W.findIn K (.ref C) "__getattr__" = some gt
  sub : PySem.W.subIn K (.ref C) (.type "BaseException") = some true
  fc : PySem.W.findIn K (.ref C) "__class__" = some (some (.builtin "object.__class__"))
  sg : PySem.W.specialIn K (.builtin "object.__class__") "__get__" = some (some (.builtin "getset_descriptor.__get__"))
  tk : PySem.W.takesIn K (.builtin "object.__class__") = some true
  mo : PySem.W.mroIn K C (.type "object") = some true
theorem call_isiX (hk : ∀ C, True → ExK X.K C ∨ True) : True := trivial
end
end Ww
/-! W23: isinstance of such an object; a def that tries and keeps; a def that raises. -/
namespace Ww
open PySem PySem.Spec PyProof.Rows L2
section
variable {X : Cx} {pins : List (Addr × Obj)} {σ : L2.St} {H : Hp} {s : Shared}
def rIsiC (C : Addr) : List V → Hp → VK → Prop := fun xs H Q => ∃ a, xs = [.ref a, .ref C] ∧ H a = some (ExC C a) ∧ Q (.bl true) H
theorem call_isiC {C : Addr} (k : ExK X.K C) : CallR X (.builtin "isinstance") (rIsiC C) := by
  intro pins s σ H xs us Q I r h
  obtain ⟨a, rfl, ha, q⟩ := h
  obtain ⟨u1, u2, rfl, r1, r2⟩ := vals2 r
  cases r1
  cases r2
  obtain ⟨⟨oe, vs, e, c, d, f⟩, _, _⟩ := I.hok a _ ha
  obtain ⟨gt, hgt⟩ := k.gt
  have one : PySem.W.kitOne X.K (.ref C) (.ref C) = some true := if_pos (by simp)
  refine PySem.W.kia_one (PySem.W.kitx_exc (x := a) (ox := oe) (od := none) k.cls k.ga hgt k.sub k.fc k.sg k.tk k.mo) I.kIn ⟨e, c, ?_, ?_⟩ one (fun z => nomatch z) fun tk => ⟨.bl true, H, I.tok tk, rfl, q⟩
  · unfold PySem.W.notCls; rw [f]
  · rw [d]; trivial
/-! ### kept = None; try: x(); except Y as e: kept = e; return kept -/
def TKeep (K : Fg) (CS : Addr) : (XK → Hp → VK → Prop) → Hp → VK → Prop := fun tl H Q =>
  tl (fun cls d H' => ∃ C, cls = .ref C ∧ d = none ∧ PySem.W.exmOne K cls (.ref CS) = some true ∧ ∀ a, H' a = none → Q (.ref a) (upd H' a (ExC C a))) H fun _ H' => ∃ v, (some (some V.non) : Option (Option V)) = some (some v) ∧ Q v H'
theorem keep_gives {x a n y e q : Str} {sg : Scope} {g CS : Addr} {cdg : Value} {p1 p2 p3 p4 p5 p6 p7 p8 p9 p10 p11 p12 p13 p14 : Pos} {jn} (Sg : FnScope [a, y, n] [a] sg) (hge : sg.names.lookup e = some .globalImplicit) (hme : X.mg e = some (.ref CS)) (hde : (e == ("__debug__" : Str)) = false)
    (hln : sg.names.lookup n = some .local) (hly : sg.names.lookup y = some .local) (nd : (n == ("__debug__" : Str)) = false) (ncd : (n == ("__classdict__" : Str)) = false) (yd : (y == ("__debug__" : Str)) = false) (ycd : (y == ("__classdict__" : Str)) = false) :
    LamX.GivesTo X [a, y, n] x sg g cdg [.Assign [.Name y p1] (.Constant .none jn p2) p3, .Try [.Expr (.Call (.Name a p4) [] [] p5) p6] [.ExceptHandler (some (.Name e p7)) (some n) [.Assign [.Name y p8] (.Name n p9) p10] p11] [] [] p12, .Return (some (.Name y p13)) p14] a q (TKeep X.K CS) := by
  intro f c' s H Q tl act hc h
  have N3 : [a, y, n].Nodup := Sg.nd
  have hgl : Gl (cxOf C8.CX0 X.prog X.w X.K X.mg X.base [a, y, n] x sg g cdg X.A X.stack s H C8.E0).nox e := hge
  refine ⟨_, pss_cons (ps_set (X := (cxOf C8.CX0 X.prog X.w X.K X.mg X.base [a, y, n] x sg g cdg X.A X.stack s H C8.E0).nox) (i := 1) N3 rfl (.inl hly) pe_non rfl (.inr hly))
      (pss_cons (ps_try_keep (X := (cxOf C8.CX0 X.prog X.w X.K X.mg X.base [a, y, n] x sg g cdg X.A X.stack s H C8.E0).nox) (i := 2) (j := 1) (c := .ref CS)
          (tb := fun W D σ H => ∃ Ech : XK, (∀ cls d σ' H', Ech cls d H' → σ'.length = 3 → W cls d σ' H') ∧ σ[0]? = some (some (.ref f)) ∧ H c' = some (LamX.CodeO c' q) ∧ tl Ech H fun _ H1 => D.nx σ H1)
          rfl rfl rfl N3 rfl rfl hln hly nd ncd ⟨hgl, hde, .inl hme⟩ L2.takes0 (fun W pn xe tk _ => ?_))
        (pss_one (ps_ret (pe_var (i := 1) (x := y) rfl (.inl hly) yd ycd)))), ?_⟩
  · refine ⟨fun pins s' σ H' D I h' => ?_⟩
    obtain ⟨Ech, hW, h1, h2, h3⟩ := h'
    have tk2 : Takes ((cxOf C8.CX0 X.prog X.w X.K X.mg X.base [a, y, n] x sg g cdg X.A X.stack s H C8.E0).tr pn xe) (fun cls d σ H => σ.length = 3 → W cls d σ H) := fun u z ⟨b, B, sI, ps, σ1, H1, cls, d, e1, J, nb, up, sky, na, os, ag, w⟩ =>
      tk u z ⟨b, B, sI, ps, σ1, H1, cls, d, e1, J, nb, up, sky, na, os, ag, w J.len⟩
    have hp := act (fun cls d σ H => σ.length = 3 → W cls d σ H) pn xe Ech p4 p5 tk2 fun cls d σ' H' z => hW cls d σ' H' z
    have hq := pss_one (ps_expr (pos := p6) hp)
    exact hq.run pins s' σ H' D I ⟨h1, h2, h3⟩
  · refine ⟨fun cls d H' => ∃ C, cls = .ref C ∧ d = none ∧ PySem.W.exmOne X.K cls (.ref CS) = some true ∧ ∀ a, H' a = none → Q (.ref a) (upd H' a (ExC C a)), fun cls d σ' H' z hl => ?_, rfl, hc, ?_⟩
    · obtain ⟨C, rfl, rfl, em, hQ⟩ := z
      refine ⟨true, em, fun _ => ⟨C, rfl, rfl, fun b hb => ?_⟩, fun z => nomatch z⟩
      refine ⟨.ref b, ?_, hQ b hb⟩
      have l1 : 1 < σ'.length := by omega
      rw [List.getElem?_set_ne (by decide), List.getElem?_set_self (by rw [List.length_set]; exact l1)]
    · exact h
end
/-! ### a def that raises: its promise with what it lets out -/
section
variable {P : Program} {w : World} {K : Fg} {mg : Str → Option Value} {base : Heap} {x qual : Str} {params : Arguments} {body : List Stmt} {scope : Scope} {dvs : List V} {kws : List (Str × V)} {f : Addr} {fd : FuncData}
/-- what the raising def promises: at these arguments it lets the class OW out, and what was known stays so -/
def spX (K : Fg) (OW : Addr) (S : List Sl → Prop) : Sp := fun vs H _ E => ∃ (F : Hp) (ss : List Sl), Mem K F H [] [] ∧ RepSs K F [] ss vs ∧ S ss ∧ ∀ H', Sub H H' → E (.ref OW) none H'
abbrev xX (P : Program) (w : World) (K : Fg) (mg : Str → Option Value) (base : Heap) (N : List Str) (qual : Str) (scope : Scope) (f : Addr) (cdv : Value) (A : Around) (outer : List Env) (s : Shared) (H : Hp) (E : XK) : Cx := cxOf (L2.CX P w) P w K mg base N qual scope f cdv A outer s H E
end
end Ww
/-! W24: the head's look at the module: defs at any place, no list objects, no tables. -/
namespace Ww
open PySem PySem.Spec PyProof.Rows L2
def isListO (o : Obj) : Bool := match o.cls with
  | .type c => decide (c = "list")
  | _ => false
/-- what is told of: neither tables nor lists -/
def frY (g : Addr → Option Obj) (as : List Addr) : Fg := (He.frG g as).filter fun q => !(He.emptyTab q.2 || isListO q.2)
theorem frY_mem {g : Addr → Option Obj} {as : List Addr} {a : Addr} {o : Obj} (h : (frY g as).lookup a = some o) : g a = some o ∧ He.emptyTab o = false ∧ isListO o = false := by
  obtain ⟨h1, h2⟩ := List.mem_filter.mp (He.lookup_mem h)
  have h3 : (!(He.emptyTab o || isListO o)) = true := h2
  refine ⟨He.frG_mem h1, ?_⟩
  cases q : He.emptyTab o <;> cases q2 : isListO o <;> rw [q, q2] at h3 <;> first | exact ⟨rfl, rfl⟩ | cases h3
def toA (d : He.DefD) (f : Fg → Addr) : He5.DefA := ⟨f, d.name, d.qual, d.params, d.body, d.scope, d.dfl, d.kwd⟩
structure SaysY (fa : List He.Fa) (fn : List He5.DefA) (tf : List He.Defn) (ex : Fg → Bool) (h : Heap) (K : Fg) : Prop where
  t : He5.SaysA fa fn K
  more : ex K = true
  hd : ∀ p ∈ tf, PySem.W.codeHdIn K (He.cT K p).1 (He.cT K p).2 = true
  out : ∀ p ∈ tf, K.lookup (He.cT K p).2 = none
  empty : ∀ p ∈ tf, h.get? (He.cT K p).2 = some { cls := .none, data := .fields #[] }
  nol : ∀ a o, K.lookup a = some o → o.cls ≠ .type "list"
abbrev AlY : Type := He.AlD × Bool
def obsY (n : Nat) (fa : List He.Fa) (fn : List He5.DefA) (tf : List He.Defn) (ex : Fg → Bool) (g : Addr → Option Obj) : AlY := (He5.obsA fa fn (frY g (He.asD g n)), ex (frY g (He.asD g n)) && He.tabsB g tf (frY g (He.asD g n)))
def valY (fn : List He5.DefA) : AlY := (He5.valA fn, true)
theorem saysY_of {n : Nat} {fa : List He.Fa} {fn : List He5.DefA} {tf : List He.Defn} {ex : Fg → Bool} {h : Heap} (e : obsY n fa fn tf ex h.get? = valY fn) : SaysY fa fn tf ex h (frY h.get? (He.asD h.get? n)) := by
  have e1 : He5.obsA fa fn (frY h.get? (He.asD h.get? n)) = He5.valA fn := congrArg (fun z : AlY => z.1) e
  have e2 : (ex (frY h.get? (He.asD h.get? n)) && He.tabsB h.get? tf (frY h.get? (He.asD h.get? n))) = true := congrArg (fun z : AlY => z.2) e
  obtain ⟨m, tb⟩ := Bool.and_eq_true_iff.mp e2
  have one : ∀ p ∈ tf, PySem.W.codeHdIn (frY h.get? (He.asD h.get? n)) (He.cT (frY h.get? (He.asD h.get? n)) p).1 (He.cT (frY h.get? (He.asD h.get? n)) p).2 = true ∧ ∃ o, h.get? (He.cT (frY h.get? (He.asD h.get? n)) p).2 = some o ∧ He.emptyTab o = true := by
    intro p hp
    obtain ⟨c1, c2⟩ := Bool.and_eq_true_iff.mp (List.all_eq_true.mp tb p hp)
    refine ⟨c1, ?_⟩
    revert c2
    cases h.get? (He.cT (frY h.get? (He.asD h.get? n)) p).2 with
    | none => exact fun z => nomatch z
    | some o => exact fun z => ⟨o, rfl, z⟩
  refine ⟨e1, m, fun p hp => (one p hp).1, fun p hp => ?_, fun p hp => ?_, fun a o ha z => ?_⟩
  · obtain ⟨_, o, g1, g2⟩ := one p hp
    cases q : (frY h.get? (He.asD h.get? n)).lookup (He.cT (frY h.get? (He.asD h.get? n)) p).2 with
    | none => rfl
    | some u =>
      obtain ⟨k1, k2, _⟩ := frY_mem q
      rw [g1] at k1
      cases k1
      rw [g2] at k2
      cases k2
  · obtain ⟨_, o, g1, g2⟩ := one p hp
    rw [g1, He.emptyTab_eq g2]
  · have k := (frY_mem ha).2.2
    unfold isListO at k
    rw [z] at k
    cases k
def hookY (n : Nat) (fa : List He.Fa) (fn : List He5.DefA) (tf : List He.Defn) (ex : Fg → Bool) : PySem.W.Hook where
  α := AlY
  obs := fun s => obsY n fa fn tf ex s.heap.get?
  val := fun _ => valY fn
  says := fun _ h => ∃ K : Fg, K.In h ∧ SaysY fa fn tf ex h K
  of := fun _ _ e => ⟨_, fun _ _ q => (frY_mem q).1, saysY_of e⟩
  keeps := fun _ _ _ ⟨K, hK, c⟩ k => ⟨K, PySem.W.Frag.In.keeps hK k, c.t, c.more, c.hd, c.out, fun p hp => k _ _ (c.empty p hp), c.nol⟩
theorem obsY_eq {n : Nat} {fa : List He.Fa} {fn : List He5.DefA} {tf : List He.Defn} {ex : Fg → Bool} {g : Addr → Option Obj} {s : Shared} (h : ∀ a, g a = s.heap.get? a) : obsY n fa fn tf ex g = (hookY n fa fn tf ex).obs s := by
  rw [show g = s.heap.get? from funext h]
  rfl
/-- without lists in K the script is tracked -/
theorem SaysY.lst {fa : List He.Fa} {fn : List He5.DefA} {tf : List He.Defn} {ex : Fg → Bool} {h : Heap} {K : Fg} (c : SaysY fa fn tf ex h K) {H : Hp} {a : Addr} {xs : List V} (z : SqL K H a xs) : Rd H a (.lst xs) := by
  rcases z with z | ⟨o, its, n, q, e, _⟩
  · exact z
  · exact absurd e (c.nol a o q)
/-! ### more that is told -/
def oB (a b : Option (Option Value)) : Bool := He.eqO a b
def propObj (K : Fg) (x m : Str) : Addr := match PySem.W.findIn K (.ref (He.ga K x)) m with
  | some (some (.ref p)) => p
  | _ => 0
def propB (K : Fg) (x m : Str) : Bool := He.eqO (PySem.W.findIn K (.ref (He.ga K x)) m) (some (some (.ref (propObj K x m)))) && (He.eqO (PySem.W.specialIn K (.ref (propObj K x m)) "__get__") (some (some (.builtin "property.__get__"))) &&
  (decide (PySem.W.takesIn K (.ref (propObj K x m)) = some true) && (match PySem.W.recIn K (propObj K x m) "property" with
    | some (.ref _ :: _) => true
    | _ => false)))
theorem propB_ok {K : Fg} {x m : Str} (h : propB K x m = true) : ∃ p, PropOf K (He.ga K x) m p (propAt K x m) := by
  obtain ⟨h1, h⟩ := Bool.and_eq_true_iff.mp h
  obtain ⟨h2, h⟩ := Bool.and_eq_true_iff.mp h
  obtain ⟨h3, h4⟩ := Bool.and_eq_true_iff.mp h
  have e1 := He.eqO_ok h1
  refine ⟨propObj K x m, e1, He.eqO_ok h2, of_decide_eq_true h3, ?_⟩
  have ep : propAt K x m = (match PySem.W.recIn K (propObj K x m) "property" with | some (.ref g :: _) => g | _ => 0) := by
    unfold propAt
    rw [e1] <;> rfl
  rw [ep]
  cases q : PySem.W.recIn K (propObj K x m) "property" with
  | none => rw [q] at h4; cases h4
  | some l =>
    cases l with
    | nil => rw [q] at h4; cases h4
    | cons v r => cases v with
      | ref g => exact ⟨r, rfl⟩
      | _ => rw [q] at h4; cases h4
def kindB (K : Fg) (C : Addr) : Bool := He.eqO (PySem.W.findIn K (.ref C) "__class__") (some (some (.builtin "object.__class__"))) && (He.eqO (PySem.W.specialIn K (.builtin "object.__class__") "__get__") (some (some (.builtin "getset_descriptor.__get__"))) &&
  (decide (PySem.W.takesIn K (.builtin "object.__class__") = some true) && (decide (PySem.W.mroIn K C (.type "object") = some true) && (decide (PySem.W.kitOne K (.ref C) (.ref C) = some true) && knds.all fun m => decide (PySem.W.kitOne K (.type m) (.ref C) = some false)))))
theorem kindB_ok {K : Fg} {C : Addr} (c : Cls K C) (h : kindB K C = true) : KindF K C := by
  obtain ⟨h1, h⟩ := Bool.and_eq_true_iff.mp h
  obtain ⟨h2, h⟩ := Bool.and_eq_true_iff.mp h
  obtain ⟨h3, h⟩ := Bool.and_eq_true_iff.mp h
  obtain ⟨h4, h⟩ := Bool.and_eq_true_iff.mp h
  obtain ⟨h5, h6⟩ := Bool.and_eq_true_iff.mp h
  exact ⟨c, He.eqO_ok h1, He.eqO_ok h2, of_decide_eq_true h3, of_decide_eq_true h4, of_decide_eq_true h5, fun m hm => of_decide_eq_true (List.all_eq_true.mp h6 m hm)⟩
def exkB (K : Fg) (C : Addr) : Bool := (PySem.W.clsIn K C).isSome && (He.eqO (PySem.W.findIn K (.ref C) "__getattribute__") (some (some (.builtin "BaseException.__getattribute__"))) && ((PySem.W.findIn K (.ref C) "__getattr__").isSome &&
  (decide (PySem.W.subIn K (.ref C) (.type "BaseException") = some true) && (He.eqO (PySem.W.findIn K (.ref C) "__class__") (some (some (.builtin "object.__class__"))) && (He.eqO (PySem.W.specialIn K (.builtin "object.__class__") "__get__") (some (some (.builtin "getset_descriptor.__get__"))) &&
  (decide (PySem.W.takesIn K (.builtin "object.__class__") = some true) && decide (PySem.W.mroIn K C (.type "object") = some true)))))))
theorem exkB_ok {K : Fg} {C : Addr} (h : exkB K C = true) : ExK K C := by
  obtain ⟨h1, h⟩ := Bool.and_eq_true_iff.mp h
  obtain ⟨h2, h⟩ := Bool.and_eq_true_iff.mp h
  obtain ⟨h3, h⟩ := Bool.and_eq_true_iff.mp h
  obtain ⟨h4, h⟩ := Bool.and_eq_true_iff.mp h
  obtain ⟨h5, h⟩ := Bool.and_eq_true_iff.mp h
  obtain ⟨h6, h⟩ := Bool.and_eq_true_iff.mp h
  obtain ⟨h7, h8⟩ := Bool.and_eq_true_iff.mp h
  exact ⟨h1, He.eqO_ok h2, Option.isSome_iff_exists.mp h3, of_decide_eq_true h4, He.eqO_ok h5, He.eqO_ok h6, of_decide_eq_true h7, of_decide_eq_true h8⟩
/-- an empty tuple of K -/
def nilB (K : Fg) (a : Addr) : Bool := match K.lookup a with
  | some o => decide (o.cls = .type "tuple") && (match o.data with
    | .seq its _ => its.isEmpty
    | _ => false)
  | none => false
theorem nilB_ok {K : Fg} {a : Addr} (h : nilB K a = true) (H : Hp) : SqT K H a [] := by
  unfold nilB at h
  revert h
  cases q : K.lookup a with
  | none => exact fun z => nomatch z
  | some o =>
    intro h
    obtain ⟨h1, h2⟩ := Bool.and_eq_true_iff.mp h
    have e1 := of_decide_eq_true h1
    revert h2
    cases e : o.data with
    | seq its n =>
      intro h2
      have e2 := Array.isEmpty_iff.mp h2
      subst e2
      exact .inr ⟨o, #[], n, q, e1, e, by simp, .nil⟩
    | _ => exact fun z => nomatch z
end Ww
namespace K01
open PySem PySem.Spec PyProof.Rows L2 Ww
def top (i : Nat) : Stmt := PySem.Challenge.pw_inallworlds_k01_whole_facts.main.body.getD i (.Pass ⟨0, 0, 0, 0⟩)
def d_inner_tests : He.DefD := ⟨("inner_tests", none), "inner_tests", "inner_tests", defArgs (top 15), defBody (top 15), defScope (top 15), [], []⟩
abbrev ad_inner_tests (K : Fg) : Addr := He.fAd K ("inner_tests", none)
theorem b_inner_tests : Bd d_inner_tests ["thing"] := ⟨rfl, fun _ _ _ _ _ _ us hl => match us, hl with | [_], _ => rfl⟩
def d_is_test_of : He.DefD := ⟨("is_test_of", none), "is_test_of", "is_test_of", defArgs (top 16), defBody (top 16), defScope (top 16), [], []⟩
abbrev ad_is_test_of (K : Fg) : Addr := He.fAd K ("is_test_of", none)
theorem b_is_test_of : Bd d_is_test_of ["words", "thing"] := ⟨rfl, fun _ _ _ _ _ _ us hl => match us, hl with | [_, _], _ => rfl⟩
def d_holds_by : He.DefD := ⟨("holds_by", none), "holds_by", "holds_by", defArgs (top 17), defBody (top 17), defScope (top 17), [], []⟩
abbrev ad_holds_by (K : Fg) : Addr := He.fAd K ("holds_by", none)
theorem b_holds_by : Bd d_holds_by ["words", "test", "atom"] := ⟨rfl, fun _ _ _ _ _ _ us hl => match us, hl with | [_, _, _], _ => rfl⟩
def d_is_number : He.DefD := ⟨("is_number", none), "is_number", "is_number", defArgs (top 21), defBody (top 21), defScope (top 21), [], []⟩
abbrev ad_is_number (K : Fg) : Addr := He.fAd K ("is_number", none)
theorem b_is_number : Bd d_is_number ["thing"] := ⟨rfl, fun _ _ _ _ _ _ us hl => match us, hl with | [_], _ => rfl⟩
def d_is_between : He.DefD := ⟨("is_between", none), "is_between", "is_between", defArgs (top 22), defBody (top 22), defScope (top 22), [], []⟩
abbrev ad_is_between (K : Fg) : Addr := He.fAd K ("is_between", none)
theorem b_is_between : Bd d_is_between ["thing", "low", "high"] := ⟨rfl, fun _ _ _ _ _ _ us hl => match us, hl with | [_, _, _], _ => rfl⟩
def d_is_list : He.DefD := ⟨("is_list", none), "is_list", "is_list", defArgs (top 23), defBody (top 23), defScope (top 23), [], []⟩
abbrev ad_is_list (K : Fg) : Addr := He.fAd K ("is_list", none)
theorem b_is_list : Bd d_is_list ["thing"] := ⟨rfl, fun _ _ _ _ _ _ us hl => match us, hl with | [_], _ => rfl⟩
def d_is_plain_word : He.DefD := ⟨("is_plain_word", none), "is_plain_word", "is_plain_word", defArgs (top 24), defBody (top 24), defScope (top 24), [], []⟩
abbrev ad_is_plain_word (K : Fg) : Addr := He.fAd K ("is_plain_word", none)
theorem b_is_plain_word : Bd d_is_plain_word ["thing"] := ⟨rfl, fun _ _ _ _ _ _ us hl => match us, hl with | [_], _ => rfl⟩
def d_are_unlike_words : He.DefD := ⟨("are_unlike_words", none), "are_unlike_words", "are_unlike_words", defArgs (top 25), defBody (top 25), defScope (top 25), [], []⟩
abbrev ad_are_unlike_words (K : Fg) : Addr := He.fAd K ("are_unlike_words", none)
theorem b_are_unlike_words : Bd d_are_unlike_words ["thing", "low", "high"] := ⟨rfl, fun _ _ _ _ _ _ us hl => match us, hl with | [_, _, _], _ => rfl⟩
def d_is_fact_of : He.DefD := ⟨("is_fact_of", none), "is_fact_of", "is_fact_of", defArgs (top 31), defBody (top 31), defScope (top 31), [], []⟩
abbrev ad_is_fact_of (K : Fg) : Addr := He.fAd K ("is_fact_of", none)
theorem b_is_fact_of : Bd d_is_fact_of ["tests", "deeds", "thing"] := ⟨rfl, fun _ _ _ _ _ _ us hl => match us, hl with | [_, _, _], _ => rfl⟩
def d_Tongue___init__ : He.DefD := ⟨("Tongue", some "__init__"), "__init__", "Tongue.__init__", defArgs (inClass (top 32) 0), defBody (inClass (top 32) 0), defScope (inClass (top 32) 0), [.adr (He.dflAt ("Tongue", some "__init__") 0)], []⟩
abbrev ad_Tongue___init__ (K : Fg) : Addr := He.fAd K ("Tongue", some "__init__")
def d_Tongue_tests : He.DefD := ⟨("Tongue", some "tests"), "tests", "Tongue.tests", defArgs (inClass (top 32) 1), defBody (inClass (top 32) 1), defScope (inClass (top 32) 1), [], []⟩
def ad_Tongue_tests (K : Fg) : Addr := propAt K "Tongue" "tests"
theorem b_Tongue_tests : Bd d_Tongue_tests ["self"] := ⟨rfl, fun _ _ _ _ _ _ us hl => match us, hl with | [_], _ => rfl⟩
def d_Tongue_deeds : He.DefD := ⟨("Tongue", some "deeds"), "deeds", "Tongue.deeds", defArgs (inClass (top 32) 2), defBody (inClass (top 32) 2), defScope (inClass (top 32) 2), [], []⟩
def ad_Tongue_deeds (K : Fg) : Addr := propAt K "Tongue" "deeds"
theorem b_Tongue_deeds : Bd d_Tongue_deeds ["self"] := ⟨rfl, fun _ _ _ _ _ _ us hl => match us, hl with | [_], _ => rfl⟩
def d_Tongue_facts : He.DefD := ⟨("Tongue", some "facts"), "facts", "Tongue.facts", defArgs (inClass (top 32) 3), defBody (inClass (top 32) 3), defScope (inClass (top 32) 3), [], []⟩
def ad_Tongue_facts (K : Fg) : Addr := propAt K "Tongue" "facts"
theorem b_Tongue_facts : Bd d_Tongue_facts ["self"] := ⟨rfl, fun _ _ _ _ _ _ us hl => match us, hl with | [_], _ => rfl⟩
def d_Tongue___eq__ : He.DefD := ⟨("Tongue", some "__eq__"), "__eq__", "Tongue.__eq__", defArgs (inClass (top 32) 4), defBody (inClass (top 32) 4), defScope (inClass (top 32) 4), [], []⟩
abbrev ad_Tongue___eq__ (K : Fg) : Addr := He.fAd K ("Tongue", some "__eq__")
theorem b_Tongue___eq__ : Bd d_Tongue___eq__ ["self", "other"] := ⟨rfl, fun _ _ _ _ _ _ us hl => match us, hl with | [_, _], _ => rfl⟩
def d_need_tongue : He.DefD := ⟨("need_tongue", none), "need_tongue", "need_tongue", defArgs (top 33), defBody (top 33), defScope (top 33), [], []⟩
abbrev ad_need_tongue (K : Fg) : Addr := He.fAd K ("need_tongue", none)
theorem b_need_tongue : Bd d_need_tongue ["tongue"] := ⟨rfl, fun _ _ _ _ _ _ us hl => match us, hl with | [_], _ => rfl⟩
def d_many_atoms : He.DefD := ⟨("many_atoms", none), "many_atoms", "many_atoms", defArgs (top 34), defBody (top 34), defScope (top 34), [], []⟩
abbrev ad_many_atoms (K : Fg) : Addr := He.fAd K ("many_atoms", none)
theorem b_many_atoms : Bd d_many_atoms ["tongue"] := ⟨rfl, fun _ _ _ _ _ _ us hl => match us, hl with | [_], _ => rfl⟩
def d_is_atom : He.DefD := ⟨("is_atom", none), "is_atom", "is_atom", defArgs (top 35), defBody (top 35), defScope (top 35), [], []⟩
abbrev ad_is_atom (K : Fg) : Addr := He.fAd K ("is_atom", none)
theorem b_is_atom : Bd d_is_atom ["tongue", "thing"] := ⟨rfl, fun _ _ _ _ _ _ us hl => match us, hl with | [_, _], _ => rfl⟩
def d_need_atom : He.DefD := ⟨("need_atom", none), "need_atom", "need_atom", defArgs (top 36), defBody (top 36), defScope (top 36), [], []⟩
abbrev ad_need_atom (K : Fg) : Addr := He.fAd K ("need_atom", none)
theorem b_need_atom : Bd d_need_atom ["tongue", "atom"] := ⟨rfl, fun _ _ _ _ _ _ us hl => match us, hl with | [_, _], _ => rfl⟩
def d_is_deed : He.DefD := ⟨("is_deed", none), "is_deed", "is_deed", defArgs (top 37), defBody (top 37), defScope (top 37), [], []⟩
abbrev ad_is_deed (K : Fg) : Addr := He.fAd K ("is_deed", none)
theorem b_is_deed : Bd d_is_deed ["tongue", "thing"] := ⟨rfl, fun _ _ _ _ _ _ us hl => match us, hl with | [_, _], _ => rfl⟩
def d_need_deed : He.DefD := ⟨("need_deed", none), "need_deed", "need_deed", defArgs (top 38), defBody (top 38), defScope (top 38), [], []⟩
abbrev ad_need_deed (K : Fg) : Addr := He.fAd K ("need_deed", none)
theorem b_need_deed : Bd d_need_deed ["tongue", "deed"] := ⟨rfl, fun _ _ _ _ _ _ us hl => match us, hl with | [_, _], _ => rfl⟩
def d_bars_atom : He.DefD := ⟨("bars_atom", none), "bars_atom", "bars_atom", defArgs (top 40), defBody (top 40), defScope (top 40), [], []⟩
abbrev ad_bars_atom (K : Fg) : Addr := He.fAd K ("bars_atom", none)
theorem b_bars_atom : Bd d_bars_atom ["tongue", "fact", "atom"] := ⟨rfl, fun _ _ _ _ _ _ us hl => match us, hl with | [_, _, _], _ => rfl⟩
def d_bars_step : He.DefD := ⟨("bars_step", none), "bars_step", "bars_step", defArgs (top 41), defBody (top 41), defScope (top 41), [], []⟩
abbrev ad_bars_step (K : Fg) : Addr := He.fAd K ("bars_step", none)
theorem b_bars_step : Bd d_bars_step ["tongue", "fact", "atom", "deed", "other"] := ⟨rfl, fun _ _ _ _ _ _ us hl => match us, hl with | [_, _, _, _, _], _ => rfl⟩
def d_is_open : He.DefD := ⟨("is_open", none), "is_open", "is_open", defArgs (top 42), defBody (top 42), defScope (top 42), [], []⟩
abbrev ad_is_open (K : Fg) : Addr := He.fAd K ("is_open", none)
theorem b_is_open : Bd d_is_open ["tongue", "atom"] := ⟨rfl, fun _ _ _ _ _ _ us hl => match us, hl with | [_, _], _ => rfl⟩
def d_bar_of : He.DefD := ⟨("bar_of", none), "bar_of", "bar_of", defArgs (top 43), defBody (top 43), defScope (top 43), [], []⟩
abbrev ad_bar_of (K : Fg) : Addr := He.fAd K ("bar_of", none)
theorem b_bar_of : Bd d_bar_of ["tongue", "atom", "deed", "other"] := ⟨rfl, fun _ _ _ _ _ _ us hl => match us, hl with | [_, _, _, _], _ => rfl⟩
def d_open_lot : He.DefD := ⟨("open_lot", none), "open_lot", "open_lot", defArgs (top 44), defBody (top 44), defScope (top 44), [], []⟩
abbrev ad_open_lot (K : Fg) : Addr := He.fAd K ("open_lot", none)
theorem b_open_lot : Bd d_open_lot ["tongue"] := ⟨rfl, fun _ _ _ _ _ _ us hl => match us, hl with | [_], _ => rfl⟩
def d_lot_after : He.DefD := ⟨("lot_after", none), "lot_after", "lot_after", defArgs (top 45), defBody (top 45), defScope (top 45), [], []⟩
abbrev ad_lot_after (K : Fg) : Addr := He.fAd K ("lot_after", none)
theorem b_lot_after : Bd d_lot_after ["tongue", "atom", "deed"] := ⟨rfl, fun _ _ _ _ _ _ us hl => match us, hl with | [_, _, _], _ => rfl⟩
def d_open_table : He.DefD := ⟨("open_table", none), "open_table", "open_table", defArgs (top 46), defBody (top 46), defScope (top 46), [], []⟩
abbrev ad_open_table (K : Fg) : Addr := He.fAd K ("open_table", none)
theorem b_open_table : Bd d_open_table ["tongue"] := ⟨rfl, fun _ _ _ _ _ _ us hl => match us, hl with | [_], _ => rfl⟩
def d_is_kept : He.DefD := ⟨("is_kept", none), "is_kept", "is_kept", defArgs (top 47), defBody (top 47), defScope (top 47), [], []⟩
abbrev ad_is_kept (K : Fg) : Addr := He.fAd K ("is_kept", none)
theorem b_is_kept : Bd d_is_kept ["tongue", "fact"] := ⟨rfl, fun _ _ _ _ _ _ us hl => match us, hl with | [_, _], _ => rfl⟩
def d_open_atoms : He.DefD := ⟨("open_atoms", none), "open_atoms", "open_atoms", defArgs (top 48), defBody (top 48), defScope (top 48), [], []⟩
abbrev ad_open_atoms (K : Fg) : Addr := He.fAd K ("open_atoms", none)
theorem b_open_atoms : Bd d_open_atoms ["tongue"] := ⟨rfl, fun _ _ _ _ _ _ us hl => match us, hl with | [_], _ => rfl⟩
def d_open_after : He.DefD := ⟨("open_after", none), "open_after", "open_after", defArgs (top 49), defBody (top 49), defScope (top 49), [], []⟩
abbrev ad_open_after (K : Fg) : Addr := He.fAd K ("open_after", none)
theorem b_open_after : Bd d_open_after ["tongue", "atom", "deed"] := ⟨rfl, fun _ _ _ _ _ _ us hl => match us, hl with | [_, _, _], _ => rfl⟩
def d_barring : He.DefD := ⟨("barring", none), "barring", "barring", defArgs (top 50), defBody (top 50), defScope (top 50), [], []⟩
abbrev ad_barring (K : Fg) : Addr := He.fAd K ("barring", none)
theorem b_barring : Bd d_barring ["tongue", "atom", "deed", "other"] := ⟨rfl, fun _ _ _ _ _ _ us hl => match us, hl with | [_, _, _, _], _ => rfl⟩
def d_follows : He.DefD := ⟨("follows", none), "follows", "follows", defArgs (top 51), defBody (top 51), defScope (top 51), [], []⟩
abbrev ad_follows (K : Fg) : Addr := He.fAd K ("follows", none)
theorem b_follows : Bd d_follows ["tongue", "fact"] := ⟨rfl, fun _ _ _ _ _ _ us hl => match us, hl with | [_, _], _ => rfl⟩
def d_needless : He.DefD := ⟨("needless", none), "needless", "needless", defArgs (top 52), defBody (top 52), defScope (top 52), [], []⟩
abbrev ad_needless (K : Fg) : Addr := He.fAd K ("needless", none)
theorem b_needless : Bd d_needless ["tongue"] := ⟨rfl, fun _ _ _ _ _ _ us hl => match us, hl with | [_], _ => rfl⟩
def d_same_facts : He.DefD := ⟨("same_facts", none), "same_facts", "same_facts", defArgs (top 53), defBody (top 53), defScope (top 53), [], []⟩
abbrev ad_same_facts (K : Fg) : Addr := He.fAd K ("same_facts", none)
theorem b_same_facts : Bd d_same_facts ["one", "other"] := ⟨rfl, fun _ _ _ _ _ _ us hl => match us, hl with | [_, _], _ => rfl⟩
def d__law_begun : He.DefD := ⟨("_law_begun", none), "_law_begun", "_law_begun", defArgs (top 55), defBody (top 55), defScope (top 55), [], []⟩
abbrev ad__law_begun (K : Fg) : Addr := He.fAd K ("_law_begun", none)
theorem b__law_begun : Bd d__law_begun ["script"] := ⟨rfl, fun _ _ _ _ _ _ us hl => match us, hl with | [_], _ => rfl⟩
def d__law_mixed : He.DefD := ⟨("_law_mixed", none), "_law_mixed", "_law_mixed", defArgs (top 56), defBody (top 56), defScope (top 56), [], []⟩
abbrev ad__law_mixed (K : Fg) : Addr := He.fAd K ("_law_mixed", none)
theorem b__law_mixed : Bd d__law_mixed ["draw"] := ⟨rfl, fun _ _ _ _ _ _ us hl => match us, hl with | [_], _ => rfl⟩
def d__law_take : He.DefD := ⟨("_law_take", none), "_law_take", "_law_take", defArgs (top 57), defBody (top 57), defScope (top 57), [], []⟩
abbrev ad__law_take (K : Fg) : Addr := He.fAd K ("_law_take", none)
theorem b__law_take : Bd d__law_take ["draw", "amount"] := ⟨rfl, fun _ _ _ _ _ _ us hl => match us, hl with | [_, _], _ => rfl⟩
def d__law_pick : He.DefD := ⟨("_law_pick", none), "_law_pick", "_law_pick", defArgs (top 58), defBody (top 58), defScope (top 58), [], []⟩
abbrev ad__law_pick (K : Fg) : Addr := He.fAd K ("_law_pick", none)
theorem b__law_pick : Bd d__law_pick ["draw", "some"] := ⟨rfl, fun _ _ _ _ _ _ us hl => match us, hl with | [_, _], _ => rfl⟩
def d__law_shuffled : He.DefD := ⟨("_law_shuffled", none), "_law_shuffled", "_law_shuffled", defArgs (top 59), defBody (top 59), defScope (top 59), [], []⟩
abbrev ad__law_shuffled (K : Fg) : Addr := He.fAd K ("_law_shuffled", none)
theorem b__law_shuffled : Bd d__law_shuffled ["draw", "some"] := ⟨rfl, fun _ _ _ _ _ _ us hl => match us, hl with | [_, _], _ => rfl⟩
def d__law_caught : He.DefD := ⟨("_law_caught", none), "_law_caught", "_law_caught", defArgs (top 60), defBody (top 60), defScope (top 60), [], []⟩
abbrev ad__law_caught (K : Fg) : Addr := He.fAd K ("_law_caught", none)
theorem b__law_caught : Bd d__law_caught ["work"] := ⟨rfl, fun _ _ _ _ _ _ us hl => match us, hl with | [_], _ => rfl⟩
def d__law_kinds : He.DefD := ⟨("_law_kinds", none), "_law_kinds", "_law_kinds", defArgs (top 61), defBody (top 61), defScope (top 61), [], []⟩
abbrev ad__law_kinds (K : Fg) : Addr := He.fAd K ("_law_kinds", none)
theorem b__law_kinds : Bd d__law_kinds ["thing"] := ⟨rfl, fun _ _ _ _ _ _ us hl => match us, hl with | [_], _ => rfl⟩
def d__law_says : He.DefD := ⟨("_law_says", none), "_law_says", "_law_says", defArgs (top 62), defBody (top 62), defScope (top 62), [], []⟩
abbrev ad__law_says (K : Fg) : Addr := He.fAd K ("_law_says", none)
theorem b__law_says : Bd d__law_says ["told", "due"] := ⟨rfl, fun _ _ _ _ _ _ us hl => match us, hl with | [_, _], _ => rfl⟩
def d__law_holds : He.DefD := ⟨("_law_holds", none), "_law_holds", "_law_holds", defArgs (top 63), defBody (top 63), defScope (top 63), [], []⟩
abbrev ad__law_holds (K : Fg) : Addr := He.fAd K ("_law_holds", none)
theorem b__law_holds : Bd d__law_holds ["tests", "test", "atom"] := ⟨rfl, fun _ _ _ _ _ _ us hl => match us, hl with | [_, _, _], _ => rfl⟩
def d__law_atoms : He.DefD := ⟨("_law_atoms", none), "_law_atoms", "_law_atoms", defArgs (top 64), defBody (top 64), defScope (top 64), [], []⟩
abbrev ad__law_atoms (K : Fg) : Addr := He.fAd K ("_law_atoms", none)
theorem b__law_atoms : Bd d__law_atoms ["told"] := ⟨rfl, fun _ _ _ _ _ _ us hl => match us, hl with | [_], _ => rfl⟩
def d__law_bars : He.DefD := ⟨("_law_bars", none), "_law_bars", "_law_bars", defArgs (top 65), defBody (top 65), defScope (top 65), [], []⟩
abbrev ad__law_bars (K : Fg) : Addr := He.fAd K ("_law_bars", none)
theorem b__law_bars : Bd d__law_bars ["told", "fact", "atom", "deed", "other"] := ⟨rfl, fun _ _ _ _ _ _ us hl => match us, hl with | [_, _, _, _, _], _ => rfl⟩
def d__law_open : He.DefD := ⟨("_law_open", none), "_law_open", "_law_open", defArgs (top 66), defBody (top 66), defScope (top 66), [], []⟩
abbrev ad__law_open (K : Fg) : Addr := He.fAd K ("_law_open", none)
theorem b__law_open : Bd d__law_open ["told"] := ⟨rfl, fun _ _ _ _ _ _ us hl => match us, hl with | [_], _ => rfl⟩
def d__law_test : He.DefD := ⟨("_law_test", none), "_law_test", "_law_test", defArgs (top 67), defBody (top 67), defScope (top 67), [], []⟩
abbrev ad__law_test (K : Fg) : Addr := He.fAd K ("_law_test", none)
theorem b__law_test : Bd d__law_test ["draw", "tests", "deep"] := ⟨rfl, fun _ _ _ _ _ _ us hl => match us, hl with | [_, _, _], _ => rfl⟩
def d__law_words : He.DefD := ⟨("_law_words", none), "_law_words", "_law_words", defArgs (top 68), defBody (top 68), defScope (top 68), [], []⟩
abbrev ad__law_words (K : Fg) : Addr := He.fAd K ("_law_words", none)
theorem b__law_words : Bd d__law_words ["draw", "many"] := ⟨rfl, fun _ _ _ _ _ _ us hl => match us, hl with | [_, _], _ => rfl⟩
def d__law_fact : He.DefD := ⟨("_law_fact", none), "_law_fact", "_law_fact", defArgs (top 69), defBody (top 69), defScope (top 69), [], []⟩
abbrev ad__law_fact (K : Fg) : Addr := He.fAd K ("_law_fact", none)
theorem b__law_fact : Bd d__law_fact ["draw", "tests", "deeds"] := ⟨rfl, fun _ _ _ _ _ _ us hl => match us, hl with | [_, _, _], _ => rfl⟩
def d__law_told : He.DefD := ⟨("_law_told", none), "_law_told", "_law_told", defArgs (top 70), defBody (top 70), defScope (top 70), [], []⟩
abbrev ad__law_told (K : Fg) : Addr := He.fAd K ("_law_told", none)
theorem b__law_told : Bd d__law_told ["draw", "most"] := ⟨rfl, fun _ _ _ _ _ _ us hl => match us, hl with | [_, _], _ => rfl⟩
def d__law_worlds : He.DefD := ⟨("_law_worlds", none), "_law_worlds", "_law_worlds", defArgs (top 71), defBody (top 71), defScope (top 71), [], []⟩
abbrev ad__law_worlds (K : Fg) : Addr := He.fAd K ("_law_worlds", none)
theorem b__law_worlds : Bd d__law_worlds ["told"] := ⟨rfl, fun _ _ _ _ _ _ us hl => match us, hl with | [_], _ => rfl⟩
def d__law_keeps : He.DefD := ⟨("_law_keeps", none), "_law_keeps", "_law_keeps", defArgs (top 72), defBody (top 72), defScope (top 72), [], []⟩
abbrev ad__law_keeps (K : Fg) : Addr := He.fAd K ("_law_keeps", none)
theorem b__law_keeps : Bd d__law_keeps ["told", "fact", "world"] := ⟨rfl, fun _ _ _ _ _ _ us hl => match us, hl with | [_, _, _], _ => rfl⟩
def d__law_kept : He.DefD := ⟨("_law_kept", none), "_law_kept", "_law_kept", defArgs (top 73), defBody (top 73), defScope (top 73), [], []⟩
abbrev ad__law_kept (K : Fg) : Addr := He.fAd K ("_law_kept", none)
theorem b__law_kept : Bd d__law_kept ["told", "facts"] := ⟨rfl, fun _ _ _ _ _ _ us hl => match us, hl with | [_, _], _ => rfl⟩
def d__law_right : He.DefD := ⟨("_law_right", none), "_law_right", "_law_right", defArgs (top 74), defBody (top 74), defScope (top 74), [], []⟩
abbrev ad__law_right (K : Fg) : Addr := He.fAd K ("_law_right", none)
theorem b__law_right : Bd d__law_right ["draw"] := ⟨rfl, fun _ _ _ _ _ _ us hl => match us, hl with | [_], _ => rfl⟩
def d_law : He.DefD := ⟨("law", none), "law", "law", defArgs (top 75), defBody (top 75), defScope (top 75), [], []⟩
abbrev ad_law (K : Fg) : Addr := He.fAd K ("law", none)
theorem b_law : Bd d_law ["script"] := ⟨rfl, fun _ _ _ _ _ _ us hl => match us, hl with | [_], _ => rfl⟩
abbrev N_inner_tests : List Str := ["thing"]
abbrev P_inner_tests : List Str := ["thing"]
abbrev N_is_test_of : List Str := ["words", "thing", "line", "many", "here", "level", "inner", "one"]
abbrev P_is_test_of : List Str := ["words", "thing"]
abbrev N_holds_by : List Str := ["words", "test", "atom", "one", "other"]
abbrev P_holds_by : List Str := ["words", "test", "atom"]
abbrev N_is_number : List Str := ["thing"]
abbrev P_is_number : List Str := ["thing"]
abbrev N_is_between : List Str := ["thing", "low", "high"]
abbrev P_is_between : List Str := ["thing", "low", "high"]
abbrev N_is_list : List Str := ["thing"]
abbrev P_is_list : List Str := ["thing"]
abbrev N_is_plain_word : List Str := ["thing", "sign"]
abbrev P_is_plain_word : List Str := ["thing"]
abbrev N_are_unlike_words : List Str := ["thing", "low", "high", "word"]
abbrev P_are_unlike_words : List Str := ["thing", "low", "high"]
abbrev N_is_fact_of : List Str := ["tests", "deeds", "thing"]
abbrev P_is_fact_of : List Str := ["tests", "deeds", "thing"]
abbrev N_Tongue___init__ : List Str := ["self", "tests", "deeds", "facts", "at", "fact", "word"]
abbrev P_Tongue___init__ : List Str := ["self", "tests", "deeds", "facts"]
abbrev N_Tongue_tests : List Str := ["self"]
abbrev P_Tongue_tests : List Str := ["self"]
abbrev N_Tongue_deeds : List Str := ["self"]
abbrev P_Tongue_deeds : List Str := ["self"]
abbrev N_Tongue_facts : List Str := ["self"]
abbrev P_Tongue_facts : List Str := ["self"]
abbrev N_Tongue___eq__ : List Str := ["self", "other"]
abbrev P_Tongue___eq__ : List Str := ["self", "other"]
abbrev N_need_tongue : List Str := ["tongue"]
abbrev P_need_tongue : List Str := ["tongue"]
abbrev N_many_atoms : List Str := ["tongue"]
abbrev P_many_atoms : List Str := ["tongue"]
abbrev N_is_atom : List Str := ["tongue", "thing"]
abbrev P_is_atom : List Str := ["tongue", "thing"]
abbrev N_need_atom : List Str := ["tongue", "atom"]
abbrev P_need_atom : List Str := ["tongue", "atom"]
abbrev N_is_deed : List Str := ["tongue", "thing"]
abbrev P_is_deed : List Str := ["tongue", "thing"]
abbrev N_need_deed : List Str := ["tongue", "deed"]
abbrev P_need_deed : List Str := ["tongue", "deed"]
abbrev N_bars_atom : List Str := ["tongue", "fact", "atom"]
abbrev P_bars_atom : List Str := ["tongue", "fact", "atom"]
abbrev N_bars_step : List Str := ["tongue", "fact", "atom", "deed", "other", "ahead", "behind"]
abbrev P_bars_step : List Str := ["tongue", "fact", "atom", "deed", "other"]
abbrev N_is_open : List Str := ["tongue", "atom", "fact"]
abbrev P_is_open : List Str := ["tongue", "atom"]
abbrev N_bar_of : List Str := ["tongue", "atom", "deed", "other", "at", "fact"]
abbrev P_bar_of : List Str := ["tongue", "atom", "deed", "other"]
abbrev N_open_lot : List Str := ["tongue", "atom"]
abbrev P_open_lot : List Str := ["tongue"]
abbrev N_lot_after : List Str := ["tongue", "atom", "deed", "other"]
abbrev P_lot_after : List Str := ["tongue", "atom", "deed"]
abbrev N_open_table : List Str := ["tongue", "atom", "deed"]
abbrev P_open_table : List Str := ["tongue"]
abbrev N_is_kept : List Str := ["tongue", "fact", "atom", "other"]
abbrev P_is_kept : List Str := ["tongue", "fact"]
abbrev N_open_atoms : List Str := ["tongue"]
abbrev P_open_atoms : List Str := ["tongue"]
abbrev N_open_after : List Str := ["tongue", "atom", "deed"]
abbrev P_open_after : List Str := ["tongue", "atom", "deed"]
abbrev N_barring : List Str := ["tongue", "atom", "deed", "other"]
abbrev P_barring : List Str := ["tongue", "atom", "deed", "other"]
abbrev N_follows : List Str := ["tongue", "fact"]
abbrev P_follows : List Str := ["tongue", "fact"]
abbrev N_needless : List Str := ["tongue", "found", "at", "fact", "rest"]
abbrev P_needless : List Str := ["tongue"]
abbrev N_same_facts : List Str := ["one", "other"]
abbrev P_same_facts : List Str := ["one", "other"]
abbrev N__law_begun : List Str := ["script", "large", "cell"]
abbrev P__law_begun : List Str := ["script"]
abbrev N__law_mixed : List Str := ["draw", "great", "turn", "found", "blend", "cell"]
abbrev P__law_mixed : List Str := ["draw"]
abbrev N__law_take : List Str := ["draw", "amount", "found"]
abbrev P__law_take : List Str := ["draw", "amount"]
abbrev N__law_pick : List Str := ["draw", "some"]
abbrev P__law_pick : List Str := ["draw", "some"]
abbrev N__law_shuffled : List Str := ["draw", "some", "left", "found"]
abbrev P__law_shuffled : List Str := ["draw", "some"]
abbrev N__law_caught : List Str := ["work", "caught", "error"]
abbrev P__law_caught : List Str := ["work"]
abbrev N__law_kinds : List Str := ["thing", "found", "line", "here", "kind", "named", "key", "name"]
abbrev P__law_kinds : List Str := ["thing"]
abbrev N__law_says : List Str := ["told", "due"]
abbrev P__law_says : List Str := ["told", "due"]
abbrev N__law_holds : List Str := ["tests", "test", "atom", "word", "some", "one"]
abbrev P__law_holds : List Str := ["tests", "test", "atom"]
abbrev N__law_atoms : List Str := ["told"]
abbrev P__law_atoms : List Str := ["told"]
abbrev N__law_bars : List Str := ["told", "fact", "atom", "deed", "other", "tests", "ahead", "behind"]
abbrev P__law_bars : List Str := ["told", "fact", "atom", "deed", "other"]
abbrev N__law_open : List Str := ["told", "atom", "fact"]
abbrev P__law_open : List Str := ["told"]
abbrev N__law_test : List Str := ["draw", "tests", "deep", "way", "word"]
abbrev P__law_test : List Str := ["draw", "tests", "deep"]
abbrev N__law_words : List Str := ["draw", "many"]
abbrev P__law_words : List Str := ["draw", "many"]
abbrev N__law_fact : List Str := ["draw", "tests", "deeds", "test", "word"]
abbrev P__law_fact : List Str := ["draw", "tests", "deeds"]
abbrev N__law_told : List Str := ["draw", "most", "words", "facts", "told", "few", "more", "tests", "deeds", "lap", "fact"]
abbrev P__law_told : List Str := ["draw", "most"]
abbrev N__law_worlds : List Str := ["told", "found", "atom", "deed", "other"]
abbrev P__law_worlds : List Str := ["told"]
abbrev N__law_keeps : List Str := ["told", "fact", "world", "atom", "deed", "other"]
abbrev P__law_keeps : List Str := ["told", "fact", "world"]
abbrev N__law_kept : List Str := ["told", "facts", "world", "fact"]
abbrev P__law_kept : List Str := ["told", "facts"]
abbrev N__law_right : List Str := ["draw", "told", "due", "lap", "spare", "facts", "tongue", "kept", "broken", "first", "fact", "at", "other", "atom", "deed", "one", "world"]
abbrev P__law_right : List Str := ["draw"]
abbrev N_law : List Str := ["script", "draw", "lap", "lamp", "error"]
abbrev P_law : List Str := ["script"]
/-- what the top has -/
structure Top (K : Fg) (mg : Str → Option Value) : Prop where
  g_inner_tests : mg "inner_tests" = some (.ref (ad_inner_tests K))
  g_is_test_of : mg "is_test_of" = some (.ref (ad_is_test_of K))
  g_holds_by : mg "holds_by" = some (.ref (ad_holds_by K))
  g_is_number : mg "is_number" = some (.ref (ad_is_number K))
  g_is_between : mg "is_between" = some (.ref (ad_is_between K))
  g_is_list : mg "is_list" = some (.ref (ad_is_list K))
  g_is_plain_word : mg "is_plain_word" = some (.ref (ad_is_plain_word K))
  g_are_unlike_words : mg "are_unlike_words" = some (.ref (ad_are_unlike_words K))
  g_is_fact_of : mg "is_fact_of" = some (.ref (ad_is_fact_of K))
  g_need_tongue : mg "need_tongue" = some (.ref (ad_need_tongue K))
  g_many_atoms : mg "many_atoms" = some (.ref (ad_many_atoms K))
  g_is_atom : mg "is_atom" = some (.ref (ad_is_atom K))
  g_need_atom : mg "need_atom" = some (.ref (ad_need_atom K))
  g_is_deed : mg "is_deed" = some (.ref (ad_is_deed K))
  g_need_deed : mg "need_deed" = some (.ref (ad_need_deed K))
  g_bars_atom : mg "bars_atom" = some (.ref (ad_bars_atom K))
  g_bars_step : mg "bars_step" = some (.ref (ad_bars_step K))
  g_is_open : mg "is_open" = some (.ref (ad_is_open K))
  g_bar_of : mg "bar_of" = some (.ref (ad_bar_of K))
  g_open_lot : mg "open_lot" = some (.ref (ad_open_lot K))
  g_lot_after : mg "lot_after" = some (.ref (ad_lot_after K))
  g_open_table : mg "open_table" = some (.ref (ad_open_table K))
  g_is_kept : mg "is_kept" = some (.ref (ad_is_kept K))
  g_open_atoms : mg "open_atoms" = some (.ref (ad_open_atoms K))
  g_open_after : mg "open_after" = some (.ref (ad_open_after K))
  g_barring : mg "barring" = some (.ref (ad_barring K))
  g_follows : mg "follows" = some (.ref (ad_follows K))
  g_needless : mg "needless" = some (.ref (ad_needless K))
  g_same_facts : mg "same_facts" = some (.ref (ad_same_facts K))
  g__law_begun : mg "_law_begun" = some (.ref (ad__law_begun K))
  g__law_mixed : mg "_law_mixed" = some (.ref (ad__law_mixed K))
  g__law_take : mg "_law_take" = some (.ref (ad__law_take K))
  g__law_pick : mg "_law_pick" = some (.ref (ad__law_pick K))
  g__law_shuffled : mg "_law_shuffled" = some (.ref (ad__law_shuffled K))
  g__law_caught : mg "_law_caught" = some (.ref (ad__law_caught K))
  g__law_kinds : mg "_law_kinds" = some (.ref (ad__law_kinds K))
  g__law_says : mg "_law_says" = some (.ref (ad__law_says K))
  g__law_holds : mg "_law_holds" = some (.ref (ad__law_holds K))
  g__law_atoms : mg "_law_atoms" = some (.ref (ad__law_atoms K))
  g__law_bars : mg "_law_bars" = some (.ref (ad__law_bars K))
  g__law_open : mg "_law_open" = some (.ref (ad__law_open K))
  g__law_test : mg "_law_test" = some (.ref (ad__law_test K))
  g__law_words : mg "_law_words" = some (.ref (ad__law_words K))
  g__law_fact : mg "_law_fact" = some (.ref (ad__law_fact K))
  g__law_told : mg "_law_told" = some (.ref (ad__law_told K))
  g__law_worlds : mg "_law_worlds" = some (.ref (ad__law_worlds K))
  g__law_keeps : mg "_law_keeps" = some (.ref (ad__law_keeps K))
  g__law_kept : mg "_law_kept" = some (.ref (ad__law_kept K))
  g__law_right : mg "_law_right" = some (.ref (ad__law_right K))
  g_law : mg "law" = some (.ref (ad_law K))
  b_len : mg "len" = none
  b_isinstance : mg "isinstance" = none
  b_range : mg "range" = none
  b_enumerate : mg "enumerate" = none
  b_list : mg "list" = none
  b_tuple : mg "tuple" = none
  b_int : mg "int" = none
  b_abs : mg "abs" = none
  b_str : mg "str" = none
  b_all : mg "all" = none
  b_any : mg "any" = none
  b_set : mg "set" = none
  b_min : mg "min" = none
  b_dict : mg "dict" = none
  b_bool : mg "bool" = none
  b_repr : mg "repr" = none
  b_sorted : mg "sorted" = none
  b_zip : mg "zip" = none
  g_MOST_TESTS : ∃ u, mg "MOST_TESTS" = some u ∧ RelV (.int 60) u
  g_MOST_TEST_LEVELS : ∃ u, mg "MOST_TEST_LEVELS" = some u ∧ RelV (.int 20) u
  g_LETTERS : ∃ u, mg "LETTERS" = some u ∧ RelV (.str "abcdefghijklmnopqrstuvwxyz") u
  g_MOST_LETTERS : ∃ u, mg "MOST_LETTERS" = some u ∧ RelV (.int 8) u
  g_MOST_TESTED : ∃ u, mg "MOST_TESTED" = some u ∧ RelV (.int 3) u
  g_MOST_DEEDS : ∃ u, mg "MOST_DEEDS" = some u ∧ RelV (.int 4) u
  g_MOST_FACTS : ∃ u, mg "MOST_FACTS" = some u ∧ RelV (.int 8) u
  g_KEPT_WORDS : mg "KEPT_WORDS" = some (.ref (He.ga K "KEPT_WORDS"))
  q_KEPT_WORDS : ∀ H : Hp, SqT K H (He.ga K "KEPT_WORDS") [.str "yes", .str "no", .str "not", .str "and", .str "or"]
  q_dfl : ∀ H : Hp, SqT K H (He.dflAt ("Tongue", some "__init__") 0 K) []
  g_Tongue : mg "Tongue" = some (.ref (He.ga K "Tongue"))
  cls_Tongue : Cls K (He.ga K "Tongue")
  mk_Tongue : Mk K (He.ga K "Tongue") (ad_Tongue___init__ K)
  kf_Tongue : KindF K (He.ga K "Tongue")
  p_Tongue_tests : ∃ p, PropOf K (He.ga K "Tongue") "tests" p (ad_Tongue_tests K)
  p_Tongue_deeds : ∃ p, PropOf K (He.ga K "Tongue") "deeds" p (ad_Tongue_deeds K)
  p_Tongue_facts : ∃ p, PropOf K (He.ga K "Tongue") "facts" p (ad_Tongue_facts K)
  no_Tongue_t_tests : NoAttr K (He.ga K "Tongue") "t_tests"
  no_Tongue_t_deeds : NoAttr K (He.ga K "Tongue") "t_deeds"
  no_Tongue_t_facts : NoAttr K (He.ga K "Tongue") "t_facts"
theorem bm0_Tongue {K : Fg} {mg : Str → Option Value} (T : Top K mg) (fd : FuncData) (F : FunD K d_Tongue___init__.name d_Tongue___init__.qual d_Tongue___init__.params d_Tongue___init__.body d_Tongue___init__.scope (d_Tongue___init__.dvs K) (d_Tongue___init__.kws K) (ad_Tongue___init__ K) fd) :
    ∃ ds, Vals [] ds ∧ Binds K fd ["self", "tests", "deeds", "facts"] ds := F.binds1 4 1 (fun e => nomatch e) rfl fun T kV doc pm an cdv ct us its h1 h2 => by
  match us, h1, its, h2 with
  | [_, _, _, _], _, [_], _ => exact ⟨_, rfl, rfl⟩
theorem bm1_Tongue {K : Fg} {mg : Str → Option Value} (T : Top K mg) (fd : FuncData) (F : FunD K d_Tongue___init__.name d_Tongue___init__.qual d_Tongue___init__.params d_Tongue___init__.body d_Tongue___init__.scope (d_Tongue___init__.dvs K) (d_Tongue___init__.kws K) (ad_Tongue___init__ K) fd) :
    ∃ ds, Vals [V.ref (He.dflAt ("Tongue", some "__init__") 0 K)] ds ∧ Binds K fd ["self", "tests", "deeds", "facts"] ds := F.binds1 3 0 (fun e => nomatch e) rfl fun T kV doc pm an cdv ct us its h1 h2 => by
  match us, h1, its, h2 with
  | [_, _, _], _, [_], _ => exact ⟨_, rfl, rfl⟩
theorem dd_Tongue {K : Fg} {mg : Str → Option Value} (T : Top K mg) (F : Hp) : RepL K F [.tup []] [V.ref (He.dflAt ("Tongue", some "__init__") 0 K)] := ⟨_, _, rfl, ⟨_, [], rfl, T.q_dfl F, rfl⟩, rfl⟩
theorem k_open_atoms_tongue : Kd d_open_atoms ["tongue"] ["tongue"] [0] := ⟨rfl, fun _ _ _ _ _ _ ws hl => match ws, hl with | [_], _ => rfl⟩
theorem k_open_after_deed_atom_tongue : Kd d_open_after ["tongue", "atom", "deed"] ["deed", "atom", "tongue"] [2, 1, 0] := ⟨rfl, fun _ _ _ _ _ _ ws hl => match ws, hl with | [_, _, _], _ => rfl⟩
theorem k_barring_other_deed_atom_tongue : Kd d_barring ["tongue", "atom", "deed", "other"] ["other", "deed", "atom", "tongue"] [3, 2, 1, 0] := ⟨rfl, fun _ _ _ _ _ _ ws hl => match ws, hl with | [_, _, _, _], _ => rfl⟩
theorem k_follows_fact_tongue : Kd d_follows ["tongue", "fact"] ["fact", "tongue"] [1, 0] := ⟨rfl, fun _ _ _ _ _ _ ws hl => match ws, hl with | [_, _], _ => rfl⟩
theorem k_needless_tongue : Kd d_needless ["tongue"] ["tongue"] [0] := ⟨rfl, fun _ _ _ _ _ _ ws hl => match ws, hl with | [_], _ => rfl⟩
theorem k_same_facts_other_one : Kd d_same_facts ["one", "other"] ["other", "one"] [1, 0] := ⟨rfl, fun _ _ _ _ _ _ ws hl => match ws, hl with | [_, _], _ => rfl⟩
end K01
namespace K01
open PySem PySem.Spec PyProof.Rows L2 Ww
def t_inner_tests (K : Fg) : TS := (tSeq (tIfS (tOr (tNot (tB (tCB (rIsiU K) (tCons (tVar 0) (tCons (tC (.ty "tuple")) tNil))))) (tOr (tTest (tOp (rEqD K) (tVar 0) (tTup tNil))) (tNot (tB (tCB (rIsiU K) (tCons (tOp (fun x y H Q => rIxU K x y H Q ∨ rIxD x y H Q) (tVar 0) (tC (.int 0))) (tCons (tC (.ty "str")) tNil))))))) (tRet (tC .non)) tNext)
  (tSeq (tIfS (tTest (tOp (rInU K false) (tOp (fun x y H Q => rIxU K x y H Q ∨ rIxD x y H Q) (tVar 0) (tC (.int 0))) (tTup (tCons (tC (.str "yes")) (tCons (tC (.str "no")) tNil))))) (tRet (tIf (tTest (tOp (rEqD K) (tCB (rLenU K) (tCons (tVar 0) tNil)) (tC (.int 1)))) (tLst tNil) (tC .non))) tNext)
  (tSeq (tIfS (tTest (tOp (rEqD K) (tOp (fun x y H Q => rIxU K x y H Q ∨ rIxD x y H Q) (tVar 0) (tC (.int 0))) (tC (.str "is")))) (tRet (tIf (tAnd (tTest (tOp (rEqD K) (tCB (rLenU K) (tCons (tVar 0) tNil)) (tC (.int 2)))) (tB (tCB (rIsiU K) (tCons (tOp (fun x y H Q => rIxU K x y H Q ∨ rIxD x y H Q) (tVar 0) (tC (.int 1))) (tCons (tC (.ty "str")) tNil))))) (tLst tNil) (tC .non))) tNext)
  (tSeq (tIfS (tTest (tOp (rEqD K) (tOp (fun x y H Q => rIxU K x y H Q ∨ rIxD x y H Q) (tVar 0) (tC (.int 0))) (tC (.str "not")))) (tRet (tIf (tTest (tOp (rEqD K) (tCB (rLenU K) (tCons (tVar 0) tNil)) (tC (.int 2)))) (tLst (tCons (tOp (fun x y H Q => rIxU K x y H Q ∨ rIxD x y H Q) (tVar 0) (tC (.int 1))) tNil)) (tC .non))) tNext)
  (tRet (tIf (tAnd (tTest (tOp (rInU K false) (tOp (fun x y H Q => rIxU K x y H Q ∨ rIxD x y H Q) (tVar 0) (tC (.int 0))) (tTup (tCons (tC (.str "and")) (tCons (tC (.str "or")) tNil))))) (tTest (tOp (rEqD K) (tCB (rLenU K) (tCons (tVar 0) tNil)) (tC (.int 3))))) (tLst (tCons (tOp (fun x y H Q => rIxU K x y H Q ∨ rIxD x y H Q) (tVar 0) (tC (.int 1))) (tCons (tOp (fun x y H Q => rIxU K x y H Q ∨ rIxD x y H Q) (tVar 0) (tC (.int 2))) tNil))) (tC .non)))))))
def a_inner_tests (K : Fg) : AS := (aSeq (aIfS (aOr (aNot (aT (aCB (on2 (fIsi K)) (aCons (aVar 0) (aCons (aC (.ty "tuple")) aNil))))) (aOr (aT (aOp (rd2 (fEq false)) (aVar 0) (aTup aNil))) (aNot (aT (aCB (on2 (fIsi K)) (aCons (aOp gIx (aVar 0) (aC (.int 0))) (aCons (aC (.ty "str")) aNil))))))) (aRet (aC .non)) aNext)
  (aSeq (aIfS (aT (aOp (rd2 (fIn false)) (aOp gIx (aVar 0) (aC (.int 0))) (aTup (aCons (aC (.str "yes")) (aCons (aC (.str "no")) aNil))))) (aRet (aIfE (aT (aOp (rd2 (fEq false)) (aCB (on1 fLen) (aCons (aVar 0) aNil)) (aC (.int 1)))) (aLst aNil) (aC .non))) aNext)
  (aSeq (aIfS (aT (aOp (rd2 (fEq false)) (aOp gIx (aVar 0) (aC (.int 0))) (aC (.str "is")))) (aRet (aIfE (aAnd (aT (aOp (rd2 (fEq false)) (aCB (on1 fLen) (aCons (aVar 0) aNil)) (aC (.int 2)))) (aT (aCB (on2 (fIsi K)) (aCons (aOp gIx (aVar 0) (aC (.int 1))) (aCons (aC (.ty "str")) aNil))))) (aLst aNil) (aC .non))) aNext)
  (aSeq (aIfS (aT (aOp (rd2 (fEq false)) (aOp gIx (aVar 0) (aC (.int 0))) (aC (.str "not")))) (aRet (aIfE (aT (aOp (rd2 (fEq false)) (aCB (on1 fLen) (aCons (aVar 0) aNil)) (aC (.int 2)))) (aLst (aCons (aOp gIx (aVar 0) (aC (.int 1))) aNil)) (aC .non))) aNext)
  (aRet (aIfE (aAnd (aT (aOp (rd2 (fIn false)) (aOp gIx (aVar 0) (aC (.int 0))) (aTup (aCons (aC (.str "and")) (aCons (aC (.str "or")) aNil))))) (aT (aOp (rd2 (fEq false)) (aCB (on1 fLen) (aCons (aVar 0) aNil)) (aC (.int 3))))) (aLst (aCons (aOp gIx (aVar 0) (aC (.int 1))) (aCons (aOp gIx (aVar 0) (aC (.int 2))) aNil))) (aC .non)))))))
theorem sc_inner_tests : FnScope N_inner_tests P_inner_tests (defScope (top 15)) := ⟨rfl, rfl, rfl, by decide +kernel, rfl, by decide +kernel, by decide +kernel⟩
theorem jf_inner_tests {P : Program} {w : World} {K : Fg} {mg : Str → Option Value} {base : Heap} {f : Addr} {cdv : Value} {A : Around} {outer : List Env} {s : Shared} {H : Hp} {E : XK} {lv : Nat} (T : Top K mg) (hr : Room lv (A.deeper (envOfC "inner_tests" (defScope (top 15)) s.heap.objs.size f cdv))) :
    JSs (bX P w K mg base N_inner_tests "inner_tests" (defScope (top 15)) f cdv A outer s H E) (defBody (top 15)) (t_inner_tests K) (a_inner_tests K) := by
  have nd := sc_inner_tests.nd
  have hu1 := hu1_of hr
  have hu64 := hu64_of hr
  have hu65 := hu65_of hr
  exact (jss_cons (js_if (JW.jt (jw_or (jt_not (jt_val (j_callB c_isi rfl T.b_isinstance (by boot_by_name) (ja_cons (jv 0) (ja_cons (j_ty rfl T.b_tuple (by boot_by_name)) ja_nil))))) (jw_or (jt_cmp (c_eq hu64) (jv 0) (j_tup ja_nil)) (jw_or1 (jt_not (jt_val (j_callB c_isi rfl T.b_isinstance (by boot_by_name) (ja_cons (j_ix hu1 (jv 0) j_int) (ja_cons (j_ty rfl T.b_str (by boot_by_name)) ja_nil))))))))) (jss_one (js_ret j_non)) jss_nil)
  (jss_cons (js_if (jt_cmp (c_in hu65) (j_ix hu1 (jv 0) j_int) (j_tup (ja_cons j_str (ja_cons j_str ja_nil)))) (jss_one (js_ret (j_if (jt_cmp (c_eq hu64) (j_callB c_len rfl T.b_len (by boot_by_name) (ja_cons (jv 0) ja_nil)) j_int) (j_lst ja_nil) j_non))) jss_nil)
  (jss_cons (js_if (jt_cmp (c_eq hu64) (j_ix hu1 (jv 0) j_int) j_str) (jss_one (js_ret (j_if (JW.jt (jw_and (jt_cmp (c_eq hu64) (j_callB c_len rfl T.b_len (by boot_by_name) (ja_cons (jv 0) ja_nil)) j_int) (jw_and1 (jt_val (j_callB c_isi rfl T.b_isinstance (by boot_by_name) (ja_cons (j_ix hu1 (jv 0) j_int) (ja_cons (j_ty rfl T.b_str (by boot_by_name)) ja_nil))))))) (j_lst ja_nil) j_non))) jss_nil)
  (jss_cons (js_if (jt_cmp (c_eq hu64) (j_ix hu1 (jv 0) j_int) j_str) (jss_one (js_ret (j_if (jt_cmp (c_eq hu64) (j_callB c_len rfl T.b_len (by boot_by_name) (ja_cons (jv 0) ja_nil)) j_int) (j_lst (ja_cons (j_ix hu1 (jv 0) j_int) ja_nil)) j_non))) jss_nil)
  (jss_one (js_ret (j_if (JW.jt (jw_and (jt_cmp (c_in hu65) (j_ix hu1 (jv 0) j_int) (j_tup (ja_cons j_str (ja_cons j_str ja_nil)))) (jw_and1 (jt_cmp (c_eq hu64) (j_callB c_len rfl T.b_len (by boot_by_name) (ja_cons (jv 0) ja_nil)) j_int)))) (j_lst (ja_cons (j_ix hu1 (jv 0) j_int) (ja_cons (j_ix hu1 (jv 0) j_int) ja_nil))) j_non)))))))
def t_is_test_of (K : Fg) (S_inner_tests : ASp) : TS := (tSeq (tPar 2 3 (tCons (tLst (tCons (tTup (tCons (tVar 1) (tCons (tC (.int 1)) tNil))) tNil)) (tCons (tC (.int 0)) tNil)))
  (tSeq (tWhile (tTest (tOp (rNeD K) (tVar 2) (tLst tNil))) (tSeq (tAsg (tBM0 K "list" rPopU (tVar 2)) (gTup K 2 (gCons (gName 4) (gCons (gName 5) gNil))))
  (tSeq (tPar 6 3 (tCons (tCall (spOf K S_inner_tests) [] E0 (tCons (tVar 4) tNil)) (tCons (tOp (rAddU K) (tVar 3) (tC (.int 1))) tNil)))
  (tSeq (tIfS (tOr (tTest (tOp rIsN (tVar 6) (tC .non))) (tOr (tTest (tOp (rI0 fun i j => .bl (decide (j < i))) (tVar 3) (tC (.int 60)))) (tTest (tOp (rI0 fun i j => .bl (decide (j < i))) (tVar 5) (tC (.int 20)))))) (tRet (tC (.bl false))) tNext)
  (tSeq (tIfS (tAnd (tTest (tOp (rEqD K) (tOp (fun x y H Q => rIxU K x y H Q ∨ rIxD x y H Q) (tVar 4) (tC (.int 0))) (tC (.str "is")))) (tTest (tOp (rInU K true) (tOp (fun x y H Q => rIxU K x y H Q ∨ rIxD x y H Q) (tVar 4) (tC (.int 1))) (tVar 0)))) (tRet (tC (.bl false))) tNext)
  (tDrop (tBM K "list" rExtL (tVar 2) (tCons (tLc (iSeq K (tVar 6)) (gName 7) tYes (tTup (tCons (tVar 7) (tCons (tOp (rAddU K) (tVar 5) (tC (.int 1))) tNil))) [7]) tNil))))))))
  (tRet (tC (.bl true)))))
def a_is_test_of (K : Fg) (S_inner_tests : ASp) : AS := (aSeq (aPar 2 3 (aCons (aLstC (aCons (aTup (aCons (aVar 1) (aCons (aC (.int 1)) aNil))) aNil)) (aCons (aC (.int 0)) aNil)))
  (aSeq (aWhile (aT (aOp (rd2 (fEq true)) (aVar 2) (aLst aNil))) (aSeq (aAsg (aBM0 gPop (aVar 2)) (aGtup 2 (aGcons (aGn 4) (aGcons (aGn 5) aGnil))))
  (aSeq (aPar 6 3 (aCons (aCall S_inner_tests (aCons (aVar 4) aNil)) (aCons (aOp (rd2 fAdd) (aVar 3) (aC (.int 1))) aNil)))
  (aSeq (aIfS (aOr (aT (aOp (rd2 (fIs false)) (aVar 6) (aC .non))) (aOr (aT (aOp (aCI fun i j => decide (j < i)) (aVar 3) (aC (.int 60)))) (aT (aOp (aCI fun i j => decide (j < i)) (aVar 5) (aC (.int 20)))))) (aRet (aC (.bl false))) aNext)
  (aSeq (aIfS (aAnd (aT (aOp (rd2 (fEq false)) (aOp gIx (aVar 4) (aC (.int 0))) (aC (.str "is")))) (aT (aOp (rd2 (fIn true)) (aOp gIx (aVar 4) (aC (.int 1))) (aVar 0)))) (aRet (aC (.bl false))) aNext)
  (aDrop (aBM gExtend (aVar 2) (aCons (aFz (aLc (aSeqI (aVar 6)) (aGn 7) aYes (aTup (aCons (aVar 7) (aCons (aOp (rd2 fAdd) (aVar 5) (aC (.int 1))) aNil))) [7])) aNil))))))))
  (aRet (aC (.bl true)))))
theorem sc_is_test_of : FnScope N_is_test_of P_is_test_of (defScope (top 16)) := ⟨rfl, rfl, rfl, by decide +kernel, rfl, by decide +kernel, by decide +kernel⟩
theorem jf_is_test_of {P : Program} {w : World} {K : Fg} {mg : Str → Option Value} {base : Heap} {S_inner_tests : ASp} {f : Addr} {cdv : Value} {A : Around} {outer : List Env} {s : Shared} {H : Hp} {E : XK} {lv : Nat} (T : Top K mg) (hr : Room lv (A.deeper (envOfC "is_test_of" (defScope (top 16)) s.heap.objs.size f cdv))) {n_inner_tests : Nat} (c_inner_tests : Cal P w K mg base d_inner_tests (ad_inner_tests K) n_inner_tests P_inner_tests S_inner_tests) (h_inner_tests : n_inner_tests ≤ lv) :
    JSs (bX P w K mg base N_is_test_of "is_test_of" (defScope (top 16)) f cdv A outer s H E) (defBody (top 16)) (t_is_test_of K S_inner_tests) (a_is_test_of K S_inner_tests) := by
  have nd := sc_is_test_of.nd
  have hu1 := hu1_of hr
  have hu64 := hu64_of hr
  have hu65 := hu65_of hr
  exact (jss_cons (js_par 2 3 rfl nd (ja_cons (j_lstC (ja_cons (j_tup (ja_cons (jv 1) (ja_cons j_int ja_nil))) ja_nil)) (ja_cons j_int ja_nil)))
  (jss_cons (js_while PassesOwn.never (jt_cmp (c_ne hu64) (jv 2) (j_lst ja_nil)) (jss_cons (js_asg (j_pop0 (jv 2)) (jg_tup rfl (jgs_cons (jg_name 4 nd) (jgs_cons (jg_name 5 nd) jgs_nil))))
  (jss_cons (js_par 6 3 rfl nd (ja_cons (j_callC c_inner_tests T.g_inner_tests b_inner_tests hr h_inner_tests rfl (ja_cons (jv 4) ja_nil)) (ja_cons (j_add (jv 3) j_int) ja_nil)))
  (jss_cons (js_if (JW.jt (jw_or (jt_cmp c_is (jv 6) j_non) (jw_or (jt_cmp c_gt (jv 3) (j_gl rfl T.g_MOST_TESTS fun _ => rep_int)) (jw_or1 (jt_cmp c_gt (jv 5) (j_gl rfl T.g_MOST_TEST_LEVELS fun _ => rep_int)))))) (jss_one (js_ret j_bl)) jss_nil)
  (jss_cons (js_if (JW.jt (jw_and (jt_cmp (c_eq hu64) (j_ix hu1 (jv 4) j_int) j_str) (jw_and1 (jt_cmp (c_nin hu65) (j_ix hu1 (jv 4) j_int) (jv 0))))) (jss_one (js_ret j_bl)) jss_nil)
  (jss_one (js_expr (j_extend (jv 2) (ja_cons (jf (j_lc (own := [("one", 7)]) rfl nd (ji_seq (jv 6)) (blkOk_by (by kernel_rfl)) (fun _ _ _ _ _ => (jg_name 7 nd)) (go_name) (fun _ _ _ _ _ => jts_nil) (fun _ _ _ _ _ => (j_tup (ja_cons (jv 7) (ja_cons (j_add (jv 5) j_int) ja_nil)))))) ja_nil)))))))))
  (jss_one (js_ret j_bl))))
def t_holds_by (K : Fg) (S_holds_by : ASp) : TS := (tSeq (tIfS (tTest (tOp (rInU K false) (tOp (fun x y H Q => rIxU K x y H Q ∨ rIxD x y H Q) (tVar 1) (tC (.int 0))) (tTup (tCons (tC (.str "yes")) (tCons (tC (.str "no")) tNil))))) (tRet (tOp (rEqD K) (tOp (fun x y H Q => rIxU K x y H Q ∨ rIxD x y H Q) (tVar 1) (tC (.int 0))) (tC (.str "yes")))) tNext)
  (tSeq (tIfS (tTest (tOp (rEqD K) (tOp (fun x y H Q => rIxU K x y H Q ∨ rIxD x y H Q) (tVar 1) (tC (.int 0))) (tC (.str "is")))) (tRet (tOp (rEqD K) (tOp (rI0 fun i j => .int (Builtin.bitAnd i j)) (tOp (rI (fun _ j => 0 ≤ j) fun i j => .int (i / 2 ^ j.toNat)) (tVar 2) (tIndexT K (tVar 0) (tCons (tOp (fun x y H Q => rIxU K x y H Q ∨ rIxD x y H Q) (tVar 1) (tC (.int 1))) tNil))) (tC (.int 1))) (tC (.int 1)))) tNext)
  (tSeq (tIfS (tTest (tOp (rEqD K) (tOp (fun x y H Q => rIxU K x y H Q ∨ rIxD x y H Q) (tVar 1) (tC (.int 0))) (tC (.str "not")))) (tRet (tNotV (tCall (spOf K S_holds_by) [] E0 (tCons (tVar 0) (tCons (tOp (fun x y H Q => rIxU K x y H Q ∨ rIxD x y H Q) (tVar 1) (tC (.int 1))) (tCons (tVar 2) tNil)))))) tNext)
  (tSeq (tPar 3 4 (tCons (tCall (spOf K S_holds_by) [] E0 (tCons (tVar 0) (tCons (tOp (fun x y H Q => rIxU K x y H Q ∨ rIxD x y H Q) (tVar 1) (tC (.int 1))) (tCons (tVar 2) tNil)))) (tCons (tCall (spOf K S_holds_by) [] E0 (tCons (tVar 0) (tCons (tOp (fun x y H Q => rIxU K x y H Q ∨ rIxD x y H Q) (tVar 1) (tC (.int 2))) (tCons (tVar 2) tNil)))) tNil)))
  (tRet (tIf (tTest (tOp (rEqD K) (tOp (fun x y H Q => rIxU K x y H Q ∨ rIxD x y H Q) (tVar 1) (tC (.int 0))) (tC (.str "and")))) (tAndV (tVar 3) (tVar 4)) (tOrV (tVar 3) (tVar 4))))))))
def a_holds_by (K : Fg) (S_holds_by : ASp) : AS := (aSeq (aIfS (aT (aOp (rd2 (fIn false)) (aOp gIx (aVar 1) (aC (.int 0))) (aTup (aCons (aC (.str "yes")) (aCons (aC (.str "no")) aNil))))) (aRet (aOp (rd2 (fEq false)) (aOp gIx (aVar 1) (aC (.int 0))) (aC (.str "yes")))) aNext)
  (aSeq (aIfS (aT (aOp (rd2 (fEq false)) (aOp gIx (aVar 1) (aC (.int 0))) (aC (.str "is")))) (aRet (aOp (rd2 (fEq false)) (aOp (aI (fun _ _ => True) (gI Builtin.bitAnd)) (aOp (aI (fun _ j => 0 ≤ j) (gI fun i j => i / 2 ^ j.toNat)) (aVar 2) (aIndexT (aVar 0) (aCons (aOp gIx (aVar 1) (aC (.int 1))) aNil))) (aC (.int 1))) (aC (.int 1)))) aNext)
  (aSeq (aIfS (aT (aOp (rd2 (fEq false)) (aOp gIx (aVar 1) (aC (.int 0))) (aC (.str "not")))) (aRet (aNotV (aCall S_holds_by (aCons (aVar 0) (aCons (aOp gIx (aVar 1) (aC (.int 1))) (aCons (aVar 2) aNil)))))) aNext)
  (aSeq (aPar 3 4 (aCons (aCall S_holds_by (aCons (aVar 0) (aCons (aOp gIx (aVar 1) (aC (.int 1))) (aCons (aVar 2) aNil)))) (aCons (aCall S_holds_by (aCons (aVar 0) (aCons (aOp gIx (aVar 1) (aC (.int 2))) (aCons (aVar 2) aNil)))) aNil)))
  (aRet (aIfE (aT (aOp (rd2 (fEq false)) (aOp gIx (aVar 1) (aC (.int 0))) (aC (.str "and")))) (aAndV (aVar 3) (aVar 4)) (aOrV (aVar 3) (aVar 4))))))))
theorem sc_holds_by : FnScope N_holds_by P_holds_by (defScope (top 17)) := ⟨rfl, rfl, rfl, by decide +kernel, rfl, by decide +kernel, by decide +kernel⟩
theorem jf_holds_by {P : Program} {w : World} {K : Fg} {mg : Str → Option Value} {base : Heap} {S_holds_by : ASp} {f : Addr} {cdv : Value} {A : Around} {outer : List Env} {s : Shared} {H : Hp} {E : XK} {lv : Nat} (T : Top K mg) (hr : Room lv (A.deeper (envOfC "holds_by" (defScope (top 17)) s.heap.objs.size f cdv))) {n_holds_by : Nat} (c_holds_by : Cal P w K mg base d_holds_by (ad_holds_by K) n_holds_by P_holds_by S_holds_by) (h_holds_by : n_holds_by ≤ lv) :
    JSs (bX P w K mg base N_holds_by "holds_by" (defScope (top 17)) f cdv A outer s H E) (defBody (top 17)) (t_holds_by K S_holds_by) (a_holds_by K S_holds_by) := by
  have nd := sc_holds_by.nd
  have hu1 := hu1_of hr
  have hu64 := hu64_of hr
  have hu65 := hu65_of hr
  exact (jss_cons (js_if (jt_cmp (c_in hu65) (j_ix hu1 (jv 1) j_int) (j_tup (ja_cons j_str (ja_cons j_str ja_nil)))) (jss_one (js_ret (j_cmp (c_eq hu64) (j_ix hu1 (jv 1) j_int) j_str))) jss_nil)
  (jss_cons (js_if (jt_cmp (c_eq hu64) (j_ix hu1 (jv 1) j_int) j_str) (jss_one (js_ret (j_cmp (c_eq hu64) (j_and2 (j_shr (jv 2) (j_indexT (jv 0) (ja_cons (j_ix hu1 (jv 1) j_int) ja_nil))) j_int) j_int))) jss_nil)
  (jss_cons (js_if (jt_cmp (c_eq hu64) (j_ix hu1 (jv 1) j_int) j_str) (jss_one (js_ret (j_not (j_callC c_holds_by T.g_holds_by b_holds_by hr h_holds_by rfl (ja_cons (jv 0) (ja_cons (j_ix hu1 (jv 1) j_int) (ja_cons (jv 2) ja_nil))))))) jss_nil)
  (jss_cons (js_par 3 4 rfl nd (ja_cons (j_callC c_holds_by T.g_holds_by b_holds_by hr h_holds_by rfl (ja_cons (jv 0) (ja_cons (j_ix hu1 (jv 1) j_int) (ja_cons (jv 2) ja_nil)))) (ja_cons (j_callC c_holds_by T.g_holds_by b_holds_by hr h_holds_by rfl (ja_cons (jv 0) (ja_cons (j_ix hu1 (jv 1) j_int) (ja_cons (jv 2) ja_nil)))) ja_nil)))
  (jss_one (js_ret (j_if (jt_cmp (c_eq hu64) (j_ix hu1 (jv 1) j_int) j_str) (j_and (jv 3) (j_one (jv 4))) (j_or (jv 3) (j_one (jv 4))))))))))
def t_is_number (K : Fg) : TS := (tRet (tAndV (tCB (rIsiU K) (tCons (tVar 0) (tCons (tC (.ty "int")) tNil))) (tNotV (tCB (rIsiU K) (tCons (tVar 0) (tCons (tC (.ty "bool")) tNil))))))
def a_is_number (K : Fg) : AS := (aRet (aAndV (aCB (on2 (fIsi K)) (aCons (aVar 0) (aCons (aC (.ty "int")) aNil))) (aNotV (aCB (on2 (fIsi K)) (aCons (aVar 0) (aCons (aC (.ty "bool")) aNil))))))
theorem sc_is_number : FnScope N_is_number P_is_number (defScope (top 21)) := ⟨rfl, rfl, rfl, by decide +kernel, rfl, by decide +kernel, by decide +kernel⟩
theorem jf_is_number {P : Program} {w : World} {K : Fg} {mg : Str → Option Value} {base : Heap} {f : Addr} {cdv : Value} {A : Around} {outer : List Env} {s : Shared} {H : Hp} {E : XK} {lv : Nat} (T : Top K mg) (hr : Room lv (A.deeper (envOfC "is_number" (defScope (top 21)) s.heap.objs.size f cdv))) :
    JSs (bX P w K mg base N_is_number "is_number" (defScope (top 21)) f cdv A outer s H E) (defBody (top 21)) (t_is_number K) (a_is_number K) := by
  have nd := sc_is_number.nd
  have hu1 := hu1_of hr
  have hu64 := hu64_of hr
  have hu65 := hu65_of hr
  exact (jss_one (js_ret (j_and (j_callB c_isi rfl T.b_isinstance (by boot_by_name) (ja_cons (jv 0) (ja_cons (j_ty rfl T.b_int (by boot_by_name)) ja_nil))) (j_one (j_not (j_callB c_isi rfl T.b_isinstance (by boot_by_name) (ja_cons (jv 0) (ja_cons (j_ty rfl T.b_bool (by boot_by_name)) ja_nil))))))))
def t_is_between (K : Fg) (S_is_number : ASp) : TS := (tRet (tAndV (tCall (spOf K S_is_number) [] E0 (tCons (tVar 0) tNil)) (tChain (rI0 fun i j => .bl (decide (i ≤ j))) (rI0 fun i j => .bl (decide (i ≤ j))) (tVar 1) (tVar 0) (tVar 2))))
def a_is_between (K : Fg) (S_is_number : ASp) : AS := (aRet (aAndV (aCall S_is_number (aCons (aVar 0) aNil)) (aChain (aCI fun i j => decide (i ≤ j)) (aCI fun i j => decide (i ≤ j)) (aVar 1) (aVar 0) (aVar 2))))
theorem sc_is_between : FnScope N_is_between P_is_between (defScope (top 22)) := ⟨rfl, rfl, rfl, by decide +kernel, rfl, by decide +kernel, by decide +kernel⟩
theorem jf_is_between {P : Program} {w : World} {K : Fg} {mg : Str → Option Value} {base : Heap} {S_is_number : ASp} {f : Addr} {cdv : Value} {A : Around} {outer : List Env} {s : Shared} {H : Hp} {E : XK} {lv : Nat} (T : Top K mg) (hr : Room lv (A.deeper (envOfC "is_between" (defScope (top 22)) s.heap.objs.size f cdv))) {n_is_number : Nat} (c_is_number : Cal P w K mg base d_is_number (ad_is_number K) n_is_number P_is_number S_is_number) (h_is_number : n_is_number ≤ lv) :
    JSs (bX P w K mg base N_is_between "is_between" (defScope (top 22)) f cdv A outer s H E) (defBody (top 22)) (t_is_between K S_is_number) (a_is_between K S_is_number) := by
  have nd := sc_is_between.nd
  have hu1 := hu1_of hr
  have hu64 := hu64_of hr
  have hu65 := hu65_of hr
  exact (jss_one (js_ret (j_and (j_callC c_is_number T.g_is_number b_is_number hr h_is_number rfl (ja_cons (jv 0) ja_nil)) (j_one (j_chain c_le c_le (jv 1) (jv 0) (jv 2))))))
def t_is_list (K : Fg) : TS := (tRet (tCB (rIsiU K) (tCons (tVar 0) (tCons (tTup (tCons (tC (.ty "list")) (tCons (tC (.ty "tuple")) tNil))) tNil))))
def a_is_list (K : Fg) : AS := (aRet (aCB (on2 (fIsi K)) (aCons (aVar 0) (aCons (aTup (aCons (aC (.ty "list")) (aCons (aC (.ty "tuple")) aNil))) aNil))))
theorem sc_is_list : FnScope N_is_list P_is_list (defScope (top 23)) := ⟨rfl, rfl, rfl, by decide +kernel, rfl, by decide +kernel, by decide +kernel⟩
theorem jf_is_list {P : Program} {w : World} {K : Fg} {mg : Str → Option Value} {base : Heap} {f : Addr} {cdv : Value} {A : Around} {outer : List Env} {s : Shared} {H : Hp} {E : XK} {lv : Nat} (T : Top K mg) (hr : Room lv (A.deeper (envOfC "is_list" (defScope (top 23)) s.heap.objs.size f cdv))) :
    JSs (bX P w K mg base N_is_list "is_list" (defScope (top 23)) f cdv A outer s H E) (defBody (top 23)) (t_is_list K) (a_is_list K) := by
  have nd := sc_is_list.nd
  have hu1 := hu1_of hr
  have hu64 := hu64_of hr
  have hu65 := hu65_of hr
  exact (jss_one (js_ret (j_callB c_isi rfl T.b_isinstance (by boot_by_name) (ja_cons (jv 0) (ja_cons (j_tup (ja_cons (j_ty rfl T.b_list (by boot_by_name)) (ja_cons (j_ty rfl T.b_tuple (by boot_by_name)) ja_nil))) ja_nil)))))
def t_is_plain_word (K : Fg) : TS := (tRet (tAndV (tCB (rIsiU K) (tCons (tVar 0) (tCons (tC (.ty "str")) tNil))) (tAndV (tChain (rI0 fun i j => .bl (decide (i ≤ j))) (rI0 fun i j => .bl (decide (i ≤ j))) (tC (.int 1)) (tCB (rLenU K) (tCons (tVar 0) tNil)) (tC (.int 8))) (tCB (rAll K) (tCons (tLc (iStr (tVar 0)) (gName 1) tYes (tOp (rInU K false) (tVar 1) (tC (.str "abcdefghijklmnopqrstuvwxyz"))) [1]) tNil)))))
def a_is_plain_word (K : Fg) : AS := (aRet (aAndV (aCB (on2 (fIsi K)) (aCons (aVar 0) (aCons (aC (.ty "str")) aNil))) (aAndV (aChain (aCI fun i j => decide (i ≤ j)) (aCI fun i j => decide (i ≤ j)) (aC (.int 1)) (aCB (on1 fLen) (aCons (aVar 0) aNil)) (aC (.int 8))) (aCB (on1 (fBools fun bs => bs.all fun b => b)) (aCons (aLc (aStrI (aVar 0)) (aGn 1) aYes (aOp (rd2 (fIn false)) (aVar 1) (aC (.str "abcdefghijklmnopqrstuvwxyz"))) [1]) aNil)))))
theorem sc_is_plain_word : FnScope N_is_plain_word P_is_plain_word (defScope (top 24)) := ⟨rfl, rfl, rfl, by decide +kernel, rfl, by decide +kernel, by decide +kernel⟩
theorem jf_is_plain_word {P : Program} {w : World} {K : Fg} {mg : Str → Option Value} {base : Heap} {f : Addr} {cdv : Value} {A : Around} {outer : List Env} {s : Shared} {H : Hp} {E : XK} {lv : Nat} (T : Top K mg) (hr : Room lv (A.deeper (envOfC "is_plain_word" (defScope (top 24)) s.heap.objs.size f cdv))) :
    JSs (bX P w K mg base N_is_plain_word "is_plain_word" (defScope (top 24)) f cdv A outer s H E) (defBody (top 24)) (t_is_plain_word K) (a_is_plain_word K) := by
  have nd := sc_is_plain_word.nd
  have hu1 := hu1_of hr
  have hu64 := hu64_of hr
  have hu65 := hu65_of hr
  exact (jss_one (js_ret (j_and (j_callB c_isi rfl T.b_isinstance (by boot_by_name) (ja_cons (jv 0) (ja_cons (j_ty rfl T.b_str (by boot_by_name)) ja_nil))) (j_and (j_chain c_le c_le j_int (j_callB c_len rfl T.b_len (by boot_by_name) (ja_cons (jv 0) ja_nil)) (j_gl rfl T.g_MOST_LETTERS fun _ => rep_int)) (j_one (j_callB (c_all rfl) rfl T.b_all (by boot_by_name) (ja_cons (j_lc (own := [("sign", 1)]) rfl nd (ji_str (jv 0)) (blkOk_by (by kernel_rfl)) (fun _ _ _ _ _ => (jg_name 1 nd)) (go_name) (fun _ _ _ _ _ => jts_nil) (fun _ _ _ _ _ => (j_cmp (c_in hu65) (jv 1) (j_gl rfl T.g_LETTERS fun _ => rep_str)))) ja_nil)))))))
def t_are_unlike_words (K : Fg) (S_is_list : ASp) (S_is_plain_word : ASp) : TS := (tSeq (tIfS (tOr (tNot (tB (tCall (spOf K S_is_list) [] E0 (tCons (tVar 0) tNil)))) (tOr (tNot (tTest (tChain (rI0 fun i j => .bl (decide (i ≤ j))) (rI0 fun i j => .bl (decide (i ≤ j))) (tVar 1) (tCB (rLenU K) (tCons (tVar 0) tNil)) (tVar 2)))) (tNot (tB (tCB (rAll K) (tCons (tLc (iSeq K (tVar 0)) (gName 3) tYes (tCall (spOf K S_is_plain_word) [] E0 (tCons (tVar 3) tNil)) [3]) tNil)))))) (tRet (tC (.bl false))) tNext)
  (tRet (tOp (rEqD K) (tLenSetS K (tVar 0)) (tCB (rLenU K) (tCons (tVar 0) tNil)))))
def a_are_unlike_words (K : Fg) (S_is_list : ASp) (S_is_plain_word : ASp) : AS := (aSeq (aIfS (aOr (aNot (aT (aCall S_is_list (aCons (aVar 0) aNil)))) (aOr (aNot (aT (aChain (aCI fun i j => decide (i ≤ j)) (aCI fun i j => decide (i ≤ j)) (aVar 1) (aCB (on1 fLen) (aCons (aVar 0) aNil)) (aVar 2)))) (aNot (aT (aCB (on1 (fBools fun bs => bs.all fun b => b)) (aCons (aLc (aSeqI (aVar 0)) (aGn 3) aYes (aCall S_is_plain_word (aCons (aVar 3) aNil)) [3]) aNil)))))) (aRet (aC (.bl false))) aNext)
  (aRet (aOp (rd2 (fEq false)) (aLenSet (aVar 0)) (aCB (on1 fLen) (aCons (aVar 0) aNil)))))
theorem sc_are_unlike_words : FnScope N_are_unlike_words P_are_unlike_words (defScope (top 25)) := ⟨rfl, rfl, rfl, by decide +kernel, rfl, by decide +kernel, by decide +kernel⟩
theorem jf_are_unlike_words {P : Program} {w : World} {K : Fg} {mg : Str → Option Value} {base : Heap} {S_is_list : ASp} {S_is_plain_word : ASp} {f : Addr} {cdv : Value} {A : Around} {outer : List Env} {s : Shared} {H : Hp} {E : XK} {lv : Nat} (T : Top K mg) (hr : Room lv (A.deeper (envOfC "are_unlike_words" (defScope (top 25)) s.heap.objs.size f cdv))) {n_is_list : Nat} (c_is_list : Cal P w K mg base d_is_list (ad_is_list K) n_is_list P_is_list S_is_list) (h_is_list : n_is_list ≤ lv) {n_is_plain_word : Nat} (c_is_plain_word : Cal P w K mg base d_is_plain_word (ad_is_plain_word K) n_is_plain_word P_is_plain_word S_is_plain_word) (h_is_plain_word : n_is_plain_word ≤ lv) :
    JSs (bX P w K mg base N_are_unlike_words "are_unlike_words" (defScope (top 25)) f cdv A outer s H E) (defBody (top 25)) (t_are_unlike_words K S_is_list S_is_plain_word) (a_are_unlike_words K S_is_list S_is_plain_word) := by
  have nd := sc_are_unlike_words.nd
  have hu1 := hu1_of hr
  have hu64 := hu64_of hr
  have hu65 := hu65_of hr
  exact (jss_cons (js_if (JW.jt (jw_or (jt_not (jt_val (j_callC c_is_list T.g_is_list b_is_list hr h_is_list rfl (ja_cons (jv 0) ja_nil)))) (jw_or (jt_not (jt_chain c_le c_le (jv 1) (j_callB c_len rfl T.b_len (by boot_by_name) (ja_cons (jv 0) ja_nil)) (jv 2))) (jw_or1 (jt_not (jt_val (j_callB (c_all rfl) rfl T.b_all (by boot_by_name) (ja_cons (j_lc (own := [("word", 3)]) rfl nd (ji_seq (jv 0)) (blkOk_by (by kernel_rfl)) (fun _ _ _ _ _ => (jg_name 3 nd)) (go_name) (fun _ _ _ _ _ => jts_nil) (fun _ _ _ _ _ => (j_callC c_is_plain_word T.g_is_plain_word b_is_plain_word hr h_is_plain_word rfl (ja_cons (jv 3) ja_nil)))) ja_nil)))))))) (jss_one (js_ret j_bl)) jss_nil)
  (jss_one (js_ret (j_cmp (c_eq hu64) (j_lenSet rfl rfl T.b_len rfl T.b_set (jv 0)) (j_callB c_len rfl T.b_len (by boot_by_name) (ja_cons (jv 0) ja_nil))))))
def t_is_fact_of (K : Fg) (S_is_test_of : ASp) : TS := (tSeq (tIfS (tOr (tNot (tB (tCB (rIsiU K) (tCons (tVar 2) (tCons (tC (.ty "tuple")) tNil))))) (tOr (tTest (tOp (rInU K true) (tCB (rLenU K) (tCons (tVar 2) tNil)) (tTup (tCons (tC (.int 2)) (tCons (tC (.int 3)) tNil))))) (tNot (tB (tCB (rIsiU K) (tCons (tOp (fun x y H Q => rIxU K x y H Q ∨ rIxD x y H Q) (tVar 2) (tC (.int 0))) (tCons (tC (.ty "str")) tNil))))))) (tRet (tC (.bl false))) tNext)
  (tSeq (tIfS (tNot (tB (tCall (spOf K S_is_test_of) [] E0 (tCons (tVar 0) (tCons (tOp (fun x y H Q => rIxU K x y H Q ∨ rIxD x y H Q) (tVar 2) (tUn (rU fun i => .int (-i)) (tC (.int 1)))) tNil))))) (tRet (tC (.bl false))) tNext)
  (tSeq (tIfS (tTest (tOp (rEqD K) (tCB (rLenU K) (tCons (tVar 2) tNil)) (tC (.int 2)))) (tRet (tOp (rEqD K) (tOp (fun x y H Q => rIxU K x y H Q ∨ rIxD x y H Q) (tVar 2) (tC (.int 0))) (tC (.str "never")))) tNext)
  (tRet (tAndV (tOp (rInU K false) (tOp (fun x y H Q => rIxU K x y H Q ∨ rIxD x y H Q) (tVar 2) (tC (.int 0))) (tTup (tCons (tC (.str "refused")) (tCons (tC (.str "makes")) (tCons (tC (.str "keeps")) tNil))))) (tAndV (tCB (rIsiU K) (tCons (tOp (fun x y H Q => rIxU K x y H Q ∨ rIxD x y H Q) (tVar 2) (tC (.int 1))) (tCons (tC (.ty "str")) tNil))) (tOp (rInU K false) (tOp (fun x y H Q => rIxU K x y H Q ∨ rIxD x y H Q) (tVar 2) (tC (.int 1))) (tVar 1))))))))
def a_is_fact_of (K : Fg) (S_is_test_of : ASp) : AS := (aSeq (aIfS (aOr (aNot (aT (aCB (on2 (fIsi K)) (aCons (aVar 2) (aCons (aC (.ty "tuple")) aNil))))) (aOr (aT (aOp (rd2 (fIn true)) (aCB (on1 fLen) (aCons (aVar 2) aNil)) (aTup (aCons (aC (.int 2)) (aCons (aC (.int 3)) aNil))))) (aNot (aT (aCB (on2 (fIsi K)) (aCons (aOp gIx (aVar 2) (aC (.int 0))) (aCons (aC (.ty "str")) aNil))))))) (aRet (aC (.bl false))) aNext)
  (aSeq (aIfS (aNot (aT (aCall S_is_test_of (aCons (aVar 0) (aCons (aOp gIx (aVar 2) (aNeg (aC (.int 1)))) aNil))))) (aRet (aC (.bl false))) aNext)
  (aSeq (aIfS (aT (aOp (rd2 (fEq false)) (aCB (on1 fLen) (aCons (aVar 2) aNil)) (aC (.int 2)))) (aRet (aOp (rd2 (fEq false)) (aOp gIx (aVar 2) (aC (.int 0))) (aC (.str "never")))) aNext)
  (aRet (aAndV (aOp (rd2 (fIn false)) (aOp gIx (aVar 2) (aC (.int 0))) (aTup (aCons (aC (.str "refused")) (aCons (aC (.str "makes")) (aCons (aC (.str "keeps")) aNil))))) (aAndV (aCB (on2 (fIsi K)) (aCons (aOp gIx (aVar 2) (aC (.int 1))) (aCons (aC (.ty "str")) aNil))) (aOp (rd2 (fIn false)) (aOp gIx (aVar 2) (aC (.int 1))) (aVar 1))))))))
theorem sc_is_fact_of : FnScope N_is_fact_of P_is_fact_of (defScope (top 31)) := ⟨rfl, rfl, rfl, by decide +kernel, rfl, by decide +kernel, by decide +kernel⟩
theorem jf_is_fact_of {P : Program} {w : World} {K : Fg} {mg : Str → Option Value} {base : Heap} {S_is_test_of : ASp} {f : Addr} {cdv : Value} {A : Around} {outer : List Env} {s : Shared} {H : Hp} {E : XK} {lv : Nat} (T : Top K mg) (hr : Room lv (A.deeper (envOfC "is_fact_of" (defScope (top 31)) s.heap.objs.size f cdv))) {n_is_test_of : Nat} (c_is_test_of : Cal P w K mg base d_is_test_of (ad_is_test_of K) n_is_test_of P_is_test_of S_is_test_of) (h_is_test_of : n_is_test_of ≤ lv) :
    JSs (bX P w K mg base N_is_fact_of "is_fact_of" (defScope (top 31)) f cdv A outer s H E) (defBody (top 31)) (t_is_fact_of K S_is_test_of) (a_is_fact_of K S_is_test_of) := by
  have nd := sc_is_fact_of.nd
  have hu1 := hu1_of hr
  have hu64 := hu64_of hr
  have hu65 := hu65_of hr
  exact (jss_cons (js_if (JW.jt (jw_or (jt_not (jt_val (j_callB c_isi rfl T.b_isinstance (by boot_by_name) (ja_cons (jv 2) (ja_cons (j_ty rfl T.b_tuple (by boot_by_name)) ja_nil))))) (jw_or (jt_cmp (c_nin hu65) (j_callB c_len rfl T.b_len (by boot_by_name) (ja_cons (jv 2) ja_nil)) (j_tup (ja_cons j_int (ja_cons j_int ja_nil)))) (jw_or1 (jt_not (jt_val (j_callB c_isi rfl T.b_isinstance (by boot_by_name) (ja_cons (j_ix hu1 (jv 2) j_int) (ja_cons (j_ty rfl T.b_str (by boot_by_name)) ja_nil))))))))) (jss_one (js_ret j_bl)) jss_nil)
  (jss_cons (js_if (jt_not (jt_val (j_callC c_is_test_of T.g_is_test_of b_is_test_of hr h_is_test_of rfl (ja_cons (jv 0) (ja_cons (j_ix hu1 (jv 2) (j_neg j_int)) ja_nil))))) (jss_one (js_ret j_bl)) jss_nil)
  (jss_cons (js_if (jt_cmp (c_eq hu64) (j_callB c_len rfl T.b_len (by boot_by_name) (ja_cons (jv 2) ja_nil)) j_int) (jss_one (js_ret (j_cmp (c_eq hu64) (j_ix hu1 (jv 2) j_int) j_str))) jss_nil)
  (jss_one (js_ret (j_and (j_cmp (c_in hu65) (j_ix hu1 (jv 2) j_int) (j_tup (ja_cons j_str (ja_cons j_str (ja_cons j_str ja_nil))))) (j_and (j_callB c_isi rfl T.b_isinstance (by boot_by_name) (ja_cons (j_ix hu1 (jv 2) j_int) (ja_cons (j_ty rfl T.b_str (by boot_by_name)) ja_nil))) (j_one (j_cmp (c_in hu65) (j_ix hu1 (jv 2) j_int) (jv 1))))))))))
def t_Tongue___init__ (K : Fg) (S_are_unlike_words : ASp) (S_is_list : ASp) (S_is_fact_of : ASp) : TS := (tSeq (tIfS (tOr (tNot (tB (tCall (spOf K S_are_unlike_words) [] E0 (tCons (tVar 1) (tCons (tC (.int 0)) (tCons (tC (.int 3)) tNil)))))) (tTest (tOp (rNeD K) (tLc (iSeq K (tVar 1)) (gName 6) (tTest (tOp (rInU K false) (tVar 6) (tC (.ref (He.ga K "KEPT_WORDS"))))) (tVar 6) [6]) (tLst tNil)))) tNever tNext)
  (tSeq (tIfS (tOr (tNot (tB (tCall (spOf K S_are_unlike_words) [] E0 (tCons (tVar 2) (tCons (tC (.int 1)) (tCons (tC (.int 4)) tNil)))))) (tTest (tOp (rNeD K) (tLc (iSeq K (tVar 2)) (gName 6) (tTest (tOp (rInU K false) (tVar 6) (tVar 1))) (tVar 6) [6]) (tLst tNil)))) tNever tNext)
  (tSeq (tIfS (tOr (tNot (tB (tCall (spOf K S_is_list) [] E0 (tCons (tVar 3) tNil)))) (tTest (tOp (rI0 fun i j => .bl (decide (j < i))) (tCB (rLenU K) (tCons (tVar 3) tNil)) (tC (.int 8))))) tNever tNext)
  (tSeq (tFor (iEnumU K (tCons (tVar 3) tNil)) (gTup K 2 (gCons (gName 4) (gCons (gName 5) gNil))) (tIfS (tNot (tB (tCall (spOf K S_is_fact_of) [] E0 (tCons (tCB (rTupC K) (tCons (tVar 1) tNil)) (tCons (tCB (rTupC K) (tCons (tVar 2) tNil)) (tCons (tVar 5) tNil)))))) tNever tNext))
  (tAsg (tTup (tCons (tCB (rTupC K) (tCons (tVar 1) tNil)) (tCons (tCB (rTupC K) (tCons (tVar 2) tNil)) (tCons (tCB (rTupC K) (tCons (tVar 3) tNil)) tNil)))) (gTup K 3 (gCons (gFld K (tVar 0) "t_tests") (gCons (gFld K (tVar 0) "t_deeds") (gCons (gFld K (tVar 0) "t_facts") gNil)))))))))
def a_Tongue___init__ (K : Fg) (S_are_unlike_words : ASp) (S_is_list : ASp) (S_is_fact_of : ASp) : AS := (aSeq (aIfS (aOr (aNot (aT (aCall S_are_unlike_words (aCons (aVar 1) (aCons (aC (.int 0)) (aCons (aC (.int 3)) aNil)))))) (aT (aOp (rd2 (fEq true)) (aLc (aSeqI (aVar 1)) (aGn 6) (aT (aOp (rd2 (fIn false)) (aVar 6) (aC (.tup [.str "yes", .str "no", .str "not", .str "and", .str "or"])))) (aVar 6) [6]) (aLst aNil)))) aNever aNext)
  (aSeq (aIfS (aOr (aNot (aT (aCall S_are_unlike_words (aCons (aVar 2) (aCons (aC (.int 1)) (aCons (aC (.int 4)) aNil)))))) (aT (aOp (rd2 (fEq true)) (aLc (aSeqI (aVar 2)) (aGn 6) (aT (aOp (rd2 (fIn false)) (aVar 6) (aVar 1))) (aVar 6) [6]) (aLst aNil)))) aNever aNext)
  (aSeq (aIfS (aOr (aNot (aT (aCall S_is_list (aCons (aVar 3) aNil)))) (aT (aOp (aCI fun i j => decide (j < i)) (aCB (on1 fLen) (aCons (aVar 3) aNil)) (aC (.int 8))))) aNever aNext)
  (aSeq (aFor (aEnumI (aCons (aFz (aVar 3)) aNil)) (aGtup 2 (aGcons (aGn 4) (aGcons (aGn 5) aGnil))) (aIfS (aNot (aT (aCall S_is_fact_of (aCons (aCB gTupC (aCons (aVar 1) aNil)) (aCons (aCB gTupC (aCons (aVar 2) aNil)) (aCons (aVar 5) aNil)))))) aNever aNext))
  (aAsg (aTup (aCons (aCB gTupC (aCons (aVar 1) aNil)) (aCons (aCB gTupC (aCons (aVar 2) aNil)) (aCons (aCB gTupC (aCons (aVar 3) aNil)) aNil)))) (aGtup 3 (aGcons (aGfld (He.ga K "Tongue") "t_tests" (aVar 0)) (aGcons (aGfld (He.ga K "Tongue") "t_deeds" (aVar 0)) (aGcons (aGfld (He.ga K "Tongue") "t_facts" (aVar 0)) aGnil)))))))))
theorem sc_Tongue___init__ : FnScope N_Tongue___init__ P_Tongue___init__ (defScope (inClass (top 32) 0)) := ⟨rfl, rfl, rfl, by decide +kernel, rfl, by decide +kernel, by decide +kernel⟩
theorem jf_Tongue___init__ {P : Program} {w : World} {K : Fg} {mg : Str → Option Value} {base : Heap} {S_are_unlike_words : ASp} {S_is_list : ASp} {S_is_fact_of : ASp} {f : Addr} {cdv : Value} {A : Around} {outer : List Env} {s : Shared} {H : Hp} {E : XK} {lv : Nat} (T : Top K mg) (hr : Room lv (A.deeper (envOfC "Tongue.__init__" (defScope (inClass (top 32) 0)) s.heap.objs.size f cdv))) {n_are_unlike_words : Nat} (c_are_unlike_words : Cal P w K mg base d_are_unlike_words (ad_are_unlike_words K) n_are_unlike_words P_are_unlike_words S_are_unlike_words) (h_are_unlike_words : n_are_unlike_words ≤ lv) {n_is_list : Nat} (c_is_list : Cal P w K mg base d_is_list (ad_is_list K) n_is_list P_is_list S_is_list) (h_is_list : n_is_list ≤ lv) {n_is_fact_of : Nat} (c_is_fact_of : Cal P w K mg base d_is_fact_of (ad_is_fact_of K) n_is_fact_of P_is_fact_of S_is_fact_of) (h_is_fact_of : n_is_fact_of ≤ lv) :
    JSs (bX P w K mg base N_Tongue___init__ "Tongue.__init__" (defScope (inClass (top 32) 0)) f cdv A outer s H E) (defBody (inClass (top 32) 0)) (t_Tongue___init__ K S_are_unlike_words S_is_list S_is_fact_of) (a_Tongue___init__ K S_are_unlike_words S_is_list S_is_fact_of) := by
  have nd := sc_Tongue___init__.nd
  have hu1 := hu1_of hr
  have hu64 := hu64_of hr
  have hu65 := hu65_of hr
  exact (jss_cons (js_if (JW.jt (jw_or (jt_not (jt_val (j_callC c_are_unlike_words T.g_are_unlike_words b_are_unlike_words hr h_are_unlike_words rfl (ja_cons (jv 1) (ja_cons j_int (ja_cons (j_gl rfl T.g_MOST_TESTED fun _ => rep_int) ja_nil)))))) (jw_or1 (jt_cmp (c_ne hu64) (j_lc (own := [("word", 6)]) rfl nd (ji_seq (jv 1)) (blkOk_by (by kernel_rfl)) (fun _ _ _ _ _ => (jg_name 6 nd)) (go_name) (fun _ _ _ _ _ => (jts_one (jt_cmp (c_in hu65) (jv 6) (j_glt rfl T.g_KEPT_WORDS T.q_KEPT_WORDS fun _ => ⟨_, _, rfl, rep_str, ⟨_, _, rfl, rep_str, ⟨_, _, rfl, rep_str, ⟨_, _, rfl, rep_str, ⟨_, _, rfl, rep_str, rfl⟩⟩⟩⟩⟩)))) (fun _ _ _ _ _ => (jv 6))) (j_lst ja_nil))))) (jss_one js_never) jss_nil)
  (jss_cons (js_if (JW.jt (jw_or (jt_not (jt_val (j_callC c_are_unlike_words T.g_are_unlike_words b_are_unlike_words hr h_are_unlike_words rfl (ja_cons (jv 2) (ja_cons j_int (ja_cons (j_gl rfl T.g_MOST_DEEDS fun _ => rep_int) ja_nil)))))) (jw_or1 (jt_cmp (c_ne hu64) (j_lc (own := [("word", 6)]) rfl nd (ji_seq (jv 2)) (blkOk_by (by kernel_rfl)) (fun _ _ _ _ _ => (jg_name 6 nd)) (go_name) (fun _ _ _ _ _ => (jts_one (jt_cmp (c_in hu65) (jv 6) (jv 1)))) (fun _ _ _ _ _ => (jv 6))) (j_lst ja_nil))))) (jss_one js_never) jss_nil)
  (jss_cons (js_if (JW.jt (jw_or (jt_not (jt_val (j_callC c_is_list T.g_is_list b_is_list hr h_is_list rfl (ja_cons (jv 3) ja_nil)))) (jw_or1 (jt_cmp c_gt (j_callB c_len rfl T.b_len (by boot_by_name) (ja_cons (jv 3) ja_nil)) (j_gl rfl T.g_MOST_FACTS fun _ => rep_int))))) (jss_one js_never) jss_nil)
  (jss_cons (js_for PassesOwn.never rfl (ji_enum rfl T.b_enumerate (ja_cons (jf (jv 3)) ja_nil)) (jg_tup rfl (jgs_cons (jg_name 4 nd) (jgs_cons (jg_name 5 nd) jgs_nil))) (jss_one (js_if (jt_not (jt_val (j_callC c_is_fact_of T.g_is_fact_of b_is_fact_of hr h_is_fact_of rfl (ja_cons (j_callTy c_tupC rfl T.b_tuple (by boot_by_name) (ja_cons (jv 1) ja_nil)) (ja_cons (j_callTy c_tupC rfl T.b_tuple (by boot_by_name) (ja_cons (jv 2) ja_nil)) (ja_cons (jv 5) ja_nil)))))) (jss_one js_never) jss_nil)))
  (jss_one (js_asg (j_tup (ja_cons (j_callTy c_tupC rfl T.b_tuple (by boot_by_name) (ja_cons (jv 1) ja_nil)) (ja_cons (j_callTy c_tupC rfl T.b_tuple (by boot_by_name) (ja_cons (jv 2) ja_nil)) (ja_cons (j_callTy c_tupC rfl T.b_tuple (by boot_by_name) (ja_cons (jv 3) ja_nil)) ja_nil)))) (jg_tup rfl (jgs_cons (jg_fld T.cls_Tongue T.no_Tongue_t_tests (jv 0)) (jgs_cons (jg_fld T.cls_Tongue T.no_Tongue_t_deeds (jv 0)) (jgs_cons (jg_fld T.cls_Tongue T.no_Tongue_t_facts (jv 0)) jgs_nil))))))))))
def t_Tongue_tests (K : Fg) : TS := (tRet (tFld K (tVar 0) "t_tests"))
def a_Tongue_tests (K : Fg) : AS := (aRet (aFld (He.ga K "Tongue") "t_tests" (aVar 0)))
theorem sc_Tongue_tests : FnScope N_Tongue_tests P_Tongue_tests (defScope (inClass (top 32) 1)) := ⟨rfl, rfl, rfl, by decide +kernel, rfl, by decide +kernel, by decide +kernel⟩
theorem jf_Tongue_tests {P : Program} {w : World} {K : Fg} {mg : Str → Option Value} {base : Heap} {f : Addr} {cdv : Value} {A : Around} {outer : List Env} {s : Shared} {H : Hp} {E : XK} {lv : Nat} (T : Top K mg) (hr : Room lv (A.deeper (envOfC "Tongue.tests" (defScope (inClass (top 32) 1)) s.heap.objs.size f cdv))) :
    JSs (bX P w K mg base N_Tongue_tests "Tongue.tests" (defScope (inClass (top 32) 1)) f cdv A outer s H E) (defBody (inClass (top 32) 1)) (t_Tongue_tests K) (a_Tongue_tests K) := by
  have nd := sc_Tongue_tests.nd
  have hu1 := hu1_of hr
  have hu64 := hu64_of hr
  have hu65 := hu65_of hr
  exact (jss_one (js_ret (j_fld T.cls_Tongue T.no_Tongue_t_tests (jv 0))))
def t_Tongue_deeds (K : Fg) : TS := (tRet (tFld K (tVar 0) "t_deeds"))
def a_Tongue_deeds (K : Fg) : AS := (aRet (aFld (He.ga K "Tongue") "t_deeds" (aVar 0)))
theorem sc_Tongue_deeds : FnScope N_Tongue_deeds P_Tongue_deeds (defScope (inClass (top 32) 2)) := ⟨rfl, rfl, rfl, by decide +kernel, rfl, by decide +kernel, by decide +kernel⟩
theorem jf_Tongue_deeds {P : Program} {w : World} {K : Fg} {mg : Str → Option Value} {base : Heap} {f : Addr} {cdv : Value} {A : Around} {outer : List Env} {s : Shared} {H : Hp} {E : XK} {lv : Nat} (T : Top K mg) (hr : Room lv (A.deeper (envOfC "Tongue.deeds" (defScope (inClass (top 32) 2)) s.heap.objs.size f cdv))) :
    JSs (bX P w K mg base N_Tongue_deeds "Tongue.deeds" (defScope (inClass (top 32) 2)) f cdv A outer s H E) (defBody (inClass (top 32) 2)) (t_Tongue_deeds K) (a_Tongue_deeds K) := by
  have nd := sc_Tongue_deeds.nd
  have hu1 := hu1_of hr
  have hu64 := hu64_of hr
  have hu65 := hu65_of hr
  exact (jss_one (js_ret (j_fld T.cls_Tongue T.no_Tongue_t_deeds (jv 0))))
def t_Tongue_facts (K : Fg) : TS := (tRet (tFld K (tVar 0) "t_facts"))
def a_Tongue_facts (K : Fg) : AS := (aRet (aFld (He.ga K "Tongue") "t_facts" (aVar 0)))
theorem sc_Tongue_facts : FnScope N_Tongue_facts P_Tongue_facts (defScope (inClass (top 32) 3)) := ⟨rfl, rfl, rfl, by decide +kernel, rfl, by decide +kernel, by decide +kernel⟩
theorem jf_Tongue_facts {P : Program} {w : World} {K : Fg} {mg : Str → Option Value} {base : Heap} {f : Addr} {cdv : Value} {A : Around} {outer : List Env} {s : Shared} {H : Hp} {E : XK} {lv : Nat} (T : Top K mg) (hr : Room lv (A.deeper (envOfC "Tongue.facts" (defScope (inClass (top 32) 3)) s.heap.objs.size f cdv))) :
    JSs (bX P w K mg base N_Tongue_facts "Tongue.facts" (defScope (inClass (top 32) 3)) f cdv A outer s H E) (defBody (inClass (top 32) 3)) (t_Tongue_facts K) (a_Tongue_facts K) := by
  have nd := sc_Tongue_facts.nd
  have hu1 := hu1_of hr
  have hu64 := hu64_of hr
  have hu65 := hu65_of hr
  exact (jss_one (js_ret (j_fld T.cls_Tongue T.no_Tongue_t_facts (jv 0))))
def t_need_tongue (K : Fg) : TS := (tIfS (tNot (tB (tCB (rIsiU K) (tCons (tVar 0) (tCons (tC (.ref (He.ga K "Tongue"))) tNil))))) tNever tNext)
def a_need_tongue (K : Fg) : AS := (aIfS (aNot (aT (aCB (on2 (fIsi K)) (aCons (aVar 0) (aCons (aC (.cls (He.ga K "Tongue"))) aNil))))) aNever aNext)
theorem sc_need_tongue : FnScope N_need_tongue P_need_tongue (defScope (top 33)) := ⟨rfl, rfl, rfl, by decide +kernel, rfl, by decide +kernel, by decide +kernel⟩
theorem jf_need_tongue {P : Program} {w : World} {K : Fg} {mg : Str → Option Value} {base : Heap} {f : Addr} {cdv : Value} {A : Around} {outer : List Env} {s : Shared} {H : Hp} {E : XK} {lv : Nat} (T : Top K mg) (hr : Room lv (A.deeper (envOfC "need_tongue" (defScope (top 33)) s.heap.objs.size f cdv))) :
    JSs (bX P w K mg base N_need_tongue "need_tongue" (defScope (top 33)) f cdv A outer s H E) (defBody (top 33)) (t_need_tongue K) (a_need_tongue K) := by
  have nd := sc_need_tongue.nd
  have hu1 := hu1_of hr
  have hu64 := hu64_of hr
  have hu65 := hu65_of hr
  exact (jss_one (js_if (jt_not (jt_val (j_callB c_isi rfl T.b_isinstance (by boot_by_name) (ja_cons (jv 0) (ja_cons (j_cls rfl T.g_Tongue) ja_nil))))) (jss_one js_never) jss_nil))
def t_many_atoms (K : Fg) (S_Tongue_tests : ASp) : TS := (tRet (tOp (rI CPow fun i j => .int (i * 2 ^ j.toNat)) (tC (.int 1)) (tCB (rLenU K) (tCons (tProp (He.ga K "Tongue") (spOf K S_Tongue_tests) [] E0 (tVar 0)) tNil))))
def a_many_atoms (K : Fg) (S_Tongue_tests : ASp) : AS := (aRet (aOp (aI CPow (gI fun i j => i * 2 ^ j.toNat)) (aC (.int 1)) (aCB (on1 fLen) (aCons (aProp S_Tongue_tests (He.ga K "Tongue") (aVar 0)) aNil))))
theorem sc_many_atoms : FnScope N_many_atoms P_many_atoms (defScope (top 34)) := ⟨rfl, rfl, rfl, by decide +kernel, rfl, by decide +kernel, by decide +kernel⟩
theorem jf_many_atoms {P : Program} {w : World} {K : Fg} {mg : Str → Option Value} {base : Heap} {S_Tongue_tests : ASp} {f : Addr} {cdv : Value} {A : Around} {outer : List Env} {s : Shared} {H : Hp} {E : XK} {lv : Nat} (T : Top K mg) (hr : Room lv (A.deeper (envOfC "many_atoms" (defScope (top 34)) s.heap.objs.size f cdv))) {n_Tongue_tests : Nat} (c_Tongue_tests : Cal P w K mg base d_Tongue_tests (ad_Tongue_tests K) n_Tongue_tests P_Tongue_tests S_Tongue_tests) (h_Tongue_tests : n_Tongue_tests + 1 ≤ lv) :
    JSs (bX P w K mg base N_many_atoms "many_atoms" (defScope (top 34)) f cdv A outer s H E) (defBody (top 34)) (t_many_atoms K S_Tongue_tests) (a_many_atoms K S_Tongue_tests) := by
  have nd := sc_many_atoms.nd
  have hu1 := hu1_of hr
  have hu64 := hu64_of hr
  have hu65 := hu65_of hr
  exact (jss_one (js_ret (j_shl j_int (j_callB c_len rfl T.b_len (by boot_by_name) (ja_cons (j_propC c_Tongue_tests T.cls_Tongue b_Tongue_tests T.p_Tongue_tests hr h_Tongue_tests (jv 0)) ja_nil)))))
def t_is_atom (K : Fg) (S_is_between : ASp) (S_many_atoms : ASp) : TS := (tRet (tCall (spOf K S_is_between) [] E0 (tCons (tVar 1) (tCons (tC (.int 0)) (tCons (tOp (rI0 fun i j => .int (i - j)) (tCall (spOf K S_many_atoms) [] E0 (tCons (tVar 0) tNil)) (tC (.int 1))) tNil)))))
def a_is_atom (K : Fg) (S_is_between : ASp) (S_many_atoms : ASp) : AS := (aRet (aCall S_is_between (aCons (aVar 1) (aCons (aC (.int 0)) (aCons (aOp (aI (fun _ _ => True) (gI fun i j => i - j)) (aCall S_many_atoms (aCons (aVar 0) aNil)) (aC (.int 1))) aNil)))))
theorem sc_is_atom : FnScope N_is_atom P_is_atom (defScope (top 35)) := ⟨rfl, rfl, rfl, by decide +kernel, rfl, by decide +kernel, by decide +kernel⟩
theorem jf_is_atom {P : Program} {w : World} {K : Fg} {mg : Str → Option Value} {base : Heap} {S_is_between : ASp} {S_many_atoms : ASp} {f : Addr} {cdv : Value} {A : Around} {outer : List Env} {s : Shared} {H : Hp} {E : XK} {lv : Nat} (T : Top K mg) (hr : Room lv (A.deeper (envOfC "is_atom" (defScope (top 35)) s.heap.objs.size f cdv))) {n_is_between : Nat} (c_is_between : Cal P w K mg base d_is_between (ad_is_between K) n_is_between P_is_between S_is_between) (h_is_between : n_is_between ≤ lv) {n_many_atoms : Nat} (c_many_atoms : Cal P w K mg base d_many_atoms (ad_many_atoms K) n_many_atoms P_many_atoms S_many_atoms) (h_many_atoms : n_many_atoms ≤ lv) :
    JSs (bX P w K mg base N_is_atom "is_atom" (defScope (top 35)) f cdv A outer s H E) (defBody (top 35)) (t_is_atom K S_is_between S_many_atoms) (a_is_atom K S_is_between S_many_atoms) := by
  have nd := sc_is_atom.nd
  have hu1 := hu1_of hr
  have hu64 := hu64_of hr
  have hu65 := hu65_of hr
  exact (jss_one (js_ret (j_callC c_is_between T.g_is_between b_is_between hr h_is_between rfl (ja_cons (jv 1) (ja_cons j_int (ja_cons (j_sub (j_callC c_many_atoms T.g_many_atoms b_many_atoms hr h_many_atoms rfl (ja_cons (jv 0) ja_nil)) j_int) ja_nil))))))
def t_need_atom (K : Fg) (S_is_atom : ASp) : TS := (tIfS (tNot (tB (tCall (spOf K S_is_atom) [] E0 (tCons (tVar 0) (tCons (tVar 1) tNil))))) tNever tNext)
def a_need_atom (K : Fg) (S_is_atom : ASp) : AS := (aIfS (aNot (aT (aCall S_is_atom (aCons (aVar 0) (aCons (aVar 1) aNil))))) aNever aNext)
theorem sc_need_atom : FnScope N_need_atom P_need_atom (defScope (top 36)) := ⟨rfl, rfl, rfl, by decide +kernel, rfl, by decide +kernel, by decide +kernel⟩
theorem jf_need_atom {P : Program} {w : World} {K : Fg} {mg : Str → Option Value} {base : Heap} {S_is_atom : ASp} {f : Addr} {cdv : Value} {A : Around} {outer : List Env} {s : Shared} {H : Hp} {E : XK} {lv : Nat} (T : Top K mg) (hr : Room lv (A.deeper (envOfC "need_atom" (defScope (top 36)) s.heap.objs.size f cdv))) {n_is_atom : Nat} (c_is_atom : Cal P w K mg base d_is_atom (ad_is_atom K) n_is_atom P_is_atom S_is_atom) (h_is_atom : n_is_atom ≤ lv) :
    JSs (bX P w K mg base N_need_atom "need_atom" (defScope (top 36)) f cdv A outer s H E) (defBody (top 36)) (t_need_atom K S_is_atom) (a_need_atom K S_is_atom) := by
  have nd := sc_need_atom.nd
  have hu1 := hu1_of hr
  have hu64 := hu64_of hr
  have hu65 := hu65_of hr
  exact (jss_one (js_if (jt_not (jt_val (j_callC c_is_atom T.g_is_atom b_is_atom hr h_is_atom rfl (ja_cons (jv 0) (ja_cons (jv 1) ja_nil))))) (jss_one js_never) jss_nil))
def t_is_deed (K : Fg) (S_Tongue_deeds : ASp) : TS := (tRet (tAndV (tCB (rIsiU K) (tCons (tVar 1) (tCons (tC (.ty "str")) tNil))) (tOp (rInU K false) (tVar 1) (tProp (He.ga K "Tongue") (spOf K S_Tongue_deeds) [] E0 (tVar 0)))))
def a_is_deed (K : Fg) (S_Tongue_deeds : ASp) : AS := (aRet (aAndV (aCB (on2 (fIsi K)) (aCons (aVar 1) (aCons (aC (.ty "str")) aNil))) (aOp (rd2 (fIn false)) (aVar 1) (aProp S_Tongue_deeds (He.ga K "Tongue") (aVar 0)))))
theorem sc_is_deed : FnScope N_is_deed P_is_deed (defScope (top 37)) := ⟨rfl, rfl, rfl, by decide +kernel, rfl, by decide +kernel, by decide +kernel⟩
theorem jf_is_deed {P : Program} {w : World} {K : Fg} {mg : Str → Option Value} {base : Heap} {S_Tongue_deeds : ASp} {f : Addr} {cdv : Value} {A : Around} {outer : List Env} {s : Shared} {H : Hp} {E : XK} {lv : Nat} (T : Top K mg) (hr : Room lv (A.deeper (envOfC "is_deed" (defScope (top 37)) s.heap.objs.size f cdv))) {n_Tongue_deeds : Nat} (c_Tongue_deeds : Cal P w K mg base d_Tongue_deeds (ad_Tongue_deeds K) n_Tongue_deeds P_Tongue_deeds S_Tongue_deeds) (h_Tongue_deeds : n_Tongue_deeds + 1 ≤ lv) :
    JSs (bX P w K mg base N_is_deed "is_deed" (defScope (top 37)) f cdv A outer s H E) (defBody (top 37)) (t_is_deed K S_Tongue_deeds) (a_is_deed K S_Tongue_deeds) := by
  have nd := sc_is_deed.nd
  have hu1 := hu1_of hr
  have hu64 := hu64_of hr
  have hu65 := hu65_of hr
  exact (jss_one (js_ret (j_and (j_callB c_isi rfl T.b_isinstance (by boot_by_name) (ja_cons (jv 1) (ja_cons (j_ty rfl T.b_str (by boot_by_name)) ja_nil))) (j_one (j_cmp (c_in hu65) (jv 1) (j_propC c_Tongue_deeds T.cls_Tongue b_Tongue_deeds T.p_Tongue_deeds hr h_Tongue_deeds (jv 0)))))))
def t_need_deed (K : Fg) (S_is_deed : ASp) : TS := (tIfS (tNot (tB (tCall (spOf K S_is_deed) [] E0 (tCons (tVar 0) (tCons (tVar 1) tNil))))) tNever tNext)
def a_need_deed (K : Fg) (S_is_deed : ASp) : AS := (aIfS (aNot (aT (aCall S_is_deed (aCons (aVar 0) (aCons (aVar 1) aNil))))) aNever aNext)
theorem sc_need_deed : FnScope N_need_deed P_need_deed (defScope (top 38)) := ⟨rfl, rfl, rfl, by decide +kernel, rfl, by decide +kernel, by decide +kernel⟩
theorem jf_need_deed {P : Program} {w : World} {K : Fg} {mg : Str → Option Value} {base : Heap} {S_is_deed : ASp} {f : Addr} {cdv : Value} {A : Around} {outer : List Env} {s : Shared} {H : Hp} {E : XK} {lv : Nat} (T : Top K mg) (hr : Room lv (A.deeper (envOfC "need_deed" (defScope (top 38)) s.heap.objs.size f cdv))) {n_is_deed : Nat} (c_is_deed : Cal P w K mg base d_is_deed (ad_is_deed K) n_is_deed P_is_deed S_is_deed) (h_is_deed : n_is_deed ≤ lv) :
    JSs (bX P w K mg base N_need_deed "need_deed" (defScope (top 38)) f cdv A outer s H E) (defBody (top 38)) (t_need_deed K S_is_deed) (a_need_deed K S_is_deed) := by
  have nd := sc_need_deed.nd
  have hu1 := hu1_of hr
  have hu64 := hu64_of hr
  have hu65 := hu65_of hr
  exact (jss_one (js_if (jt_not (jt_val (j_callC c_is_deed T.g_is_deed b_is_deed hr h_is_deed rfl (ja_cons (jv 0) (ja_cons (jv 1) ja_nil))))) (jss_one js_never) jss_nil))
def t_bars_atom (K : Fg) (S_holds_by : ASp) (S_Tongue_tests : ASp) : TS := (tRet (tAndV (tOp (rEqD K) (tOp (fun x y H Q => rIxU K x y H Q ∨ rIxD x y H Q) (tVar 1) (tC (.int 0))) (tC (.str "never"))) (tCall (spOf K S_holds_by) [] E0 (tCons (tProp (He.ga K "Tongue") (spOf K S_Tongue_tests) [] E0 (tVar 0)) (tCons (tOp (fun x y H Q => rIxU K x y H Q ∨ rIxD x y H Q) (tVar 1) (tC (.int 1))) (tCons (tVar 2) tNil))))))
def a_bars_atom (K : Fg) (S_holds_by : ASp) (S_Tongue_tests : ASp) : AS := (aRet (aAndV (aOp (rd2 (fEq false)) (aOp gIx (aVar 1) (aC (.int 0))) (aC (.str "never"))) (aCall S_holds_by (aCons (aProp S_Tongue_tests (He.ga K "Tongue") (aVar 0)) (aCons (aOp gIx (aVar 1) (aC (.int 1))) (aCons (aVar 2) aNil))))))
theorem sc_bars_atom : FnScope N_bars_atom P_bars_atom (defScope (top 40)) := ⟨rfl, rfl, rfl, by decide +kernel, rfl, by decide +kernel, by decide +kernel⟩
theorem jf_bars_atom {P : Program} {w : World} {K : Fg} {mg : Str → Option Value} {base : Heap} {S_holds_by : ASp} {S_Tongue_tests : ASp} {f : Addr} {cdv : Value} {A : Around} {outer : List Env} {s : Shared} {H : Hp} {E : XK} {lv : Nat} (T : Top K mg) (hr : Room lv (A.deeper (envOfC "bars_atom" (defScope (top 40)) s.heap.objs.size f cdv))) {n_holds_by : Nat} (c_holds_by : Cal P w K mg base d_holds_by (ad_holds_by K) n_holds_by P_holds_by S_holds_by) (h_holds_by : n_holds_by ≤ lv) {n_Tongue_tests : Nat} (c_Tongue_tests : Cal P w K mg base d_Tongue_tests (ad_Tongue_tests K) n_Tongue_tests P_Tongue_tests S_Tongue_tests) (h_Tongue_tests : n_Tongue_tests + 1 ≤ lv) :
    JSs (bX P w K mg base N_bars_atom "bars_atom" (defScope (top 40)) f cdv A outer s H E) (defBody (top 40)) (t_bars_atom K S_holds_by S_Tongue_tests) (a_bars_atom K S_holds_by S_Tongue_tests) := by
  have nd := sc_bars_atom.nd
  have hu1 := hu1_of hr
  have hu64 := hu64_of hr
  have hu65 := hu65_of hr
  exact (jss_one (js_ret (j_and (j_cmp (c_eq hu64) (j_ix hu1 (jv 1) j_int) j_str) (j_one (j_callC c_holds_by T.g_holds_by b_holds_by hr h_holds_by rfl (ja_cons (j_propC c_Tongue_tests T.cls_Tongue b_Tongue_tests T.p_Tongue_tests hr h_Tongue_tests (jv 0)) (ja_cons (j_ix hu1 (jv 1) j_int) (ja_cons (jv 2) ja_nil))))))))
def t_bars_step (K : Fg) (S_holds_by : ASp) (S_Tongue_tests : ASp) : TS := (tSeq (tIfS (tOr (tTest (tOp (rEqD K) (tOp (fun x y H Q => rIxU K x y H Q ∨ rIxD x y H Q) (tVar 1) (tC (.int 0))) (tC (.str "never")))) (tTest (tOp (rNeD K) (tOp (fun x y H Q => rIxU K x y H Q ∨ rIxD x y H Q) (tVar 1) (tC (.int 1))) (tVar 3)))) (tRet (tC (.bl false))) tNext)
  (tSeq (tPar 5 6 (tCons (tCall (spOf K S_holds_by) [] E0 (tCons (tProp (He.ga K "Tongue") (spOf K S_Tongue_tests) [] E0 (tVar 0)) (tCons (tOp (fun x y H Q => rIxU K x y H Q ∨ rIxD x y H Q) (tVar 1) (tC (.int 2))) (tCons (tVar 2) tNil)))) (tCons (tCall (spOf K S_holds_by) [] E0 (tCons (tProp (He.ga K "Tongue") (spOf K S_Tongue_tests) [] E0 (tVar 0)) (tCons (tOp (fun x y H Q => rIxU K x y H Q ∨ rIxD x y H Q) (tVar 1) (tC (.int 2))) (tCons (tVar 4) tNil)))) tNil)))
  (tSeq (tIfS (tTest (tOp (rEqD K) (tOp (fun x y H Q => rIxU K x y H Q ∨ rIxD x y H Q) (tVar 1) (tC (.int 0))) (tC (.str "refused")))) (tRet (tVar 5)) tNext)
  (tRet (tIf (tTest (tOp (rEqD K) (tOp (fun x y H Q => rIxU K x y H Q ∨ rIxD x y H Q) (tVar 1) (tC (.int 0))) (tC (.str "makes")))) (tNotV (tVar 6)) (tOp (rNeD K) (tVar 5) (tVar 6)))))))
def a_bars_step (K : Fg) (S_holds_by : ASp) (S_Tongue_tests : ASp) : AS := (aSeq (aIfS (aOr (aT (aOp (rd2 (fEq false)) (aOp gIx (aVar 1) (aC (.int 0))) (aC (.str "never")))) (aT (aOp (rd2 (fEq true)) (aOp gIx (aVar 1) (aC (.int 1))) (aVar 3)))) (aRet (aC (.bl false))) aNext)
  (aSeq (aPar 5 6 (aCons (aCall S_holds_by (aCons (aProp S_Tongue_tests (He.ga K "Tongue") (aVar 0)) (aCons (aOp gIx (aVar 1) (aC (.int 2))) (aCons (aVar 2) aNil)))) (aCons (aCall S_holds_by (aCons (aProp S_Tongue_tests (He.ga K "Tongue") (aVar 0)) (aCons (aOp gIx (aVar 1) (aC (.int 2))) (aCons (aVar 4) aNil)))) aNil)))
  (aSeq (aIfS (aT (aOp (rd2 (fEq false)) (aOp gIx (aVar 1) (aC (.int 0))) (aC (.str "refused")))) (aRet (aVar 5)) aNext)
  (aRet (aIfE (aT (aOp (rd2 (fEq false)) (aOp gIx (aVar 1) (aC (.int 0))) (aC (.str "makes")))) (aNotV (aVar 6)) (aOp (rd2 (fEq true)) (aVar 5) (aVar 6)))))))
theorem sc_bars_step : FnScope N_bars_step P_bars_step (defScope (top 41)) := ⟨rfl, rfl, rfl, by decide +kernel, rfl, by decide +kernel, by decide +kernel⟩
theorem jf_bars_step {P : Program} {w : World} {K : Fg} {mg : Str → Option Value} {base : Heap} {S_holds_by : ASp} {S_Tongue_tests : ASp} {f : Addr} {cdv : Value} {A : Around} {outer : List Env} {s : Shared} {H : Hp} {E : XK} {lv : Nat} (T : Top K mg) (hr : Room lv (A.deeper (envOfC "bars_step" (defScope (top 41)) s.heap.objs.size f cdv))) {n_holds_by : Nat} (c_holds_by : Cal P w K mg base d_holds_by (ad_holds_by K) n_holds_by P_holds_by S_holds_by) (h_holds_by : n_holds_by ≤ lv) {n_Tongue_tests : Nat} (c_Tongue_tests : Cal P w K mg base d_Tongue_tests (ad_Tongue_tests K) n_Tongue_tests P_Tongue_tests S_Tongue_tests) (h_Tongue_tests : n_Tongue_tests + 1 ≤ lv) :
    JSs (bX P w K mg base N_bars_step "bars_step" (defScope (top 41)) f cdv A outer s H E) (defBody (top 41)) (t_bars_step K S_holds_by S_Tongue_tests) (a_bars_step K S_holds_by S_Tongue_tests) := by
  have nd := sc_bars_step.nd
  have hu1 := hu1_of hr
  have hu64 := hu64_of hr
  have hu65 := hu65_of hr
  exact (jss_cons (js_if (JW.jt (jw_or (jt_cmp (c_eq hu64) (j_ix hu1 (jv 1) j_int) j_str) (jw_or1 (jt_cmp (c_ne hu64) (j_ix hu1 (jv 1) j_int) (jv 3))))) (jss_one (js_ret j_bl)) jss_nil)
  (jss_cons (js_par 5 6 rfl nd (ja_cons (j_callC c_holds_by T.g_holds_by b_holds_by hr h_holds_by rfl (ja_cons (j_propC c_Tongue_tests T.cls_Tongue b_Tongue_tests T.p_Tongue_tests hr h_Tongue_tests (jv 0)) (ja_cons (j_ix hu1 (jv 1) j_int) (ja_cons (jv 2) ja_nil)))) (ja_cons (j_callC c_holds_by T.g_holds_by b_holds_by hr h_holds_by rfl (ja_cons (j_propC c_Tongue_tests T.cls_Tongue b_Tongue_tests T.p_Tongue_tests hr h_Tongue_tests (jv 0)) (ja_cons (j_ix hu1 (jv 1) j_int) (ja_cons (jv 4) ja_nil)))) ja_nil)))
  (jss_cons (js_if (jt_cmp (c_eq hu64) (j_ix hu1 (jv 1) j_int) j_str) (jss_one (js_ret (jv 5))) jss_nil)
  (jss_one (js_ret (j_if (jt_cmp (c_eq hu64) (j_ix hu1 (jv 1) j_int) j_str) (j_not (jv 6)) (j_cmp (c_ne hu64) (jv 5) (jv 6))))))))
def t_is_open (K : Fg) (S_Tongue_facts : ASp) (S_bars_atom : ASp) : TS := (tRet (tNotV (tCB (rAny K) (tCons (tLc (iSeq K (tProp (He.ga K "Tongue") (spOf K S_Tongue_facts) [] E0 (tVar 0))) (gName 2) tYes (tCall (spOf K S_bars_atom) [] E0 (tCons (tVar 0) (tCons (tVar 2) (tCons (tVar 1) tNil)))) [2]) tNil))))
def a_is_open (K : Fg) (S_Tongue_facts : ASp) (S_bars_atom : ASp) : AS := (aRet (aNotV (aCB (on1 (fBools fun bs => bs.any fun b => b)) (aCons (aLc (aSeqI (aProp S_Tongue_facts (He.ga K "Tongue") (aVar 0))) (aGn 2) aYes (aCall S_bars_atom (aCons (aVar 0) (aCons (aVar 2) (aCons (aVar 1) aNil)))) [2]) aNil))))
theorem sc_is_open : FnScope N_is_open P_is_open (defScope (top 42)) := ⟨rfl, rfl, rfl, by decide +kernel, rfl, by decide +kernel, by decide +kernel⟩
theorem jf_is_open {P : Program} {w : World} {K : Fg} {mg : Str → Option Value} {base : Heap} {S_Tongue_facts : ASp} {S_bars_atom : ASp} {f : Addr} {cdv : Value} {A : Around} {outer : List Env} {s : Shared} {H : Hp} {E : XK} {lv : Nat} (T : Top K mg) (hr : Room lv (A.deeper (envOfC "is_open" (defScope (top 42)) s.heap.objs.size f cdv))) {n_Tongue_facts : Nat} (c_Tongue_facts : Cal P w K mg base d_Tongue_facts (ad_Tongue_facts K) n_Tongue_facts P_Tongue_facts S_Tongue_facts) (h_Tongue_facts : n_Tongue_facts + 1 ≤ lv) {n_bars_atom : Nat} (c_bars_atom : Cal P w K mg base d_bars_atom (ad_bars_atom K) n_bars_atom P_bars_atom S_bars_atom) (h_bars_atom : n_bars_atom ≤ lv) :
    JSs (bX P w K mg base N_is_open "is_open" (defScope (top 42)) f cdv A outer s H E) (defBody (top 42)) (t_is_open K S_Tongue_facts S_bars_atom) (a_is_open K S_Tongue_facts S_bars_atom) := by
  have nd := sc_is_open.nd
  have hu1 := hu1_of hr
  have hu64 := hu64_of hr
  have hu65 := hu65_of hr
  exact (jss_one (js_ret (j_not (j_callB (c_any rfl) rfl T.b_any (by boot_by_name) (ja_cons (j_lc (own := [("fact", 2)]) rfl nd (ji_seq (j_propC c_Tongue_facts T.cls_Tongue b_Tongue_facts T.p_Tongue_facts hr h_Tongue_facts (jv 0))) (blkOk_by (by kernel_rfl)) (fun _ _ _ _ _ => (jg_name 2 nd)) (go_name) (fun _ _ _ _ _ => jts_nil) (fun _ _ _ _ _ => (j_callC c_bars_atom T.g_bars_atom b_bars_atom hr h_bars_atom rfl (ja_cons (jv 0) (ja_cons (jv 2) (ja_cons (jv 1) ja_nil)))))) ja_nil)))))
def t_bar_of (K : Fg) (S_Tongue_facts : ASp) (S_bars_atom : ASp) (S_bars_step : ASp) : TS := (tSeq (tFor (iEnumU K (tCons (tProp (He.ga K "Tongue") (spOf K S_Tongue_facts) [] E0 (tVar 0)) tNil)) (gTup K 2 (gCons (gName 4) (gCons (gName 5) gNil))) (tSeq (tIfS (tOr (tB (tCall (spOf K S_bars_atom) [] E0 (tCons (tVar 0) (tCons (tVar 5) (tCons (tVar 1) tNil))))) (tB (tCall (spOf K S_bars_atom) [] E0 (tCons (tVar 0) (tCons (tVar 5) (tCons (tVar 3) tNil)))))) (tRet (tVar 4)) tNext)
  (tIfS (tB (tCall (spOf K S_bars_step) [] E0 (tCons (tVar 0) (tCons (tVar 5) (tCons (tVar 1) (tCons (tVar 2) (tCons (tVar 3) tNil))))))) (tRet (tVar 4)) tNext)))
  (tRet (tC .non)))
def a_bar_of (K : Fg) (S_Tongue_facts : ASp) (S_bars_atom : ASp) (S_bars_step : ASp) : AS := (aSeq (aFor (aEnumI (aCons (aFz (aProp S_Tongue_facts (He.ga K "Tongue") (aVar 0))) aNil)) (aGtup 2 (aGcons (aGn 4) (aGcons (aGn 5) aGnil))) (aSeq (aIfS (aOr (aT (aCall S_bars_atom (aCons (aVar 0) (aCons (aVar 5) (aCons (aVar 1) aNil))))) (aT (aCall S_bars_atom (aCons (aVar 0) (aCons (aVar 5) (aCons (aVar 3) aNil)))))) (aRet (aVar 4)) aNext)
  (aIfS (aT (aCall S_bars_step (aCons (aVar 0) (aCons (aVar 5) (aCons (aVar 1) (aCons (aVar 2) (aCons (aVar 3) aNil))))))) (aRet (aVar 4)) aNext)))
  (aRet (aC .non)))
theorem sc_bar_of : FnScope N_bar_of P_bar_of (defScope (top 43)) := ⟨rfl, rfl, rfl, by decide +kernel, rfl, by decide +kernel, by decide +kernel⟩
theorem jf_bar_of {P : Program} {w : World} {K : Fg} {mg : Str → Option Value} {base : Heap} {S_Tongue_facts : ASp} {S_bars_atom : ASp} {S_bars_step : ASp} {f : Addr} {cdv : Value} {A : Around} {outer : List Env} {s : Shared} {H : Hp} {E : XK} {lv : Nat} (T : Top K mg) (hr : Room lv (A.deeper (envOfC "bar_of" (defScope (top 43)) s.heap.objs.size f cdv))) {n_Tongue_facts : Nat} (c_Tongue_facts : Cal P w K mg base d_Tongue_facts (ad_Tongue_facts K) n_Tongue_facts P_Tongue_facts S_Tongue_facts) (h_Tongue_facts : n_Tongue_facts + 1 ≤ lv) {n_bars_atom : Nat} (c_bars_atom : Cal P w K mg base d_bars_atom (ad_bars_atom K) n_bars_atom P_bars_atom S_bars_atom) (h_bars_atom : n_bars_atom ≤ lv) {n_bars_step : Nat} (c_bars_step : Cal P w K mg base d_bars_step (ad_bars_step K) n_bars_step P_bars_step S_bars_step) (h_bars_step : n_bars_step ≤ lv) :
    JSs (bX P w K mg base N_bar_of "bar_of" (defScope (top 43)) f cdv A outer s H E) (defBody (top 43)) (t_bar_of K S_Tongue_facts S_bars_atom S_bars_step) (a_bar_of K S_Tongue_facts S_bars_atom S_bars_step) := by
  have nd := sc_bar_of.nd
  have hu1 := hu1_of hr
  have hu64 := hu64_of hr
  have hu65 := hu65_of hr
  exact (jss_cons (js_for PassesOwn.never rfl (ji_enum rfl T.b_enumerate (ja_cons (jf (j_propC c_Tongue_facts T.cls_Tongue b_Tongue_facts T.p_Tongue_facts hr h_Tongue_facts (jv 0))) ja_nil)) (jg_tup rfl (jgs_cons (jg_name 4 nd) (jgs_cons (jg_name 5 nd) jgs_nil))) (jss_cons (js_if (JW.jt (jw_or (jt_val (j_callC c_bars_atom T.g_bars_atom b_bars_atom hr h_bars_atom rfl (ja_cons (jv 0) (ja_cons (jv 5) (ja_cons (jv 1) ja_nil))))) (jw_or1 (jt_val (j_callC c_bars_atom T.g_bars_atom b_bars_atom hr h_bars_atom rfl (ja_cons (jv 0) (ja_cons (jv 5) (ja_cons (jv 3) ja_nil)))))))) (jss_one (js_ret (jv 4))) jss_nil)
  (jss_one (js_if (jt_val (j_callC c_bars_step T.g_bars_step b_bars_step hr h_bars_step rfl (ja_cons (jv 0) (ja_cons (jv 5) (ja_cons (jv 1) (ja_cons (jv 2) (ja_cons (jv 3) ja_nil))))))) (jss_one (js_ret (jv 4))) jss_nil))))
  (jss_one (js_ret j_non)))
def t_open_lot (K : Fg) (S_many_atoms : ASp) (S_is_open : ASp) : TS := (tRet (tCB (rTupOf K) (tCons (tLc (iRng1 (tCons (tCall (spOf K S_many_atoms) [] E0 (tCons (tVar 0) tNil)) tNil)) (gName 1) (tB (tCall (spOf K S_is_open) [] E0 (tCons (tVar 0) (tCons (tVar 1) tNil)))) (tVar 1) [1]) tNil)))
def a_open_lot (K : Fg) (S_many_atoms : ASp) (S_is_open : ASp) : AS := (aRet (aCB (on1 fTup) (aCons (aLc (aRng1 (aCons (aCall S_many_atoms (aCons (aVar 0) aNil)) aNil)) (aGn 1) (aT (aCall S_is_open (aCons (aVar 0) (aCons (aVar 1) aNil)))) (aVar 1) [1]) aNil)))
theorem sc_open_lot : FnScope N_open_lot P_open_lot (defScope (top 44)) := ⟨rfl, rfl, rfl, by decide +kernel, rfl, by decide +kernel, by decide +kernel⟩
theorem jf_open_lot {P : Program} {w : World} {K : Fg} {mg : Str → Option Value} {base : Heap} {S_many_atoms : ASp} {S_is_open : ASp} {f : Addr} {cdv : Value} {A : Around} {outer : List Env} {s : Shared} {H : Hp} {E : XK} {lv : Nat} (T : Top K mg) (hr : Room lv (A.deeper (envOfC "open_lot" (defScope (top 44)) s.heap.objs.size f cdv))) {n_many_atoms : Nat} (c_many_atoms : Cal P w K mg base d_many_atoms (ad_many_atoms K) n_many_atoms P_many_atoms S_many_atoms) (h_many_atoms : n_many_atoms ≤ lv) {n_is_open : Nat} (c_is_open : Cal P w K mg base d_is_open (ad_is_open K) n_is_open P_is_open S_is_open) (h_is_open : n_is_open ≤ lv) :
    JSs (bX P w K mg base N_open_lot "open_lot" (defScope (top 44)) f cdv A outer s H E) (defBody (top 44)) (t_open_lot K S_many_atoms S_is_open) (a_open_lot K S_many_atoms S_is_open) := by
  have nd := sc_open_lot.nd
  have hu1 := hu1_of hr
  have hu64 := hu64_of hr
  have hu65 := hu65_of hr
  exact (jss_one (js_ret (j_callTy c_tup rfl T.b_tuple (by boot_by_name) (ja_cons (j_lc (own := [("atom", 1)]) rfl nd (ji_range1 rfl T.b_range (ja_cons (j_callC c_many_atoms T.g_many_atoms b_many_atoms hr h_many_atoms rfl (ja_cons (jv 0) ja_nil)) ja_nil)) (blkOk_by (by kernel_rfl)) (fun _ _ _ _ _ => (jg_name 1 nd)) (go_name) (fun _ _ _ _ _ => (jts_one (jt_val (j_callC c_is_open T.g_is_open b_is_open hr h_is_open rfl (ja_cons (jv 0) (ja_cons (jv 1) ja_nil)))))) (fun _ _ _ _ _ => (jv 1))) ja_nil))))
def t_lot_after (K : Fg) (S_many_atoms : ASp) (S_bar_of : ASp) : TS := (tRet (tCB (rTupOf K) (tCons (tLc (iRng1 (tCons (tCall (spOf K S_many_atoms) [] E0 (tCons (tVar 0) tNil)) tNil)) (gName 3) (tTest (tOp rIsN (tCall (spOf K S_bar_of) [] E0 (tCons (tVar 0) (tCons (tVar 1) (tCons (tVar 2) (tCons (tVar 3) tNil))))) (tC .non))) (tVar 3) [3]) tNil)))
def a_lot_after (K : Fg) (S_many_atoms : ASp) (S_bar_of : ASp) : AS := (aRet (aCB (on1 fTup) (aCons (aLc (aRng1 (aCons (aCall S_many_atoms (aCons (aVar 0) aNil)) aNil)) (aGn 3) (aT (aOp (rd2 (fIs false)) (aCall S_bar_of (aCons (aVar 0) (aCons (aVar 1) (aCons (aVar 2) (aCons (aVar 3) aNil))))) (aC .non))) (aVar 3) [3]) aNil)))
theorem sc_lot_after : FnScope N_lot_after P_lot_after (defScope (top 45)) := ⟨rfl, rfl, rfl, by decide +kernel, rfl, by decide +kernel, by decide +kernel⟩
theorem jf_lot_after {P : Program} {w : World} {K : Fg} {mg : Str → Option Value} {base : Heap} {S_many_atoms : ASp} {S_bar_of : ASp} {f : Addr} {cdv : Value} {A : Around} {outer : List Env} {s : Shared} {H : Hp} {E : XK} {lv : Nat} (T : Top K mg) (hr : Room lv (A.deeper (envOfC "lot_after" (defScope (top 45)) s.heap.objs.size f cdv))) {n_many_atoms : Nat} (c_many_atoms : Cal P w K mg base d_many_atoms (ad_many_atoms K) n_many_atoms P_many_atoms S_many_atoms) (h_many_atoms : n_many_atoms ≤ lv) {n_bar_of : Nat} (c_bar_of : Cal P w K mg base d_bar_of (ad_bar_of K) n_bar_of P_bar_of S_bar_of) (h_bar_of : n_bar_of ≤ lv) :
    JSs (bX P w K mg base N_lot_after "lot_after" (defScope (top 45)) f cdv A outer s H E) (defBody (top 45)) (t_lot_after K S_many_atoms S_bar_of) (a_lot_after K S_many_atoms S_bar_of) := by
  have nd := sc_lot_after.nd
  have hu1 := hu1_of hr
  have hu64 := hu64_of hr
  have hu65 := hu65_of hr
  exact (jss_one (js_ret (j_callTy c_tup rfl T.b_tuple (by boot_by_name) (ja_cons (j_lc (own := [("other", 3)]) rfl nd (ji_range1 rfl T.b_range (ja_cons (j_callC c_many_atoms T.g_many_atoms b_many_atoms hr h_many_atoms rfl (ja_cons (jv 0) ja_nil)) ja_nil)) (blkOk_by (by kernel_rfl)) (fun _ _ _ _ _ => (jg_name 3 nd)) (go_name) (fun _ _ _ _ _ => (jts_one (jt_cmp c_is (j_callC c_bar_of T.g_bar_of b_bar_of hr h_bar_of rfl (ja_cons (jv 0) (ja_cons (jv 1) (ja_cons (jv 2) (ja_cons (jv 3) ja_nil))))) j_non))) (fun _ _ _ _ _ => (jv 3))) ja_nil))))
def t_is_kept (K : Fg) (S_open_lot : ASp) (S_bars_atom : ASp) (S_lot_after : ASp) (S_bars_step : ASp) : TS := (tSeq (tIfS (tTest (tOp (rEqD K) (tOp (fun x y H Q => rIxU K x y H Q ∨ rIxD x y H Q) (tVar 1) (tC (.int 0))) (tC (.str "never")))) (tRet (tNotV (tCB (rAny K) (tCons (tLc (iSeq K (tCall (spOf K S_open_lot) [] E0 (tCons (tVar 0) tNil))) (gName 2) tYes (tCall (spOf K S_bars_atom) [] E0 (tCons (tVar 0) (tCons (tVar 1) (tCons (tVar 2) tNil)))) [2]) tNil)))) tNext)
  (tSeq (tFor (iSeq K (tCall (spOf K S_open_lot) [] E0 (tCons (tVar 0) tNil))) (gName 2) (tIfS (tB (tCB (rAny K) (tCons (tLc (iSeq K (tCall (spOf K S_lot_after) [] E0 (tCons (tVar 0) (tCons (tVar 2) (tCons (tOp (fun x y H Q => rIxU K x y H Q ∨ rIxD x y H Q) (tVar 1) (tC (.int 1))) tNil))))) (gName 3) tYes (tCall (spOf K S_bars_step) [] E0 (tCons (tVar 0) (tCons (tVar 1) (tCons (tVar 2) (tCons (tOp (fun x y H Q => rIxU K x y H Q ∨ rIxD x y H Q) (tVar 1) (tC (.int 1))) (tCons (tVar 3) tNil)))))) [3]) tNil))) (tRet (tC (.bl false))) tNext))
  (tRet (tC (.bl true)))))
def a_is_kept (K : Fg) (S_open_lot : ASp) (S_bars_atom : ASp) (S_lot_after : ASp) (S_bars_step : ASp) : AS := (aSeq (aIfS (aT (aOp (rd2 (fEq false)) (aOp gIx (aVar 1) (aC (.int 0))) (aC (.str "never")))) (aRet (aNotV (aCB (on1 (fBools fun bs => bs.any fun b => b)) (aCons (aLc (aSeqI (aCall S_open_lot (aCons (aVar 0) aNil))) (aGn 2) aYes (aCall S_bars_atom (aCons (aVar 0) (aCons (aVar 1) (aCons (aVar 2) aNil)))) [2]) aNil)))) aNext)
  (aSeq (aFor (aSeqI (aCall S_open_lot (aCons (aVar 0) aNil))) (aGn 2) (aIfS (aT (aCB (on1 (fBools fun bs => bs.any fun b => b)) (aCons (aLc (aSeqI (aCall S_lot_after (aCons (aVar 0) (aCons (aVar 2) (aCons (aOp gIx (aVar 1) (aC (.int 1))) aNil))))) (aGn 3) aYes (aCall S_bars_step (aCons (aVar 0) (aCons (aVar 1) (aCons (aVar 2) (aCons (aOp gIx (aVar 1) (aC (.int 1))) (aCons (aVar 3) aNil)))))) [3]) aNil))) (aRet (aC (.bl false))) aNext))
  (aRet (aC (.bl true)))))
theorem sc_is_kept : FnScope N_is_kept P_is_kept (defScope (top 47)) := ⟨rfl, rfl, rfl, by decide +kernel, rfl, by decide +kernel, by decide +kernel⟩
theorem jf_is_kept {P : Program} {w : World} {K : Fg} {mg : Str → Option Value} {base : Heap} {S_open_lot : ASp} {S_bars_atom : ASp} {S_lot_after : ASp} {S_bars_step : ASp} {f : Addr} {cdv : Value} {A : Around} {outer : List Env} {s : Shared} {H : Hp} {E : XK} {lv : Nat} (T : Top K mg) (hr : Room lv (A.deeper (envOfC "is_kept" (defScope (top 47)) s.heap.objs.size f cdv))) {n_open_lot : Nat} (c_open_lot : Cal P w K mg base d_open_lot (ad_open_lot K) n_open_lot P_open_lot S_open_lot) (h_open_lot : n_open_lot ≤ lv) {n_bars_atom : Nat} (c_bars_atom : Cal P w K mg base d_bars_atom (ad_bars_atom K) n_bars_atom P_bars_atom S_bars_atom) (h_bars_atom : n_bars_atom ≤ lv) {n_lot_after : Nat} (c_lot_after : Cal P w K mg base d_lot_after (ad_lot_after K) n_lot_after P_lot_after S_lot_after) (h_lot_after : n_lot_after ≤ lv) {n_bars_step : Nat} (c_bars_step : Cal P w K mg base d_bars_step (ad_bars_step K) n_bars_step P_bars_step S_bars_step) (h_bars_step : n_bars_step ≤ lv) :
    JSs (bX P w K mg base N_is_kept "is_kept" (defScope (top 47)) f cdv A outer s H E) (defBody (top 47)) (t_is_kept K S_open_lot S_bars_atom S_lot_after S_bars_step) (a_is_kept K S_open_lot S_bars_atom S_lot_after S_bars_step) := by
  have nd := sc_is_kept.nd
  have hu1 := hu1_of hr
  have hu64 := hu64_of hr
  have hu65 := hu65_of hr
  exact (jss_cons (js_if (jt_cmp (c_eq hu64) (j_ix hu1 (jv 1) j_int) j_str) (jss_one (js_ret (j_not (j_callB (c_any rfl) rfl T.b_any (by boot_by_name) (ja_cons (j_lc (own := [("atom", 2)]) rfl nd (ji_seq (j_callC c_open_lot T.g_open_lot b_open_lot hr h_open_lot rfl (ja_cons (jv 0) ja_nil))) (blkOk_by (by kernel_rfl)) (fun _ _ _ _ _ => (jg_name 2 nd)) (go_name) (fun _ _ _ _ _ => jts_nil) (fun _ _ _ _ _ => (j_callC c_bars_atom T.g_bars_atom b_bars_atom hr h_bars_atom rfl (ja_cons (jv 0) (ja_cons (jv 1) (ja_cons (jv 2) ja_nil)))))) ja_nil))))) jss_nil)
  (jss_cons (js_for PassesOwn.never rfl (ji_seq (j_callC c_open_lot T.g_open_lot b_open_lot hr h_open_lot rfl (ja_cons (jv 0) ja_nil))) (jg_name 2 nd) (jss_one (js_if (jt_val (j_callB (c_any rfl) rfl T.b_any (by boot_by_name) (ja_cons (j_lc (own := [("other", 3)]) rfl nd (ji_seq (j_callC c_lot_after T.g_lot_after b_lot_after hr h_lot_after rfl (ja_cons (jv 0) (ja_cons (jv 2) (ja_cons (j_ix hu1 (jv 1) j_int) ja_nil))))) (blkOk_by (by kernel_rfl)) (fun _ _ _ _ _ => (jg_name 3 nd)) (go_name) (fun _ _ _ _ _ => jts_nil) (fun _ _ _ _ _ => (j_callC c_bars_step T.g_bars_step b_bars_step hr h_bars_step rfl (ja_cons (jv 0) (ja_cons (jv 1) (ja_cons (jv 2) (ja_cons (j_ix hu1 (jv 1) j_int) (ja_cons (jv 3) ja_nil)))))))) ja_nil))) (jss_one (js_ret j_bl)) jss_nil)))
  (jss_one (js_ret j_bl))))
def t_open_atoms (K : Fg) (S_need_tongue : ASp) (S_open_lot : ASp) : TS := (tSeq (tDrop (tCall (spOf K S_need_tongue) [] E0 (tCons (tVar 0) tNil)))
  (tRet (tCall (spOf K S_open_lot) [] E0 (tCons (tVar 0) tNil))))
def a_open_atoms (K : Fg) (S_need_tongue : ASp) (S_open_lot : ASp) : AS := (aSeq (aDrop (aCall S_need_tongue (aCons (aVar 0) aNil)))
  (aRet (aCall S_open_lot (aCons (aVar 0) aNil))))
theorem sc_open_atoms : FnScope N_open_atoms P_open_atoms (defScope (top 48)) := ⟨rfl, rfl, rfl, by decide +kernel, rfl, by decide +kernel, by decide +kernel⟩
theorem jf_open_atoms {P : Program} {w : World} {K : Fg} {mg : Str → Option Value} {base : Heap} {S_need_tongue : ASp} {S_open_lot : ASp} {f : Addr} {cdv : Value} {A : Around} {outer : List Env} {s : Shared} {H : Hp} {E : XK} {lv : Nat} (T : Top K mg) (hr : Room lv (A.deeper (envOfC "open_atoms" (defScope (top 48)) s.heap.objs.size f cdv))) {n_need_tongue : Nat} (c_need_tongue : Cal P w K mg base d_need_tongue (ad_need_tongue K) n_need_tongue P_need_tongue S_need_tongue) (h_need_tongue : n_need_tongue ≤ lv) {n_open_lot : Nat} (c_open_lot : Cal P w K mg base d_open_lot (ad_open_lot K) n_open_lot P_open_lot S_open_lot) (h_open_lot : n_open_lot ≤ lv) :
    JSs (bX P w K mg base N_open_atoms "open_atoms" (defScope (top 48)) f cdv A outer s H E) (defBody (top 48)) (t_open_atoms K S_need_tongue S_open_lot) (a_open_atoms K S_need_tongue S_open_lot) := by
  have nd := sc_open_atoms.nd
  have hu1 := hu1_of hr
  have hu64 := hu64_of hr
  have hu65 := hu65_of hr
  exact (jss_cons (js_expr (j_callC c_need_tongue T.g_need_tongue b_need_tongue hr h_need_tongue rfl (ja_cons (jv 0) ja_nil)))
  (jss_one (js_ret (j_callC c_open_lot T.g_open_lot b_open_lot hr h_open_lot rfl (ja_cons (jv 0) ja_nil)))))
def t_open_after (K : Fg) (S_need_tongue : ASp) (S_need_atom : ASp) (S_need_deed : ASp) (S_lot_after : ASp) : TS := (tSeq (tDrop (tCall (spOf K S_need_tongue) [] E0 (tCons (tVar 0) tNil)))
  (tSeq (tDrop (tCall (spOf K S_need_atom) [] E0 (tCons (tVar 0) (tCons (tVar 1) tNil))))
  (tSeq (tDrop (tCall (spOf K S_need_deed) [] E0 (tCons (tVar 0) (tCons (tVar 2) tNil))))
  (tRet (tCall (spOf K S_lot_after) [] E0 (tCons (tVar 0) (tCons (tVar 1) (tCons (tVar 2) tNil))))))))
def a_open_after (K : Fg) (S_need_tongue : ASp) (S_need_atom : ASp) (S_need_deed : ASp) (S_lot_after : ASp) : AS := (aSeq (aDrop (aCall S_need_tongue (aCons (aVar 0) aNil)))
  (aSeq (aDrop (aCall S_need_atom (aCons (aVar 0) (aCons (aVar 1) aNil))))
  (aSeq (aDrop (aCall S_need_deed (aCons (aVar 0) (aCons (aVar 2) aNil))))
  (aRet (aCall S_lot_after (aCons (aVar 0) (aCons (aVar 1) (aCons (aVar 2) aNil))))))))
theorem sc_open_after : FnScope N_open_after P_open_after (defScope (top 49)) := ⟨rfl, rfl, rfl, by decide +kernel, rfl, by decide +kernel, by decide +kernel⟩
theorem jf_open_after {P : Program} {w : World} {K : Fg} {mg : Str → Option Value} {base : Heap} {S_need_tongue : ASp} {S_need_atom : ASp} {S_need_deed : ASp} {S_lot_after : ASp} {f : Addr} {cdv : Value} {A : Around} {outer : List Env} {s : Shared} {H : Hp} {E : XK} {lv : Nat} (T : Top K mg) (hr : Room lv (A.deeper (envOfC "open_after" (defScope (top 49)) s.heap.objs.size f cdv))) {n_need_tongue : Nat} (c_need_tongue : Cal P w K mg base d_need_tongue (ad_need_tongue K) n_need_tongue P_need_tongue S_need_tongue) (h_need_tongue : n_need_tongue ≤ lv) {n_need_atom : Nat} (c_need_atom : Cal P w K mg base d_need_atom (ad_need_atom K) n_need_atom P_need_atom S_need_atom) (h_need_atom : n_need_atom ≤ lv) {n_need_deed : Nat} (c_need_deed : Cal P w K mg base d_need_deed (ad_need_deed K) n_need_deed P_need_deed S_need_deed) (h_need_deed : n_need_deed ≤ lv) {n_lot_after : Nat} (c_lot_after : Cal P w K mg base d_lot_after (ad_lot_after K) n_lot_after P_lot_after S_lot_after) (h_lot_after : n_lot_after ≤ lv) :
    JSs (bX P w K mg base N_open_after "open_after" (defScope (top 49)) f cdv A outer s H E) (defBody (top 49)) (t_open_after K S_need_tongue S_need_atom S_need_deed S_lot_after) (a_open_after K S_need_tongue S_need_atom S_need_deed S_lot_after) := by
  have nd := sc_open_after.nd
  have hu1 := hu1_of hr
  have hu64 := hu64_of hr
  have hu65 := hu65_of hr
  exact (jss_cons (js_expr (j_callC c_need_tongue T.g_need_tongue b_need_tongue hr h_need_tongue rfl (ja_cons (jv 0) ja_nil)))
  (jss_cons (js_expr (j_callC c_need_atom T.g_need_atom b_need_atom hr h_need_atom rfl (ja_cons (jv 0) (ja_cons (jv 1) ja_nil))))
  (jss_cons (js_expr (j_callC c_need_deed T.g_need_deed b_need_deed hr h_need_deed rfl (ja_cons (jv 0) (ja_cons (jv 2) ja_nil))))
  (jss_one (js_ret (j_callC c_lot_after T.g_lot_after b_lot_after hr h_lot_after rfl (ja_cons (jv 0) (ja_cons (jv 1) (ja_cons (jv 2) ja_nil)))))))))
def t_barring (K : Fg) (S_need_tongue : ASp) (S_need_atom : ASp) (S_need_deed : ASp) (S_is_atom : ASp) (S_bar_of : ASp) : TS := (tSeq (tDrop (tCall (spOf K S_need_tongue) [] E0 (tCons (tVar 0) tNil)))
  (tSeq (tDrop (tCall (spOf K S_need_atom) [] E0 (tCons (tVar 0) (tCons (tVar 1) tNil))))
  (tSeq (tDrop (tCall (spOf K S_need_deed) [] E0 (tCons (tVar 0) (tCons (tVar 2) tNil))))
  (tSeq (tIfS (tNot (tB (tCall (spOf K S_is_atom) [] E0 (tCons (tVar 0) (tCons (tVar 3) tNil))))) tNever tNext)
  (tRet (tCall (spOf K S_bar_of) [] E0 (tCons (tVar 0) (tCons (tVar 1) (tCons (tVar 2) (tCons (tVar 3) tNil))))))))))
def a_barring (K : Fg) (S_need_tongue : ASp) (S_need_atom : ASp) (S_need_deed : ASp) (S_is_atom : ASp) (S_bar_of : ASp) : AS := (aSeq (aDrop (aCall S_need_tongue (aCons (aVar 0) aNil)))
  (aSeq (aDrop (aCall S_need_atom (aCons (aVar 0) (aCons (aVar 1) aNil))))
  (aSeq (aDrop (aCall S_need_deed (aCons (aVar 0) (aCons (aVar 2) aNil))))
  (aSeq (aIfS (aNot (aT (aCall S_is_atom (aCons (aVar 0) (aCons (aVar 3) aNil))))) aNever aNext)
  (aRet (aCall S_bar_of (aCons (aVar 0) (aCons (aVar 1) (aCons (aVar 2) (aCons (aVar 3) aNil))))))))))
theorem sc_barring : FnScope N_barring P_barring (defScope (top 50)) := ⟨rfl, rfl, rfl, by decide +kernel, rfl, by decide +kernel, by decide +kernel⟩
theorem jf_barring {P : Program} {w : World} {K : Fg} {mg : Str → Option Value} {base : Heap} {S_need_tongue : ASp} {S_need_atom : ASp} {S_need_deed : ASp} {S_is_atom : ASp} {S_bar_of : ASp} {f : Addr} {cdv : Value} {A : Around} {outer : List Env} {s : Shared} {H : Hp} {E : XK} {lv : Nat} (T : Top K mg) (hr : Room lv (A.deeper (envOfC "barring" (defScope (top 50)) s.heap.objs.size f cdv))) {n_need_tongue : Nat} (c_need_tongue : Cal P w K mg base d_need_tongue (ad_need_tongue K) n_need_tongue P_need_tongue S_need_tongue) (h_need_tongue : n_need_tongue ≤ lv) {n_need_atom : Nat} (c_need_atom : Cal P w K mg base d_need_atom (ad_need_atom K) n_need_atom P_need_atom S_need_atom) (h_need_atom : n_need_atom ≤ lv) {n_need_deed : Nat} (c_need_deed : Cal P w K mg base d_need_deed (ad_need_deed K) n_need_deed P_need_deed S_need_deed) (h_need_deed : n_need_deed ≤ lv) {n_is_atom : Nat} (c_is_atom : Cal P w K mg base d_is_atom (ad_is_atom K) n_is_atom P_is_atom S_is_atom) (h_is_atom : n_is_atom ≤ lv) {n_bar_of : Nat} (c_bar_of : Cal P w K mg base d_bar_of (ad_bar_of K) n_bar_of P_bar_of S_bar_of) (h_bar_of : n_bar_of ≤ lv) :
    JSs (bX P w K mg base N_barring "barring" (defScope (top 50)) f cdv A outer s H E) (defBody (top 50)) (t_barring K S_need_tongue S_need_atom S_need_deed S_is_atom S_bar_of) (a_barring K S_need_tongue S_need_atom S_need_deed S_is_atom S_bar_of) := by
  have nd := sc_barring.nd
  have hu1 := hu1_of hr
  have hu64 := hu64_of hr
  have hu65 := hu65_of hr
  exact (jss_cons (js_expr (j_callC c_need_tongue T.g_need_tongue b_need_tongue hr h_need_tongue rfl (ja_cons (jv 0) ja_nil)))
  (jss_cons (js_expr (j_callC c_need_atom T.g_need_atom b_need_atom hr h_need_atom rfl (ja_cons (jv 0) (ja_cons (jv 1) ja_nil))))
  (jss_cons (js_expr (j_callC c_need_deed T.g_need_deed b_need_deed hr h_need_deed rfl (ja_cons (jv 0) (ja_cons (jv 2) ja_nil))))
  (jss_cons (js_if (jt_not (jt_val (j_callC c_is_atom T.g_is_atom b_is_atom hr h_is_atom rfl (ja_cons (jv 0) (ja_cons (jv 3) ja_nil))))) (jss_one js_never) jss_nil)
  (jss_one (js_ret (j_callC c_bar_of T.g_bar_of b_bar_of hr h_bar_of rfl (ja_cons (jv 0) (ja_cons (jv 1) (ja_cons (jv 2) (ja_cons (jv 3) ja_nil)))))))))))
def t_follows (K : Fg) (S_need_tongue : ASp) (S_is_fact_of : ASp) (S_Tongue_deeds : ASp) (S_Tongue_tests : ASp) (S_is_kept : ASp) : TS := (tSeq (tDrop (tCall (spOf K S_need_tongue) [] E0 (tCons (tVar 0) tNil)))
  (tSeq (tIfS (tNot (tB (tCall (spOf K S_is_fact_of) [] E0 (tCons (tProp (He.ga K "Tongue") (spOf K S_Tongue_tests) [] E0 (tVar 0)) (tCons (tProp (He.ga K "Tongue") (spOf K S_Tongue_deeds) [] E0 (tVar 0)) (tCons (tVar 1) tNil)))))) tNever tNext)
  (tRet (tCall (spOf K S_is_kept) [] E0 (tCons (tVar 0) (tCons (tVar 1) tNil))))))
def a_follows (K : Fg) (S_need_tongue : ASp) (S_is_fact_of : ASp) (S_Tongue_deeds : ASp) (S_Tongue_tests : ASp) (S_is_kept : ASp) : AS := (aSeq (aDrop (aCall S_need_tongue (aCons (aVar 0) aNil)))
  (aSeq (aIfS (aNot (aT (aCall S_is_fact_of (aCons (aProp S_Tongue_tests (He.ga K "Tongue") (aVar 0)) (aCons (aProp S_Tongue_deeds (He.ga K "Tongue") (aVar 0)) (aCons (aVar 1) aNil)))))) aNever aNext)
  (aRet (aCall S_is_kept (aCons (aVar 0) (aCons (aVar 1) aNil))))))
theorem sc_follows : FnScope N_follows P_follows (defScope (top 51)) := ⟨rfl, rfl, rfl, by decide +kernel, rfl, by decide +kernel, by decide +kernel⟩
theorem jf_follows {P : Program} {w : World} {K : Fg} {mg : Str → Option Value} {base : Heap} {S_need_tongue : ASp} {S_is_fact_of : ASp} {S_Tongue_deeds : ASp} {S_Tongue_tests : ASp} {S_is_kept : ASp} {f : Addr} {cdv : Value} {A : Around} {outer : List Env} {s : Shared} {H : Hp} {E : XK} {lv : Nat} (T : Top K mg) (hr : Room lv (A.deeper (envOfC "follows" (defScope (top 51)) s.heap.objs.size f cdv))) {n_need_tongue : Nat} (c_need_tongue : Cal P w K mg base d_need_tongue (ad_need_tongue K) n_need_tongue P_need_tongue S_need_tongue) (h_need_tongue : n_need_tongue ≤ lv) {n_is_fact_of : Nat} (c_is_fact_of : Cal P w K mg base d_is_fact_of (ad_is_fact_of K) n_is_fact_of P_is_fact_of S_is_fact_of) (h_is_fact_of : n_is_fact_of ≤ lv) {n_Tongue_deeds : Nat} (c_Tongue_deeds : Cal P w K mg base d_Tongue_deeds (ad_Tongue_deeds K) n_Tongue_deeds P_Tongue_deeds S_Tongue_deeds) (h_Tongue_deeds : n_Tongue_deeds + 1 ≤ lv) {n_Tongue_tests : Nat} (c_Tongue_tests : Cal P w K mg base d_Tongue_tests (ad_Tongue_tests K) n_Tongue_tests P_Tongue_tests S_Tongue_tests) (h_Tongue_tests : n_Tongue_tests + 1 ≤ lv) {n_is_kept : Nat} (c_is_kept : Cal P w K mg base d_is_kept (ad_is_kept K) n_is_kept P_is_kept S_is_kept) (h_is_kept : n_is_kept ≤ lv) :
    JSs (bX P w K mg base N_follows "follows" (defScope (top 51)) f cdv A outer s H E) (defBody (top 51)) (t_follows K S_need_tongue S_is_fact_of S_Tongue_deeds S_Tongue_tests S_is_kept) (a_follows K S_need_tongue S_is_fact_of S_Tongue_deeds S_Tongue_tests S_is_kept) := by
  have nd := sc_follows.nd
  have hu1 := hu1_of hr
  have hu64 := hu64_of hr
  have hu65 := hu65_of hr
  exact (jss_cons (js_expr (j_callC c_need_tongue T.g_need_tongue b_need_tongue hr h_need_tongue rfl (ja_cons (jv 0) ja_nil)))
  (jss_cons (js_if (jt_not (jt_val (j_callC c_is_fact_of T.g_is_fact_of b_is_fact_of hr h_is_fact_of rfl (ja_cons (j_propC c_Tongue_tests T.cls_Tongue b_Tongue_tests T.p_Tongue_tests hr h_Tongue_tests (jv 0)) (ja_cons (j_propC c_Tongue_deeds T.cls_Tongue b_Tongue_deeds T.p_Tongue_deeds hr h_Tongue_deeds (jv 0)) (ja_cons (jv 1) ja_nil)))))) (jss_one js_never) jss_nil)
  (jss_one (js_ret (j_callC c_is_kept T.g_is_kept b_is_kept hr h_is_kept rfl (ja_cons (jv 0) (ja_cons (jv 1) ja_nil)))))))
def t_needless (K : Fg) (S_need_tongue : ASp) (S_Tongue_facts : ASp) (S_Tongue___init__ : ASp) (S_Tongue_deeds : ASp) (S_Tongue_tests : ASp) (S_is_kept : ASp) : TS := (tSeq (tDrop (tCall (spOf K S_need_tongue) [] E0 (tCons (tVar 0) tNil)))
  (tSeq (tAsg (tLst tNil) (gName 1))
  (tSeq (tFor (iEnumU K (tCons (tProp (He.ga K "Tongue") (spOf K S_Tongue_facts) [] E0 (tVar 0)) tNil)) (gTup K 2 (gCons (gName 2) (gCons (gName 3) gNil))) (tSeq (tAsg (tMake (He.ga K "Tongue") (spOf K S_Tongue___init__) [] E0 (tCons (tProp (He.ga K "Tongue") (spOf K S_Tongue_tests) [] E0 (tVar 0)) (tCons (tProp (He.ga K "Tongue") (spOf K S_Tongue_deeds) [] E0 (tVar 0)) (tCons (tOp (rAddU K) (tSl (rSlU K) (tProp (He.ga K "Tongue") (spOf K S_Tongue_facts) [] E0 (tVar 0)) tNoPart (tPart (tVar 2))) (tSl (rSlU K) (tProp (He.ga K "Tongue") (spOf K S_Tongue_facts) [] E0 (tVar 0)) (tPart (tOp (rAddU K) (tVar 2) (tC (.int 1)))) tNoPart)) tNil)))) (gName 4))
  (tIfS (tB (tCall (spOf K S_is_kept) [] E0 (tCons (tVar 4) (tCons (tVar 3) tNil)))) (tDrop (tBM K "list" rAppend (tVar 1) (tCons (tVar 2) tNil))) tNext)))
  (tRet (tCB (rTupOf K) (tCons (tVar 1) tNil))))))
def a_needless (K : Fg) (S_need_tongue : ASp) (S_Tongue_facts : ASp) (S_Tongue___init__ : ASp) (S_Tongue_deeds : ASp) (S_Tongue_tests : ASp) (S_is_kept : ASp) : AS := (aSeq (aDrop (aCall S_need_tongue (aCons (aVar 0) aNil)))
  (aSeq (aAsg (aLstC aNil) (aGn 1))
  (aSeq (aFor (aEnumI (aCons (aFz (aProp S_Tongue_facts (He.ga K "Tongue") (aVar 0))) aNil)) (aGtup 2 (aGcons (aGn 2) (aGcons (aGn 3) aGnil))) (aSeq (aAsg (aMakeD S_Tongue___init__ (He.ga K "Tongue") [] (aCons (aProp S_Tongue_tests (He.ga K "Tongue") (aVar 0)) (aCons (aProp S_Tongue_deeds (He.ga K "Tongue") (aVar 0)) (aCons (aOp (rd2 fAdd) (aSl (aProp S_Tongue_facts (He.ga K "Tongue") (aVar 0)) aNoP (aPart (aVar 2))) (aSl (aProp S_Tongue_facts (He.ga K "Tongue") (aVar 0)) (aPart (aOp (rd2 fAdd) (aVar 2) (aC (.int 1)))) aNoP)) aNil)))) (aGn 4))
  (aIfS (aT (aCall S_is_kept (aCons (aVar 4) (aCons (aVar 3) aNil)))) (aDrop (aBM gAppend (aVar 1) (aCons (aVar 2) aNil))) aNext)))
  (aRet (aCB (on1 fTup) (aCons (aVar 1) aNil))))))
theorem sc_needless : FnScope N_needless P_needless (defScope (top 52)) := ⟨rfl, rfl, rfl, by decide +kernel, rfl, by decide +kernel, by decide +kernel⟩
theorem jf_needless {P : Program} {w : World} {K : Fg} {mg : Str → Option Value} {base : Heap} {S_need_tongue : ASp} {S_Tongue_facts : ASp} {S_Tongue___init__ : ASp} {S_Tongue_deeds : ASp} {S_Tongue_tests : ASp} {S_is_kept : ASp} {f : Addr} {cdv : Value} {A : Around} {outer : List Env} {s : Shared} {H : Hp} {E : XK} {lv : Nat} (T : Top K mg) (hr : Room lv (A.deeper (envOfC "needless" (defScope (top 52)) s.heap.objs.size f cdv))) {n_need_tongue : Nat} (c_need_tongue : Cal P w K mg base d_need_tongue (ad_need_tongue K) n_need_tongue P_need_tongue S_need_tongue) (h_need_tongue : n_need_tongue ≤ lv) {n_Tongue_facts : Nat} (c_Tongue_facts : Cal P w K mg base d_Tongue_facts (ad_Tongue_facts K) n_Tongue_facts P_Tongue_facts S_Tongue_facts) (h_Tongue_facts : n_Tongue_facts + 1 ≤ lv) {n_Tongue___init__ : Nat} (c_Tongue___init__ : Cal P w K mg base d_Tongue___init__ (ad_Tongue___init__ K) n_Tongue___init__ P_Tongue___init__ S_Tongue___init__) (h_Tongue___init__ : n_Tongue___init__ + 1 ≤ lv) {n_Tongue_deeds : Nat} (c_Tongue_deeds : Cal P w K mg base d_Tongue_deeds (ad_Tongue_deeds K) n_Tongue_deeds P_Tongue_deeds S_Tongue_deeds) (h_Tongue_deeds : n_Tongue_deeds + 1 ≤ lv) {n_Tongue_tests : Nat} (c_Tongue_tests : Cal P w K mg base d_Tongue_tests (ad_Tongue_tests K) n_Tongue_tests P_Tongue_tests S_Tongue_tests) (h_Tongue_tests : n_Tongue_tests + 1 ≤ lv) {n_is_kept : Nat} (c_is_kept : Cal P w K mg base d_is_kept (ad_is_kept K) n_is_kept P_is_kept S_is_kept) (h_is_kept : n_is_kept ≤ lv) :
    JSs (bX P w K mg base N_needless "needless" (defScope (top 52)) f cdv A outer s H E) (defBody (top 52)) (t_needless K S_need_tongue S_Tongue_facts S_Tongue___init__ S_Tongue_deeds S_Tongue_tests S_is_kept) (a_needless K S_need_tongue S_Tongue_facts S_Tongue___init__ S_Tongue_deeds S_Tongue_tests S_is_kept) := by
  have nd := sc_needless.nd
  have hu1 := hu1_of hr
  have hu64 := hu64_of hr
  have hu65 := hu65_of hr
  exact (jss_cons (js_expr (j_callC c_need_tongue T.g_need_tongue b_need_tongue hr h_need_tongue rfl (ja_cons (jv 0) ja_nil)))
  (jss_cons (js_set 1 nd (j_lstC ja_nil))
  (jss_cons (js_for PassesOwn.never rfl (ji_enum rfl T.b_enumerate (ja_cons (jf (j_propC c_Tongue_facts T.cls_Tongue b_Tongue_facts T.p_Tongue_facts hr h_Tongue_facts (jv 0))) ja_nil)) (jg_tup rfl (jgs_cons (jg_name 2 nd) (jgs_cons (jg_name 3 nd) jgs_nil))) (jss_cons (js_set 4 nd (j_makeD c_Tongue___init__ (bm0_Tongue T) (fun _ => rfl) T.mk_Tongue T.g_Tongue hr h_Tongue___init__ rfl (ja_cons (j_propC c_Tongue_tests T.cls_Tongue b_Tongue_tests T.p_Tongue_tests hr h_Tongue_tests (jv 0)) (ja_cons (j_propC c_Tongue_deeds T.cls_Tongue b_Tongue_deeds T.p_Tongue_deeds hr h_Tongue_deeds (jv 0)) (ja_cons (j_add (j_slice (j_propC c_Tongue_facts T.cls_Tongue b_Tongue_facts T.p_Tongue_facts hr h_Tongue_facts (jv 0)) jo_none (jo_some (jv 2))) (j_slice (j_propC c_Tongue_facts T.cls_Tongue b_Tongue_facts T.p_Tongue_facts hr h_Tongue_facts (jv 0)) (jo_some (j_add (jv 2) j_int)) jo_none)) ja_nil)))))
  (jss_one (js_if (jt_val (j_callC c_is_kept T.g_is_kept b_is_kept hr h_is_kept rfl (ja_cons (jv 4) (ja_cons (jv 3) ja_nil)))) (jss_one (js_expr (j_append (jv 1) (ja_cons (jv 2) ja_nil)))) jss_nil))))
  (jss_one (js_ret (j_callTy c_tup rfl T.b_tuple (by boot_by_name) (ja_cons (jv 1) ja_nil)))))))
def t__law_mixed (K : Fg) : TS := (tSeq (sDPut (tVar 0) (tC (.str "turn")) (tOp (rAddU K) (tOp (fun x y H Q => rIxU K x y H Q ∨ rIxD x y H Q) (tVar 0) (tC (.str "turn"))) (tC (.int 1))))
  (tSeq (tPar 2 3 (tCons (tCB rInt (tCons (tOp (fun x y H Q => rIxU K x y H Q ∨ rIxD x y H Q) (tVar 0) (tC (.str "turn"))) tNil)) (tCons (tC (.int 0)) tNil)))
  (tSeq (tFor (iSeq K (tLst (tCons (tC (.int 2147483647)) (tCons (tC (.int 2147483629)) (tCons (tC (.int 2147483587)) tNil))))) (gName 1) (tSeq (tAsg (tOp (rI (fun _ j => j ≠ 0) fun i j => .int (i.fmod j)) (tOp (rAddU K) (tOp rMulA (tVar 2) (tC (.int 48271))) (tOp (rI CDivN fun i j => .int (i.fdiv j)) (tVar 1) (tC (.int 11)))) (tVar 1)) (gName 4))
  (tSeq (tFor (iSeq K (tOp (fun x y H Q => rIxU K x y H Q ∨ rIxD x y H Q) (tVar 0) (tC (.str "cells")))) (gName 5) (tAsg (tOp (rI (fun _ j => j ≠ 0) fun i j => .int (i.fmod j)) (tOp (rAddU K) (tOp (rAddU K) (tOp rMulA (tVar 4) (tC (.int 69621))) (tCB rInt (tCons (tVar 5) tNil))) (tVar 2)) (tVar 1)) (gName 4)))
  (tAsg (tOp (rAddU K) (tOp rMulA (tVar 3) (tC (.int 2147483659))) (tOp (rI (fun _ j => j ≠ 0) fun i j => .int (i.fmod j)) (tOp (rI CPow fun i j => .int (i ^ j.toNat)) (tVar 4) (tC (.int 5))) (tVar 1))) (gName 3)))))
  (tRet (tVar 3)))))
def a__law_mixed (K : Fg) : AS := (aSeq (aDPut (aVar 0) (aC (.str "turn")) (aOp (rd2 fAdd) (aOp gIx (aVar 0) (aC (.str "turn"))) (aC (.int 1))))
  (aSeq (aPar 2 3 (aCons (aCB (on1 fInt) (aCons (aOp gIx (aVar 0) (aC (.str "turn"))) aNil)) (aCons (aC (.int 0)) aNil)))
  (aSeq (aFor (aSeqI (aLst (aCons (aC (.int 2147483647)) (aCons (aC (.int 2147483629)) (aCons (aC (.int 2147483587)) aNil))))) (aGn 1) (aSeq (aAsg (aOp (aI (fun _ j => j ≠ 0) (gI Int.fmod)) (aOp (rd2 fAdd) (aOp (rd2 fMul) (aVar 2) (aC (.int 48271))) (aOp (aI CDivN (gI Int.fdiv)) (aVar 1) (aC (.int 11)))) (aVar 1)) (aGn 4))
  (aSeq (aFor (aSeqI (aOp gIx (aVar 0) (aC (.str "cells")))) (aGn 5) (aAsg (aOp (aI (fun _ j => j ≠ 0) (gI Int.fmod)) (aOp (rd2 fAdd) (aOp (rd2 fAdd) (aOp (rd2 fMul) (aVar 4) (aC (.int 69621))) (aCB (on1 fInt) (aCons (aVar 5) aNil))) (aVar 2)) (aVar 1)) (aGn 4)))
  (aAsg (aOp (rd2 fAdd) (aOp (rd2 fMul) (aVar 3) (aC (.int 2147483659))) (aOp (aI (fun _ j => j ≠ 0) (gI Int.fmod)) (aOp (aI CPow (gI fun i j => i ^ j.toNat)) (aVar 4) (aC (.int 5))) (aVar 1))) (aGn 3)))))
  (aRet (aVar 3)))))
theorem sc__law_mixed : FnScope N__law_mixed P__law_mixed (defScope (top 56)) := ⟨rfl, rfl, rfl, by decide +kernel, rfl, by decide +kernel, by decide +kernel⟩
theorem jf__law_mixed {P : Program} {w : World} {K : Fg} {mg : Str → Option Value} {base : Heap} {f : Addr} {cdv : Value} {A : Around} {outer : List Env} {s : Shared} {H : Hp} {E : XK} {lv : Nat} (T : Top K mg) (hr : Room lv (A.deeper (envOfC "_law_mixed" (defScope (top 56)) s.heap.objs.size f cdv))) :
    JSs (bX P w K mg base N__law_mixed "_law_mixed" (defScope (top 56)) f cdv A outer s H E) (defBody (top 56)) (t__law_mixed K) (a__law_mixed K) := by
  have nd := sc__law_mixed.nd
  have hu1 := hu1_of hr
  have hu64 := hu64_of hr
  have hu65 := hu65_of hr
  exact (jss_cons (js_dput hu1 (jv 0) j_str (j_add (j_ix hu1 (jv 0) j_str) j_int))
  (jss_cons (js_par 2 3 rfl nd (ja_cons (j_callTy c_int rfl T.b_int (by boot_by_name) (ja_cons (j_ix hu1 (jv 0) j_str) ja_nil)) (ja_cons j_int ja_nil)))
  (jss_cons (js_for PassesOwn.never rfl (ji_seq (j_lst (ja_cons j_int (ja_cons j_int (ja_cons j_int ja_nil))))) (jg_name 1 nd) (jss_cons (js_set 4 nd (j_mod (j_add (j_mul (jv 2) j_int) (j_fdiv (jv 1) j_int)) (jv 1)))
  (jss_cons (js_for PassesOwn.never rfl (ji_seq (j_ix hu1 (jv 0) j_str)) (jg_name 5 nd) (jss_one (js_set 4 nd (j_mod (j_add (j_add (j_mul (jv 4) j_int) (j_callTy c_int rfl T.b_int (by boot_by_name) (ja_cons (jv 5) ja_nil))) (jv 2)) (jv 1)))))
  (jss_one (js_set 3 nd (j_add (j_mul (jv 3) j_int) (j_mod (j_pow (jv 4) j_int) (jv 1))))))))
  (jss_one (js_ret (jv 3))))))
def t__law_take (K : Fg) (S__law_mixed : ASp) : TS := (tSeq (tIfS (tTest (tOp (rEqD K) (tOp (fun x y H Q => rIxU K x y H Q ∨ rIxD x y H Q) (tVar 0) (tC (.str "rest"))) (tC (.int 0)))) (sDPut (tVar 0) (tC (.str "rest")) (tIf (tTest (tOp (rNeD K) (tOp (fun x y H Q => rIxU K x y H Q ∨ rIxD x y H Q) (tVar 0) (tC (.str "large"))) (tLst tNil))) (tBM K "list" rPopU (tOp (fun x y H Q => rIxU K x y H Q ∨ rIxD x y H Q) (tVar 0) (tC (.str "large"))) (tCons (tC (.int 0)) tNil)) (tCall (spOf K S__law_mixed) [] E0 (tCons (tVar 0) tNil)))) tNext)
  (tSeq (tAsg (tOp (rI (fun _ j => j ≠ 0) fun i j => .int (i.fmod j)) (tCB rInt (tCons (tOp (fun x y H Q => rIxU K x y H Q ∨ rIxD x y H Q) (tVar 0) (tC (.str "rest"))) tNil)) (tVar 1)) (gName 2))
  (tSeq (sDPut (tVar 0) (tC (.str "rest")) (tOp (rI CDivN fun i j => .int (i.fdiv j)) (tCB rInt (tCons (tOp (fun x y H Q => rIxU K x y H Q ∨ rIxD x y H Q) (tVar 0) (tC (.str "rest"))) tNil)) (tVar 1)))
  (tRet (tVar 2)))))
def a__law_take (K : Fg) (S__law_mixed : ASp) : AS := (aSeq (aIfS (aT (aOp (rd2 (fEq false)) (aOp gIx (aVar 0) (aC (.str "rest"))) (aC (.int 0)))) (aDPut (aVar 0) (aC (.str "rest")) (aIfE (aT (aOp (rd2 (fEq true)) (aOp gIx (aVar 0) (aC (.str "large"))) (aLst aNil))) (aBM gPop (aOp gIx (aVar 0) (aC (.str "large"))) (aCons (aC (.int 0)) aNil)) (aCall S__law_mixed (aCons (aVar 0) aNil)))) aNext)
  (aSeq (aAsg (aOp (aI (fun _ j => j ≠ 0) (gI Int.fmod)) (aCB (on1 fInt) (aCons (aOp gIx (aVar 0) (aC (.str "rest"))) aNil)) (aVar 1)) (aGn 2))
  (aSeq (aDPut (aVar 0) (aC (.str "rest")) (aOp (aI CDivN (gI Int.fdiv)) (aCB (on1 fInt) (aCons (aOp gIx (aVar 0) (aC (.str "rest"))) aNil)) (aVar 1)))
  (aRet (aVar 2)))))
theorem sc__law_take : FnScope N__law_take P__law_take (defScope (top 57)) := ⟨rfl, rfl, rfl, by decide +kernel, rfl, by decide +kernel, by decide +kernel⟩
theorem jf__law_take {P : Program} {w : World} {K : Fg} {mg : Str → Option Value} {base : Heap} {S__law_mixed : ASp} {f : Addr} {cdv : Value} {A : Around} {outer : List Env} {s : Shared} {H : Hp} {E : XK} {lv : Nat} (T : Top K mg) (hr : Room lv (A.deeper (envOfC "_law_take" (defScope (top 57)) s.heap.objs.size f cdv))) {n__law_mixed : Nat} (c__law_mixed : Cal P w K mg base d__law_mixed (ad__law_mixed K) n__law_mixed P__law_mixed S__law_mixed) (h__law_mixed : n__law_mixed ≤ lv) :
    JSs (bX P w K mg base N__law_take "_law_take" (defScope (top 57)) f cdv A outer s H E) (defBody (top 57)) (t__law_take K S__law_mixed) (a__law_take K S__law_mixed) := by
  have nd := sc__law_take.nd
  have hu1 := hu1_of hr
  have hu64 := hu64_of hr
  have hu65 := hu65_of hr
  exact (jss_cons (js_if (jt_cmp (c_eq hu64) (j_ix hu1 (jv 0) j_str) j_int) (jss_one (js_dput hu1 (jv 0) j_str (j_if (jt_cmp (c_ne hu64) (j_ix hu1 (jv 0) j_str) (j_lst ja_nil)) (j_pop (j_ix hu1 (jv 0) j_str) (ja_cons j_int ja_nil)) (j_callC c__law_mixed T.g__law_mixed b__law_mixed hr h__law_mixed rfl (ja_cons (jv 0) ja_nil))))) jss_nil)
  (jss_cons (js_set 2 nd (j_mod (j_callTy c_int rfl T.b_int (by boot_by_name) (ja_cons (j_ix hu1 (jv 0) j_str) ja_nil)) (jv 1)))
  (jss_cons (js_dput hu1 (jv 0) j_str (j_fdiv (j_callTy c_int rfl T.b_int (by boot_by_name) (ja_cons (j_ix hu1 (jv 0) j_str) ja_nil)) (jv 1)))
  (jss_one (js_ret (jv 2))))))
def t__law_pick (K : Fg) (S__law_take : ASp) : TS := (tRet (tOp (fun x y H Q => rIxU K x y H Q ∨ rIxD x y H Q) (tVar 1) (tCall (spOf K S__law_take) [] E0 (tCons (tVar 0) (tCons (tCB (rLenU K) (tCons (tVar 1) tNil)) tNil)))))
def a__law_pick (K : Fg) (S__law_take : ASp) : AS := (aRet (aOp gIx (aVar 1) (aCall S__law_take (aCons (aVar 0) (aCons (aCB (on1 fLen) (aCons (aVar 1) aNil)) aNil)))))
theorem sc__law_pick : FnScope N__law_pick P__law_pick (defScope (top 58)) := ⟨rfl, rfl, rfl, by decide +kernel, rfl, by decide +kernel, by decide +kernel⟩
theorem jf__law_pick {P : Program} {w : World} {K : Fg} {mg : Str → Option Value} {base : Heap} {S__law_take : ASp} {f : Addr} {cdv : Value} {A : Around} {outer : List Env} {s : Shared} {H : Hp} {E : XK} {lv : Nat} (T : Top K mg) (hr : Room lv (A.deeper (envOfC "_law_pick" (defScope (top 58)) s.heap.objs.size f cdv))) {n__law_take : Nat} (c__law_take : Cal P w K mg base d__law_take (ad__law_take K) n__law_take P__law_take S__law_take) (h__law_take : n__law_take ≤ lv) :
    JSs (bX P w K mg base N__law_pick "_law_pick" (defScope (top 58)) f cdv A outer s H E) (defBody (top 58)) (t__law_pick K S__law_take) (a__law_pick K S__law_take) := by
  have nd := sc__law_pick.nd
  have hu1 := hu1_of hr
  have hu64 := hu64_of hr
  have hu65 := hu65_of hr
  exact (jss_one (js_ret (j_ix hu1 (jv 1) (j_callC c__law_take T.g__law_take b__law_take hr h__law_take rfl (ja_cons (jv 0) (ja_cons (j_callB c_len rfl T.b_len (by boot_by_name) (ja_cons (jv 1) ja_nil)) ja_nil))))))
def t__law_shuffled (K : Fg) (S__law_take : ASp) : TS := (tSeq (tPar 2 3 (tCons (tCB (rLstOf K) (tCons (tVar 1) tNil)) (tCons (tLst tNil) tNil)))
  (tSeq (tWhile (tTest (tOp (rNeD K) (tVar 2) (tLst tNil))) (tDrop (tBM K "list" rAppend (tVar 3) (tCons (tBM K "list" rPopU (tVar 2) (tCons (tCall (spOf K S__law_take) [] E0 (tCons (tVar 0) (tCons (tCB (rLenU K) (tCons (tVar 2) tNil)) tNil))) tNil)) tNil))))
  (tRet (tVar 3))))
def a__law_shuffled (K : Fg) (S__law_take : ASp) : AS := (aSeq (aPar 2 3 (aCons (aCB (on1 fLstC) (aCons (aVar 1) aNil)) (aCons (aLstC aNil) aNil)))
  (aSeq (aWhile (aT (aOp (rd2 (fEq true)) (aVar 2) (aLst aNil))) (aDrop (aBM gAppend (aVar 3) (aCons (aBM gPop (aVar 2) (aCons (aCall S__law_take (aCons (aVar 0) (aCons (aCB (on1 fLen) (aCons (aVar 2) aNil)) aNil))) aNil)) aNil))))
  (aRet (aVar 3))))
theorem sc__law_shuffled : FnScope N__law_shuffled P__law_shuffled (defScope (top 59)) := ⟨rfl, rfl, rfl, by decide +kernel, rfl, by decide +kernel, by decide +kernel⟩
theorem jf__law_shuffled {P : Program} {w : World} {K : Fg} {mg : Str → Option Value} {base : Heap} {S__law_take : ASp} {f : Addr} {cdv : Value} {A : Around} {outer : List Env} {s : Shared} {H : Hp} {E : XK} {lv : Nat} (T : Top K mg) (hr : Room lv (A.deeper (envOfC "_law_shuffled" (defScope (top 59)) s.heap.objs.size f cdv))) {n__law_take : Nat} (c__law_take : Cal P w K mg base d__law_take (ad__law_take K) n__law_take P__law_take S__law_take) (h__law_take : n__law_take ≤ lv) :
    JSs (bX P w K mg base N__law_shuffled "_law_shuffled" (defScope (top 59)) f cdv A outer s H E) (defBody (top 59)) (t__law_shuffled K S__law_take) (a__law_shuffled K S__law_take) := by
  have nd := sc__law_shuffled.nd
  have hu1 := hu1_of hr
  have hu64 := hu64_of hr
  have hu65 := hu65_of hr
  exact (jss_cons (js_par 2 3 rfl nd (ja_cons (j_callTy c_lstC rfl T.b_list (by boot_by_name) (ja_cons (jv 1) ja_nil)) (ja_cons (j_lstC ja_nil) ja_nil)))
  (jss_cons (js_while PassesOwn.never (jt_cmp (c_ne hu64) (jv 2) (j_lst ja_nil)) (jss_one (js_expr (j_append (jv 3) (ja_cons (j_pop (jv 2) (ja_cons (j_callC c__law_take T.g__law_take b__law_take hr h__law_take rfl (ja_cons (jv 0) (ja_cons (j_callB c_len rfl T.b_len (by boot_by_name) (ja_cons (jv 2) ja_nil)) ja_nil))) ja_nil)) ja_nil)))))
  (jss_one (js_ret (jv 3)))))
def t__law_kinds (K : Fg) : TS := (tSeq (tPar 1 2 (tCons (tLst tNil) (tCons (tLst (tCons (tVar 0) tNil)) tNil)))
  (tSeq (tWhile (tTest (tOp (rNeD K) (tVar 2) (tLst tNil))) (tSeq (tAsg (tBM0 K "list" rPopU (tVar 2)) (gName 3))
  (tSeq (tAsg (tIf (tB (tCB (rIsiU K) (tCons (tVar 3) (tCons (tC (.ty "tuple")) tNil)))) (tC (.str "tuple")) (tIf (tB (tCB (rIsiU K) (tCons (tVar 3) (tCons (tC (.ty "list")) tNil)))) (tC (.str "list")) (tIf (tB (tCB (rIsiU K) (tCons (tVar 3) (tCons (tC (.ty "dict")) tNil)))) (tC (.str "dict")) (tIf (tB (tCB (rIsiU K) (tCons (tVar 3) (tCons (tC (.ty "bool")) tNil)))) (tC (.str "bool")) (tC (.str "other")))))) (gName 4))
  (tSeq (tDrop (tBM K "list" rAppend (tVar 1) (tCons (tVar 4) tNil)))
  (tSeq (tIfS (tTest (tOp (rInU K false) (tVar 4) (tLst (tCons (tC (.str "tuple")) (tCons (tC (.str "list")) tNil))))) (tAsg (tOp (rAddU K) (tVar 2) (tCB (rLstOf K) (tCons (tVar 3) tNil))) (gName 2)) tNext)
  (tIfS (tTest (tOp (rEqD K) (tVar 4) (tC (.str "dict")))) (tSeq tNever
  tNever) tNext))))))
  (tRet (tVar 1))))
def a__law_kinds (K : Fg) : AS := (aSeq (aPar 1 2 (aCons (aLstC aNil) (aCons (aLstC (aCons (aVar 0) aNil)) aNil)))
  (aSeq (aWhile (aT (aOp (rd2 (fEq true)) (aVar 2) (aLst aNil))) (aSeq (aAsg (aBM0 gPop (aVar 2)) (aGn 3))
  (aSeq (aAsg (aIfE (aT (aCB (on2 (fIsi K)) (aCons (aVar 3) (aCons (aC (.ty "tuple")) aNil)))) (aC (.str "tuple")) (aIfE (aT (aCB (on2 (fIsi K)) (aCons (aVar 3) (aCons (aC (.ty "list")) aNil)))) (aC (.str "list")) (aIfE (aT (aCB (on2 (fIsi K)) (aCons (aVar 3) (aCons (aC (.ty "dict")) aNil)))) (aC (.str "dict")) (aIfE (aT (aCB (on2 (fIsi K)) (aCons (aVar 3) (aCons (aC (.ty "bool")) aNil)))) (aC (.str "bool")) (aC (.str "other")))))) (aGn 4))
  (aSeq (aDrop (aBM gAppend (aVar 1) (aCons (aVar 4) aNil)))
  (aSeq (aIfS (aT (aOp (rd2 (fIn false)) (aVar 4) (aLst (aCons (aC (.str "tuple")) (aCons (aC (.str "list")) aNil))))) (aAsg (aOp gAddC (aVar 2) (aCB (on1 fLst) (aCons (aVar 3) aNil))) (aGn 2)) aNext)
  (aIfS (aT (aOp (rd2 (fEq false)) (aVar 4) (aC (.str "dict")))) (aSeq aNever
  aNever) aNext))))))
  (aRet (aVar 1))))
theorem sc__law_kinds : FnScope N__law_kinds P__law_kinds (defScope (top 61)) := ⟨rfl, rfl, rfl, by decide +kernel, rfl, by decide +kernel, by decide +kernel⟩
theorem jf__law_kinds {P : Program} {w : World} {K : Fg} {mg : Str → Option Value} {base : Heap} {f : Addr} {cdv : Value} {A : Around} {outer : List Env} {s : Shared} {H : Hp} {E : XK} {lv : Nat} (T : Top K mg) (hr : Room lv (A.deeper (envOfC "_law_kinds" (defScope (top 61)) s.heap.objs.size f cdv))) :
    JSs (bX P w K mg base N__law_kinds "_law_kinds" (defScope (top 61)) f cdv A outer s H E) (defBody (top 61)) (t__law_kinds K) (a__law_kinds K) := by
  have nd := sc__law_kinds.nd
  have hu1 := hu1_of hr
  have hu64 := hu64_of hr
  have hu65 := hu65_of hr
  exact (jss_cons (js_par 1 2 rfl nd (ja_cons (j_lstC ja_nil) (ja_cons (j_lstC (ja_cons (jv 0) ja_nil)) ja_nil)))
  (jss_cons (js_while PassesOwn.never (jt_cmp (c_ne hu64) (jv 2) (j_lst ja_nil)) (jss_cons (js_set 3 nd (j_pop0 (jv 2)))
  (jss_cons (js_set 4 nd (j_if (jt_val (j_callB c_isi rfl T.b_isinstance (by boot_by_name) (ja_cons (jv 3) (ja_cons (j_ty rfl T.b_tuple (by boot_by_name)) ja_nil)))) j_str (j_if (jt_val (j_callB c_isi rfl T.b_isinstance (by boot_by_name) (ja_cons (jv 3) (ja_cons (j_ty rfl T.b_list (by boot_by_name)) ja_nil)))) j_str (j_if (jt_val (j_callB c_isi rfl T.b_isinstance (by boot_by_name) (ja_cons (jv 3) (ja_cons (j_ty rfl T.b_dict (by boot_by_name)) ja_nil)))) j_str (j_if (jt_val (j_callB c_isi rfl T.b_isinstance (by boot_by_name) (ja_cons (jv 3) (ja_cons (j_ty rfl T.b_bool (by boot_by_name)) ja_nil)))) j_str j_str)))))
  (jss_cons (js_expr (j_append (jv 1) (ja_cons (jv 4) ja_nil)))
  (jss_cons (js_if (jt_cmp (c_in hu65) (jv 4) (j_lst (ja_cons j_str (ja_cons j_str ja_nil)))) (jss_one (js_set 2 nd (j_addC (jv 2) (j_callTy c_lst rfl T.b_list (by boot_by_name) (ja_cons (jv 3) ja_nil))))) jss_nil)
  (jss_one (js_if (jt_cmp (c_eq hu64) (jv 4) j_str) (jss_cons js_never
  (jss_one js_never)) jss_nil)))))))
  (jss_one (js_ret (jv 1)))))
def t__law_says (K : Fg) (S__law_kinds : ASp) : TS := (tRet (tAndV (tOp (rEqD K) (tVar 0) (tVar 1)) (tOp (rEqD K) (tCall (spOf K S__law_kinds) [] E0 (tCons (tVar 0) tNil)) (tCall (spOf K S__law_kinds) [] E0 (tCons (tVar 1) tNil)))))
def a__law_says (K : Fg) (S__law_kinds : ASp) : AS := (aRet (aAndV (aOp (rd2 (fEq false)) (aVar 0) (aVar 1)) (aOp (rd2 (fEq false)) (aCall S__law_kinds (aCons (aVar 0) aNil)) (aCall S__law_kinds (aCons (aVar 1) aNil)))))
theorem sc__law_says : FnScope N__law_says P__law_says (defScope (top 62)) := ⟨rfl, rfl, rfl, by decide +kernel, rfl, by decide +kernel, by decide +kernel⟩
theorem jf__law_says {P : Program} {w : World} {K : Fg} {mg : Str → Option Value} {base : Heap} {S__law_kinds : ASp} {f : Addr} {cdv : Value} {A : Around} {outer : List Env} {s : Shared} {H : Hp} {E : XK} {lv : Nat} (T : Top K mg) (hr : Room lv (A.deeper (envOfC "_law_says" (defScope (top 62)) s.heap.objs.size f cdv))) {n__law_kinds : Nat} (c__law_kinds : Cal P w K mg base d__law_kinds (ad__law_kinds K) n__law_kinds P__law_kinds S__law_kinds) (h__law_kinds : n__law_kinds ≤ lv) :
    JSs (bX P w K mg base N__law_says "_law_says" (defScope (top 62)) f cdv A outer s H E) (defBody (top 62)) (t__law_says K S__law_kinds) (a__law_says K S__law_kinds) := by
  have nd := sc__law_says.nd
  have hu1 := hu1_of hr
  have hu64 := hu64_of hr
  have hu65 := hu65_of hr
  exact (jss_one (js_ret (j_and (j_cmp (c_eq hu64) (jv 0) (jv 1)) (j_one (j_cmp (c_eq hu64) (j_callC c__law_kinds T.g__law_kinds b__law_kinds hr h__law_kinds rfl (ja_cons (jv 0) ja_nil)) (j_callC c__law_kinds T.g__law_kinds b__law_kinds hr h__law_kinds rfl (ja_cons (jv 1) ja_nil)))))))
def t__law_holds (K : Fg) (S__law_holds : ASp) : TS := (tSeq (tAsg (tOp (fun x y H Q => rIxU K x y H Q ∨ rIxD x y H Q) (tVar 1) (tC (.int 0))) (gName 3))
  (tSeq (tIfS (tTest (tOp (rInU K false) (tVar 3) (tLst (tCons (tC (.str "yes")) (tCons (tC (.str "no")) tNil))))) (tRet (tOp (rEqD K) (tVar 3) (tC (.str "yes")))) tNext)
  (tSeq (tIfS (tTest (tOp (rEqD K) (tVar 3) (tC (.str "is")))) (tRet (tOp (rEqD K) (tOp (rI (fun _ j => j ≠ 0) fun i j => .int (i.fmod j)) (tOp (rI CDivN fun i j => .int (i.fdiv j)) (tVar 2) (tOp (fun x y H Q => rIxU K x y H Q ∨ rIxD x y H Q) (tLst (tCons (tC (.int 1)) (tCons (tC (.int 2)) (tCons (tC (.int 4)) tNil)))) (tBM K "list" (rIndex K) (tVar 0) (tCons (tOp (fun x y H Q => rIxU K x y H Q ∨ rIxD x y H Q) (tVar 1) (tC (.int 1))) tNil)))) (tC (.int 2))) (tC (.int 1)))) tNext)
  (tSeq (tAsg (tLc (iSeq K (tSl (rSlU K) (tVar 1) (tPart (tC (.int 1))) tNoPart)) (gName 5) tYes (tCall (spOf K S__law_holds) [] E0 (tCons (tVar 0) (tCons (tVar 5) (tCons (tVar 2) tNil)))) [5]) (gName 4))
  (tSeq (tIfS (tTest (tOp (rEqD K) (tVar 3) (tC (.str "not")))) (tRet (tNotV (tOp (fun x y H Q => rIxU K x y H Q ∨ rIxD x y H Q) (tVar 4) (tC (.int 0))))) tNext)
  (tRet (tIf (tTest (tOp (rEqD K) (tVar 3) (tC (.str "and")))) (tOp (rInU K true) (tC (.bl false)) (tVar 4)) (tOp (rInU K false) (tC (.bl true)) (tVar 4)))))))))
def a__law_holds (K : Fg) (S__law_holds : ASp) : AS := (aSeq (aAsg (aOp gIx (aVar 1) (aC (.int 0))) (aGn 3))
  (aSeq (aIfS (aT (aOp (rd2 (fIn false)) (aVar 3) (aLst (aCons (aC (.str "yes")) (aCons (aC (.str "no")) aNil))))) (aRet (aOp (rd2 (fEq false)) (aVar 3) (aC (.str "yes")))) aNext)
  (aSeq (aIfS (aT (aOp (rd2 (fEq false)) (aVar 3) (aC (.str "is")))) (aRet (aOp (rd2 (fEq false)) (aOp (aI (fun _ j => j ≠ 0) (gI Int.fmod)) (aOp (aI CDivN (gI Int.fdiv)) (aVar 2) (aOp gIx (aLst (aCons (aC (.int 1)) (aCons (aC (.int 2)) (aCons (aC (.int 4)) aNil)))) (aBM gIndexL (aVar 0) (aCons (aOp gIx (aVar 1) (aC (.int 1))) aNil)))) (aC (.int 2))) (aC (.int 1)))) aNext)
  (aSeq (aAsg (aLc (aSeqI (aSl (aVar 1) (aPart (aC (.int 1))) aNoP)) (aGn 5) aYes (aCall S__law_holds (aCons (aVar 0) (aCons (aVar 5) (aCons (aVar 2) aNil)))) [5]) (aGn 4))
  (aSeq (aIfS (aT (aOp (rd2 (fEq false)) (aVar 3) (aC (.str "not")))) (aRet (aNotV (aOp gIx (aVar 4) (aC (.int 0))))) aNext)
  (aRet (aIfE (aT (aOp (rd2 (fEq false)) (aVar 3) (aC (.str "and")))) (aOp (rd2 (fIn true)) (aC (.bl false)) (aVar 4)) (aOp (rd2 (fIn false)) (aC (.bl true)) (aVar 4)))))))))
theorem sc__law_holds : FnScope N__law_holds P__law_holds (defScope (top 63)) := ⟨rfl, rfl, rfl, by decide +kernel, rfl, by decide +kernel, by decide +kernel⟩
theorem jf__law_holds {P : Program} {w : World} {K : Fg} {mg : Str → Option Value} {base : Heap} {S__law_holds : ASp} {f : Addr} {cdv : Value} {A : Around} {outer : List Env} {s : Shared} {H : Hp} {E : XK} {lv : Nat} (T : Top K mg) (hr : Room lv (A.deeper (envOfC "_law_holds" (defScope (top 63)) s.heap.objs.size f cdv))) {n__law_holds : Nat} (c__law_holds : Cal P w K mg base d__law_holds (ad__law_holds K) n__law_holds P__law_holds S__law_holds) (h__law_holds : n__law_holds ≤ lv) :
    JSs (bX P w K mg base N__law_holds "_law_holds" (defScope (top 63)) f cdv A outer s H E) (defBody (top 63)) (t__law_holds K S__law_holds) (a__law_holds K S__law_holds) := by
  have nd := sc__law_holds.nd
  have hu1 := hu1_of hr
  have hu64 := hu64_of hr
  have hu65 := hu65_of hr
  exact (jss_cons (js_set 3 nd (j_ix hu1 (jv 1) j_int))
  (jss_cons (js_if (jt_cmp (c_in hu65) (jv 3) (j_lst (ja_cons j_str (ja_cons j_str ja_nil)))) (jss_one (js_ret (j_cmp (c_eq hu64) (jv 3) j_str))) jss_nil)
  (jss_cons (js_if (jt_cmp (c_eq hu64) (jv 3) j_str) (jss_one (js_ret (j_cmp (c_eq hu64) (j_mod (j_fdiv (jv 2) (j_ix hu1 (j_lst (ja_cons j_int (ja_cons j_int (ja_cons j_int ja_nil)))) (j_indexL (jv 0) (ja_cons (j_ix hu1 (jv 1) j_int) ja_nil)))) j_int) j_int))) jss_nil)
  (jss_cons (js_setLc 4 (own := [("one", 5)]) rfl nd (ji_seq (j_slice (jv 1) (jo_some j_int) jo_none)) (blkOk_by (by kernel_rfl)) (fun _ _ _ _ _ => (jg_name 5 nd)) (go_name) (fun _ _ _ _ _ => jts_nil) (fun _ _ _ _ _ => (j_callC c__law_holds T.g__law_holds b__law_holds hr h__law_holds rfl (ja_cons (jv 0) (ja_cons (jv 5) (ja_cons (jv 2) ja_nil))))))
  (jss_cons (js_if (jt_cmp (c_eq hu64) (jv 3) j_str) (jss_one (js_ret (j_not (j_ix hu1 (jv 4) j_int)))) jss_nil)
  (jss_one (js_ret (j_if (jt_cmp (c_eq hu64) (jv 3) j_str) (j_cmp (c_nin hu65) j_bl (jv 4)) (j_cmp (c_in hu65) j_bl (jv 4))))))))))
def t__law_atoms (K : Fg) : TS := (tRet (tLstRg (tRg1 (tOp (fun x y H Q => rIxU K x y H Q ∨ rIxD x y H Q) (tLst (tCons (tC (.int 1)) (tCons (tC (.int 2)) (tCons (tC (.int 4)) (tCons (tC (.int 8)) tNil))))) (tCB (rLenU K) (tCons (tOp (fun x y H Q => rIxU K x y H Q ∨ rIxD x y H Q) (tVar 0) (tC (.int 0))) tNil))))))
def a__law_atoms (K : Fg) : AS := (aRet (aListRg1 (aOp gIx (aLst (aCons (aC (.int 1)) (aCons (aC (.int 2)) (aCons (aC (.int 4)) (aCons (aC (.int 8)) aNil))))) (aCB (on1 fLen) (aCons (aOp gIx (aVar 0) (aC (.int 0))) aNil)))))
theorem sc__law_atoms : FnScope N__law_atoms P__law_atoms (defScope (top 64)) := ⟨rfl, rfl, rfl, by decide +kernel, rfl, by decide +kernel, by decide +kernel⟩
theorem jf__law_atoms {P : Program} {w : World} {K : Fg} {mg : Str → Option Value} {base : Heap} {f : Addr} {cdv : Value} {A : Around} {outer : List Env} {s : Shared} {H : Hp} {E : XK} {lv : Nat} (T : Top K mg) (hr : Room lv (A.deeper (envOfC "_law_atoms" (defScope (top 64)) s.heap.objs.size f cdv))) :
    JSs (bX P w K mg base N__law_atoms "_law_atoms" (defScope (top 64)) f cdv A outer s H E) (defBody (top 64)) (t__law_atoms K) (a__law_atoms K) := by
  have nd := sc__law_atoms.nd
  have hu1 := hu1_of hr
  have hu64 := hu64_of hr
  have hu65 := hu65_of hr
  exact (jss_one (js_ret (j_listRg1 rfl rfl T.b_list rfl T.b_range (j_ix hu1 (j_lst (ja_cons j_int (ja_cons j_int (ja_cons j_int (ja_cons j_int ja_nil))))) (j_callB c_len rfl T.b_len (by boot_by_name) (ja_cons (j_ix hu1 (jv 0) j_int) ja_nil))))))
def t__law_bars (K : Fg) (S__law_holds : ASp) : TS := (tSeq (tAsg (tOp (fun x y H Q => rIxU K x y H Q ∨ rIxD x y H Q) (tVar 0) (tC (.int 0))) (gName 5))
  (tSeq (tIfS (tTest (tOp (rEqD K) (tOp (fun x y H Q => rIxU K x y H Q ∨ rIxD x y H Q) (tVar 1) (tC (.int 0))) (tC (.str "never")))) (tRet (tOrV (tCall (spOf K S__law_holds) [] E0 (tCons (tVar 5) (tCons (tOp (fun x y H Q => rIxU K x y H Q ∨ rIxD x y H Q) (tVar 1) (tC (.int 1))) (tCons (tVar 2) tNil)))) (tCall (spOf K S__law_holds) [] E0 (tCons (tVar 5) (tCons (tOp (fun x y H Q => rIxU K x y H Q ∨ rIxD x y H Q) (tVar 1) (tC (.int 1))) (tCons (tVar 4) tNil)))))) tNext)
  (tSeq (tIfS (tTest (tOp (rNeD K) (tOp (fun x y H Q => rIxU K x y H Q ∨ rIxD x y H Q) (tVar 1) (tC (.int 1))) (tVar 3))) (tRet (tC (.bl false))) tNext)
  (tSeq (tPar 6 7 (tCons (tCall (spOf K S__law_holds) [] E0 (tCons (tVar 5) (tCons (tOp (fun x y H Q => rIxU K x y H Q ∨ rIxD x y H Q) (tVar 1) (tC (.int 2))) (tCons (tVar 2) tNil)))) (tCons (tCall (spOf K S__law_holds) [] E0 (tCons (tVar 5) (tCons (tOp (fun x y H Q => rIxU K x y H Q ∨ rIxD x y H Q) (tVar 1) (tC (.int 2))) (tCons (tVar 4) tNil)))) tNil)))
  (tRet (tIf (tTest (tOp (rEqD K) (tOp (fun x y H Q => rIxU K x y H Q ∨ rIxD x y H Q) (tVar 1) (tC (.int 0))) (tC (.str "refused")))) (tVar 6) (tIf (tTest (tOp (rEqD K) (tOp (fun x y H Q => rIxU K x y H Q ∨ rIxD x y H Q) (tVar 1) (tC (.int 0))) (tC (.str "makes")))) (tNotV (tVar 7)) (tOp (rNeD K) (tVar 6) (tVar 7)))))))))
def a__law_bars (K : Fg) (S__law_holds : ASp) : AS := (aSeq (aAsg (aOp gIx (aVar 0) (aC (.int 0))) (aGn 5))
  (aSeq (aIfS (aT (aOp (rd2 (fEq false)) (aOp gIx (aVar 1) (aC (.int 0))) (aC (.str "never")))) (aRet (aOrV (aCall S__law_holds (aCons (aVar 5) (aCons (aOp gIx (aVar 1) (aC (.int 1))) (aCons (aVar 2) aNil)))) (aCall S__law_holds (aCons (aVar 5) (aCons (aOp gIx (aVar 1) (aC (.int 1))) (aCons (aVar 4) aNil)))))) aNext)
  (aSeq (aIfS (aT (aOp (rd2 (fEq true)) (aOp gIx (aVar 1) (aC (.int 1))) (aVar 3))) (aRet (aC (.bl false))) aNext)
  (aSeq (aPar 6 7 (aCons (aCall S__law_holds (aCons (aVar 5) (aCons (aOp gIx (aVar 1) (aC (.int 2))) (aCons (aVar 2) aNil)))) (aCons (aCall S__law_holds (aCons (aVar 5) (aCons (aOp gIx (aVar 1) (aC (.int 2))) (aCons (aVar 4) aNil)))) aNil)))
  (aRet (aIfE (aT (aOp (rd2 (fEq false)) (aOp gIx (aVar 1) (aC (.int 0))) (aC (.str "refused")))) (aVar 6) (aIfE (aT (aOp (rd2 (fEq false)) (aOp gIx (aVar 1) (aC (.int 0))) (aC (.str "makes")))) (aNotV (aVar 7)) (aOp (rd2 (fEq true)) (aVar 6) (aVar 7)))))))))
theorem sc__law_bars : FnScope N__law_bars P__law_bars (defScope (top 65)) := ⟨rfl, rfl, rfl, by decide +kernel, rfl, by decide +kernel, by decide +kernel⟩
theorem jf__law_bars {P : Program} {w : World} {K : Fg} {mg : Str → Option Value} {base : Heap} {S__law_holds : ASp} {f : Addr} {cdv : Value} {A : Around} {outer : List Env} {s : Shared} {H : Hp} {E : XK} {lv : Nat} (T : Top K mg) (hr : Room lv (A.deeper (envOfC "_law_bars" (defScope (top 65)) s.heap.objs.size f cdv))) {n__law_holds : Nat} (c__law_holds : Cal P w K mg base d__law_holds (ad__law_holds K) n__law_holds P__law_holds S__law_holds) (h__law_holds : n__law_holds ≤ lv) :
    JSs (bX P w K mg base N__law_bars "_law_bars" (defScope (top 65)) f cdv A outer s H E) (defBody (top 65)) (t__law_bars K S__law_holds) (a__law_bars K S__law_holds) := by
  have nd := sc__law_bars.nd
  have hu1 := hu1_of hr
  have hu64 := hu64_of hr
  have hu65 := hu65_of hr
  exact (jss_cons (js_set 5 nd (j_ix hu1 (jv 0) j_int))
  (jss_cons (js_if (jt_cmp (c_eq hu64) (j_ix hu1 (jv 1) j_int) j_str) (jss_one (js_ret (j_or (j_callC c__law_holds T.g__law_holds b__law_holds hr h__law_holds rfl (ja_cons (jv 5) (ja_cons (j_ix hu1 (jv 1) j_int) (ja_cons (jv 2) ja_nil)))) (j_one (j_callC c__law_holds T.g__law_holds b__law_holds hr h__law_holds rfl (ja_cons (jv 5) (ja_cons (j_ix hu1 (jv 1) j_int) (ja_cons (jv 4) ja_nil)))))))) jss_nil)
  (jss_cons (js_if (jt_cmp (c_ne hu64) (j_ix hu1 (jv 1) j_int) (jv 3)) (jss_one (js_ret j_bl)) jss_nil)
  (jss_cons (js_par 6 7 rfl nd (ja_cons (j_callC c__law_holds T.g__law_holds b__law_holds hr h__law_holds rfl (ja_cons (jv 5) (ja_cons (j_ix hu1 (jv 1) j_int) (ja_cons (jv 2) ja_nil)))) (ja_cons (j_callC c__law_holds T.g__law_holds b__law_holds hr h__law_holds rfl (ja_cons (jv 5) (ja_cons (j_ix hu1 (jv 1) j_int) (ja_cons (jv 4) ja_nil)))) ja_nil)))
  (jss_one (js_ret (j_if (jt_cmp (c_eq hu64) (j_ix hu1 (jv 1) j_int) j_str) (jv 6) (j_if (jt_cmp (c_eq hu64) (j_ix hu1 (jv 1) j_int) j_str) (j_not (jv 7)) (j_cmp (c_ne hu64) (jv 6) (jv 7))))))))))
def t__law_open (K : Fg) (S__law_atoms : ASp) (S__law_holds : ASp) : TS := (tRet (tLc (iSeq K (tCall (spOf K S__law_atoms) [] E0 (tCons (tVar 0) tNil))) (gName 1) (tTest (tOp (rEqD K) (tLc (iSeq K (tOp (fun x y H Q => rIxU K x y H Q ∨ rIxD x y H Q) (tVar 0) (tC (.int 2)))) (gName 2) (tAnd (tTest (tOp (rEqD K) (tOp (fun x y H Q => rIxU K x y H Q ∨ rIxD x y H Q) (tVar 2) (tC (.int 0))) (tC (.str "never")))) (tB (tCall (spOf K S__law_holds) [] E0 (tCons (tOp (fun x y H Q => rIxU K x y H Q ∨ rIxD x y H Q) (tVar 0) (tC (.int 0))) (tCons (tOp (fun x y H Q => rIxU K x y H Q ∨ rIxD x y H Q) (tVar 2) (tC (.int 1))) (tCons (tVar 1) tNil)))))) (tC (.int 1)) [2]) (tLst tNil))) (tVar 1) [1]))
def a__law_open (K : Fg) (S__law_atoms : ASp) (S__law_holds : ASp) : AS := (aRet (aLc (aSeqI (aCall S__law_atoms (aCons (aVar 0) aNil))) (aGn 1) (aT (aOp (rd2 (fEq false)) (aLc (aSeqI (aOp gIx (aVar 0) (aC (.int 2)))) (aGn 2) (aAnd (aT (aOp (rd2 (fEq false)) (aOp gIx (aVar 2) (aC (.int 0))) (aC (.str "never")))) (aT (aCall S__law_holds (aCons (aOp gIx (aVar 0) (aC (.int 0))) (aCons (aOp gIx (aVar 2) (aC (.int 1))) (aCons (aVar 1) aNil)))))) (aC (.int 1)) [2]) (aLst aNil))) (aVar 1) [1]))
theorem sc__law_open : FnScope N__law_open P__law_open (defScope (top 66)) := ⟨rfl, rfl, rfl, by decide +kernel, rfl, by decide +kernel, by decide +kernel⟩
theorem jf__law_open {P : Program} {w : World} {K : Fg} {mg : Str → Option Value} {base : Heap} {S__law_atoms : ASp} {S__law_holds : ASp} {f : Addr} {cdv : Value} {A : Around} {outer : List Env} {s : Shared} {H : Hp} {E : XK} {lv : Nat} (T : Top K mg) (hr : Room lv (A.deeper (envOfC "_law_open" (defScope (top 66)) s.heap.objs.size f cdv))) {n__law_atoms : Nat} (c__law_atoms : Cal P w K mg base d__law_atoms (ad__law_atoms K) n__law_atoms P__law_atoms S__law_atoms) (h__law_atoms : n__law_atoms ≤ lv) {n__law_holds : Nat} (c__law_holds : Cal P w K mg base d__law_holds (ad__law_holds K) n__law_holds P__law_holds S__law_holds) (h__law_holds : n__law_holds ≤ lv) :
    JSs (bX P w K mg base N__law_open "_law_open" (defScope (top 66)) f cdv A outer s H E) (defBody (top 66)) (t__law_open K S__law_atoms S__law_holds) (a__law_open K S__law_atoms S__law_holds) := by
  have nd := sc__law_open.nd
  have hu1 := hu1_of hr
  have hu64 := hu64_of hr
  have hu65 := hu65_of hr
  exact (jss_one (js_ret (j_lc (own := [("atom", 1)]) rfl nd (ji_seq (j_callC c__law_atoms T.g__law_atoms b__law_atoms hr h__law_atoms rfl (ja_cons (jv 0) ja_nil))) (blkOk_by (by kernel_rfl)) (fun _ _ _ _ _ => (jg_name 1 nd)) (go_name) (fun _ _ _ _ _ => (jts_one (jt_cmp (c_eq hu64) (j_lc (own := [("fact", 2)]) rfl nd (ji_seq (j_ix hu1 (jv 0) j_int)) (blkOk_by (by kernel_rfl)) (fun _ _ _ _ _ => (jg_name 2 nd)) (go_name) (fun _ _ _ _ _ => (jts_one (JW.jt (jw_and (jt_cmp (c_eq hu64) (j_ix hu1 (jv 2) j_int) j_str) (jw_and1 (jt_val (j_callC c__law_holds T.g__law_holds b__law_holds hr h__law_holds rfl (ja_cons (j_ix hu1 (jv 0) j_int) (ja_cons (j_ix hu1 (jv 2) j_int) (ja_cons (jv 1) ja_nil)))))))))) (fun _ _ _ _ _ => j_int)) (j_lst ja_nil)))) (fun _ _ _ _ _ => (jv 1)))))
def t__law_test (K : Fg) (S__law_take : ASp) (S__law_pick : ASp) (S__law_test : ASp) : TS := (tSeq (tAsg (tCall (spOf K S__law_take) [] E0 (tCons (tVar 0) (tCons (tC (.int 8)) tNil))) (gName 3))
  (tSeq (tIfS (tOr (tTest (tOp (rEqD K) (tVar 2) (tC (.int 0)))) (tTest (tOp (rI0 fun i j => .bl (decide (i < j))) (tVar 3) (tC (.int 4))))) (tRet (tCall (spOf K S__law_pick) [] E0 (tCons (tVar 0) (tCons (tOp (rAddU K) (tOp rMulA (tLc (iSeq K (tVar 1)) (gName 4) tYes (tTup (tCons (tC (.str "is")) (tCons (tVar 4) tNil))) [4]) (tC (.int 4))) (tLst (tCons (tTup (tCons (tC (.str "yes")) tNil)) (tCons (tTup (tCons (tC (.str "no")) tNil)) tNil)))) tNil)))) tNext)
  (tSeq (tIfS (tTest (tOp (rI0 fun i j => .bl (decide (i < j))) (tVar 3) (tC (.int 6)))) (tRet (tTup (tCons (tC (.str "not")) (tCons (tCall (spOf K S__law_test) [] E0 (tCons (tVar 0) (tCons (tVar 1) (tCons (tOp (rI0 fun i j => .int (i - j)) (tVar 2) (tC (.int 1))) tNil)))) tNil)))) tNext)
  (tRet (tTup (tCons (tCall (spOf K S__law_pick) [] E0 (tCons (tVar 0) (tCons (tLst (tCons (tC (.str "and")) (tCons (tC (.str "or")) tNil))) tNil))) (tCons (tCall (spOf K S__law_test) [] E0 (tCons (tVar 0) (tCons (tVar 1) (tCons (tOp (rI0 fun i j => .int (i - j)) (tVar 2) (tC (.int 1))) tNil)))) (tCons (tCall (spOf K S__law_test) [] E0 (tCons (tVar 0) (tCons (tVar 1) (tCons (tOp (rI0 fun i j => .int (i - j)) (tVar 2) (tC (.int 1))) tNil)))) tNil))))))))
def a__law_test (K : Fg) (S__law_take : ASp) (S__law_pick : ASp) (S__law_test : ASp) : AS := (aSeq (aAsg (aCall S__law_take (aCons (aVar 0) (aCons (aC (.int 8)) aNil))) (aGn 3))
  (aSeq (aIfS (aOr (aT (aOp (rd2 (fEq false)) (aVar 2) (aC (.int 0)))) (aT (aOp (aCI fun i j => decide (i < j)) (aVar 3) (aC (.int 4))))) (aRet (aCall S__law_pick (aCons (aVar 0) (aCons (aOp (rd2 fAdd) (aOp (rd2 fMul) (aLc (aSeqI (aVar 1)) (aGn 4) aYes (aTup (aCons (aC (.str "is")) (aCons (aVar 4) aNil))) [4]) (aC (.int 4))) (aLst (aCons (aTup (aCons (aC (.str "yes")) aNil)) (aCons (aTup (aCons (aC (.str "no")) aNil)) aNil)))) aNil)))) aNext)
  (aSeq (aIfS (aT (aOp (aCI fun i j => decide (i < j)) (aVar 3) (aC (.int 6)))) (aRet (aTup (aCons (aC (.str "not")) (aCons (aCall S__law_test (aCons (aVar 0) (aCons (aVar 1) (aCons (aOp (aI (fun _ _ => True) (gI fun i j => i - j)) (aVar 2) (aC (.int 1))) aNil)))) aNil)))) aNext)
  (aRet (aTup (aCons (aCall S__law_pick (aCons (aVar 0) (aCons (aLst (aCons (aC (.str "and")) (aCons (aC (.str "or")) aNil))) aNil))) (aCons (aCall S__law_test (aCons (aVar 0) (aCons (aVar 1) (aCons (aOp (aI (fun _ _ => True) (gI fun i j => i - j)) (aVar 2) (aC (.int 1))) aNil)))) (aCons (aCall S__law_test (aCons (aVar 0) (aCons (aVar 1) (aCons (aOp (aI (fun _ _ => True) (gI fun i j => i - j)) (aVar 2) (aC (.int 1))) aNil)))) aNil))))))))
theorem sc__law_test : FnScope N__law_test P__law_test (defScope (top 67)) := ⟨rfl, rfl, rfl, by decide +kernel, rfl, by decide +kernel, by decide +kernel⟩
theorem jf__law_test {P : Program} {w : World} {K : Fg} {mg : Str → Option Value} {base : Heap} {S__law_take : ASp} {S__law_pick : ASp} {S__law_test : ASp} {f : Addr} {cdv : Value} {A : Around} {outer : List Env} {s : Shared} {H : Hp} {E : XK} {lv : Nat} (T : Top K mg) (hr : Room lv (A.deeper (envOfC "_law_test" (defScope (top 67)) s.heap.objs.size f cdv))) {n__law_take : Nat} (c__law_take : Cal P w K mg base d__law_take (ad__law_take K) n__law_take P__law_take S__law_take) (h__law_take : n__law_take ≤ lv) {n__law_pick : Nat} (c__law_pick : Cal P w K mg base d__law_pick (ad__law_pick K) n__law_pick P__law_pick S__law_pick) (h__law_pick : n__law_pick ≤ lv) {n__law_test : Nat} (c__law_test : Cal P w K mg base d__law_test (ad__law_test K) n__law_test P__law_test S__law_test) (h__law_test : n__law_test ≤ lv) :
    JSs (bX P w K mg base N__law_test "_law_test" (defScope (top 67)) f cdv A outer s H E) (defBody (top 67)) (t__law_test K S__law_take S__law_pick S__law_test) (a__law_test K S__law_take S__law_pick S__law_test) := by
  have nd := sc__law_test.nd
  have hu1 := hu1_of hr
  have hu64 := hu64_of hr
  have hu65 := hu65_of hr
  exact (jss_cons (js_set 3 nd (j_callC c__law_take T.g__law_take b__law_take hr h__law_take rfl (ja_cons (jv 0) (ja_cons j_int ja_nil))))
  (jss_cons (js_if (JW.jt (jw_or (jt_cmp (c_eq hu64) (jv 2) j_int) (jw_or1 (jt_cmp c_lt (jv 3) j_int)))) (jss_one (js_ret (j_callC c__law_pick T.g__law_pick b__law_pick hr h__law_pick rfl (ja_cons (jv 0) (ja_cons (j_add (j_mul (j_lc (own := [("word", 4)]) rfl nd (ji_seq (jv 1)) (blkOk_by (by kernel_rfl)) (fun _ _ _ _ _ => (jg_name 4 nd)) (go_name) (fun _ _ _ _ _ => jts_nil) (fun _ _ _ _ _ => (j_tup (ja_cons j_str (ja_cons (jv 4) ja_nil))))) j_int) (j_lst (ja_cons (j_tup (ja_cons j_str ja_nil)) (ja_cons (j_tup (ja_cons j_str ja_nil)) ja_nil)))) ja_nil))))) jss_nil)
  (jss_cons (js_if (jt_cmp c_lt (jv 3) j_int) (jss_one (js_ret (j_tup (ja_cons j_str (ja_cons (j_callC c__law_test T.g__law_test b__law_test hr h__law_test rfl (ja_cons (jv 0) (ja_cons (jv 1) (ja_cons (j_sub (jv 2) j_int) ja_nil)))) ja_nil))))) jss_nil)
  (jss_one (js_ret (j_tup (ja_cons (j_callC c__law_pick T.g__law_pick b__law_pick hr h__law_pick rfl (ja_cons (jv 0) (ja_cons (j_lst (ja_cons j_str (ja_cons j_str ja_nil))) ja_nil))) (ja_cons (j_callC c__law_test T.g__law_test b__law_test hr h__law_test rfl (ja_cons (jv 0) (ja_cons (jv 1) (ja_cons (j_sub (jv 2) j_int) ja_nil)))) (ja_cons (j_callC c__law_test T.g__law_test b__law_test hr h__law_test rfl (ja_cons (jv 0) (ja_cons (jv 1) (ja_cons (j_sub (jv 2) j_int) ja_nil)))) ja_nil)))))))))
def t__law_words (K : Fg) (S__law_shuffled : ASp) : TS := (tRet (tSl (rSlU K) (tCall (spOf K S__law_shuffled) [] E0 (tCons (tVar 0) (tCons (tLst (tCons (tC (.str "lit")) (tCons (tC (.str "warm")) (tCons (tC (.str "a")) (tCons (tC (.str "b")) (tCons (tC (.str "zz")) (tCons (tC (.str "press")) (tCons (tC (.str "wait")) (tCons (tC (.str "go")) (tCons (tC (.str "call")) (tCons (tC (.str "do")) (tCons (tC (.str "some")) (tCons (tC (.str "abcdefgh")) tNil))))))))))))) tNil))) tNoPart (tPart (tVar 1))))
def a__law_words (K : Fg) (S__law_shuffled : ASp) : AS := (aRet (aSl (aCall S__law_shuffled (aCons (aVar 0) (aCons (aLst (aCons (aC (.str "lit")) (aCons (aC (.str "warm")) (aCons (aC (.str "a")) (aCons (aC (.str "b")) (aCons (aC (.str "zz")) (aCons (aC (.str "press")) (aCons (aC (.str "wait")) (aCons (aC (.str "go")) (aCons (aC (.str "call")) (aCons (aC (.str "do")) (aCons (aC (.str "some")) (aCons (aC (.str "abcdefgh")) aNil))))))))))))) aNil))) aNoP (aPart (aVar 1))))
theorem sc__law_words : FnScope N__law_words P__law_words (defScope (top 68)) := ⟨rfl, rfl, rfl, by decide +kernel, rfl, by decide +kernel, by decide +kernel⟩
theorem jf__law_words {P : Program} {w : World} {K : Fg} {mg : Str → Option Value} {base : Heap} {S__law_shuffled : ASp} {f : Addr} {cdv : Value} {A : Around} {outer : List Env} {s : Shared} {H : Hp} {E : XK} {lv : Nat} (T : Top K mg) (hr : Room lv (A.deeper (envOfC "_law_words" (defScope (top 68)) s.heap.objs.size f cdv))) {n__law_shuffled : Nat} (c__law_shuffled : Cal P w K mg base d__law_shuffled (ad__law_shuffled K) n__law_shuffled P__law_shuffled S__law_shuffled) (h__law_shuffled : n__law_shuffled ≤ lv) :
    JSs (bX P w K mg base N__law_words "_law_words" (defScope (top 68)) f cdv A outer s H E) (defBody (top 68)) (t__law_words K S__law_shuffled) (a__law_words K S__law_shuffled) := by
  have nd := sc__law_words.nd
  have hu1 := hu1_of hr
  have hu64 := hu64_of hr
  have hu65 := hu65_of hr
  exact (jss_one (js_ret (j_slice (j_callC c__law_shuffled T.g__law_shuffled b__law_shuffled hr h__law_shuffled rfl (ja_cons (jv 0) (ja_cons (j_lst (ja_cons j_str (ja_cons j_str (ja_cons j_str (ja_cons j_str (ja_cons j_str (ja_cons j_str (ja_cons j_str (ja_cons j_str (ja_cons j_str (ja_cons j_str (ja_cons j_str (ja_cons j_str ja_nil))))))))))))) ja_nil))) jo_none (jo_some (jv 1)))))
def t__law_fact (K : Fg) (S__law_pick : ASp) (S__law_test : ASp) : TS := (tSeq (tPar 3 4 (tCons (tCall (spOf K S__law_test) [] E0 (tCons (tVar 0) (tCons (tVar 1) (tCons (tC (.int 2)) tNil)))) (tCons (tCall (spOf K S__law_pick) [] E0 (tCons (tVar 0) (tCons (tLst (tCons (tC (.str "never")) (tCons (tC (.str "refused")) (tCons (tC (.str "makes")) (tCons (tC (.str "keeps")) (tCons (tC (.str "keeps")) tNil)))))) tNil))) tNil)))
  (tRet (tIf (tTest (tOp (rEqD K) (tVar 4) (tC (.str "never")))) (tTup (tCons (tC (.str "never")) (tCons (tVar 3) tNil))) (tTup (tCons (tVar 4) (tCons (tCall (spOf K S__law_pick) [] E0 (tCons (tVar 0) (tCons (tVar 2) tNil))) (tCons (tVar 3) tNil)))))))
def a__law_fact (K : Fg) (S__law_pick : ASp) (S__law_test : ASp) : AS := (aSeq (aPar 3 4 (aCons (aCall S__law_test (aCons (aVar 0) (aCons (aVar 1) (aCons (aC (.int 2)) aNil)))) (aCons (aCall S__law_pick (aCons (aVar 0) (aCons (aLst (aCons (aC (.str "never")) (aCons (aC (.str "refused")) (aCons (aC (.str "makes")) (aCons (aC (.str "keeps")) (aCons (aC (.str "keeps")) aNil)))))) aNil))) aNil)))
  (aRet (aIfE (aT (aOp (rd2 (fEq false)) (aVar 4) (aC (.str "never")))) (aTup (aCons (aC (.str "never")) (aCons (aVar 3) aNil))) (aTup (aCons (aVar 4) (aCons (aCall S__law_pick (aCons (aVar 0) (aCons (aVar 2) aNil))) (aCons (aVar 3) aNil)))))))
theorem sc__law_fact : FnScope N__law_fact P__law_fact (defScope (top 69)) := ⟨rfl, rfl, rfl, by decide +kernel, rfl, by decide +kernel, by decide +kernel⟩
theorem jf__law_fact {P : Program} {w : World} {K : Fg} {mg : Str → Option Value} {base : Heap} {S__law_pick : ASp} {S__law_test : ASp} {f : Addr} {cdv : Value} {A : Around} {outer : List Env} {s : Shared} {H : Hp} {E : XK} {lv : Nat} (T : Top K mg) (hr : Room lv (A.deeper (envOfC "_law_fact" (defScope (top 69)) s.heap.objs.size f cdv))) {n__law_pick : Nat} (c__law_pick : Cal P w K mg base d__law_pick (ad__law_pick K) n__law_pick P__law_pick S__law_pick) (h__law_pick : n__law_pick ≤ lv) {n__law_test : Nat} (c__law_test : Cal P w K mg base d__law_test (ad__law_test K) n__law_test P__law_test S__law_test) (h__law_test : n__law_test ≤ lv) :
    JSs (bX P w K mg base N__law_fact "_law_fact" (defScope (top 69)) f cdv A outer s H E) (defBody (top 69)) (t__law_fact K S__law_pick S__law_test) (a__law_fact K S__law_pick S__law_test) := by
  have nd := sc__law_fact.nd
  have hu1 := hu1_of hr
  have hu64 := hu64_of hr
  have hu65 := hu65_of hr
  exact (jss_cons (js_par 3 4 rfl nd (ja_cons (j_callC c__law_test T.g__law_test b__law_test hr h__law_test rfl (ja_cons (jv 0) (ja_cons (jv 1) (ja_cons j_int ja_nil)))) (ja_cons (j_callC c__law_pick T.g__law_pick b__law_pick hr h__law_pick rfl (ja_cons (jv 0) (ja_cons (j_lst (ja_cons j_str (ja_cons j_str (ja_cons j_str (ja_cons j_str (ja_cons j_str ja_nil)))))) ja_nil))) ja_nil)))
  (jss_one (js_ret (j_if (jt_cmp (c_eq hu64) (jv 4) j_str) (j_tup (ja_cons j_str (ja_cons (jv 3) ja_nil))) (j_tup (ja_cons (jv 4) (ja_cons (j_callC c__law_pick T.g__law_pick b__law_pick hr h__law_pick rfl (ja_cons (jv 0) (ja_cons (jv 2) ja_nil))) (ja_cons (jv 3) ja_nil))))))))
def t__law_told (K : Fg) (S__law_take : ASp) (S__law_pick : ASp) (S__law_words : ASp) (S__law_fact : ASp) (S__law_open : ASp) : TS := (tSeq (tPar 5 6 (tCons (tCall (spOf K S__law_pick) [] E0 (tCons (tVar 0) (tCons (tLst (tCons (tC (.int 0)) (tCons (tC (.int 1)) (tCons (tC (.int 1)) (tCons (tC (.int 2)) (tCons (tC (.int 2)) (tCons (tC (.int 3)) tNil))))))) tNil))) (tCons (tOp (rAddU K) (tC (.int 1)) (tCall (spOf K S__law_take) [] E0 (tCons (tVar 0) (tCons (tC (.int 3)) tNil)))) tNil)))
  (tSeq (tAsg (tCall (spOf K S__law_words) [] E0 (tCons (tVar 0) (tCons (tOp (rAddU K) (tCB rMin2 (tCons (tVar 5) (tCons (tVar 1) tNil))) (tVar 6)) tNil))) (gName 2))
  (tSeq (tAsg (tTup (tCons (tSl (rSlU K) (tVar 2) tNoPart (tPart (tCB rMin2 (tCons (tVar 5) (tCons (tVar 1) tNil))))) (tCons (tSl (rSlU K) (tVar 2) (tPart (tCB rMin2 (tCons (tVar 5) (tCons (tVar 1) tNil)))) tNoPart) tNil))) (gTup K 2 (gCons (gName 7) (gCons (gName 8) gNil))))
  (tSeq (tAsg (tLc (iRng1 (tCons (tCall (spOf K S__law_pick) [] E0 (tCons (tVar 0) (tCons (tLst (tCons (tC (.int 0)) (tCons (tC (.int 0)) (tCons (tC (.int 1)) (tCons (tC (.int 1)) (tCons (tC (.int 2)) (tCons (tC (.int 4)) tNil))))))) tNil))) tNil)) (gName 9) tYes (tCall (spOf K S__law_fact) [] E0 (tCons (tVar 0) (tCons (tVar 7) (tCons (tVar 8) tNil)))) [9]) (gName 3))
  (tSeq (tAsg (tTup (tCons (tVar 7) (tCons (tVar 8) (tCons (tVar 3) tNil)))) (gName 4))
  (tRet (tIf (tOr (tTest (tOp (rNeD K) (tCall (spOf K S__law_open) [] E0 (tCons (tVar 4) tNil)) (tLst tNil))) (tTest (tOp (rEqD K) (tCall (spOf K S__law_take) [] E0 (tCons (tVar 0) (tCons (tC (.int 6)) tNil))) (tC (.int 0))))) (tVar 4) (tTup (tCons (tVar 7) (tCons (tVar 8) (tCons (tLc (iSeq K (tVar 3)) (gName 10) (tTest (tOp (rNeD K) (tOp (fun x y H Q => rIxU K x y H Q ∨ rIxD x y H Q) (tVar 10) (tC (.int 0))) (tC (.str "never")))) (tVar 10) [10]) tNil)))))))))))
def a__law_told (K : Fg) (S__law_take : ASp) (S__law_pick : ASp) (S__law_words : ASp) (S__law_fact : ASp) (S__law_open : ASp) : AS := (aSeq (aPar 5 6 (aCons (aCall S__law_pick (aCons (aVar 0) (aCons (aLst (aCons (aC (.int 0)) (aCons (aC (.int 1)) (aCons (aC (.int 1)) (aCons (aC (.int 2)) (aCons (aC (.int 2)) (aCons (aC (.int 3)) aNil))))))) aNil))) (aCons (aOp (rd2 fAdd) (aC (.int 1)) (aCall S__law_take (aCons (aVar 0) (aCons (aC (.int 3)) aNil)))) aNil)))
  (aSeq (aAsg (aCall S__law_words (aCons (aVar 0) (aCons (aOp (rd2 fAdd) (aCB (on2 fMin) (aCons (aVar 5) (aCons (aVar 1) aNil))) (aVar 6)) aNil))) (aGn 2))
  (aSeq (aAsg (aTup (aCons (aSl (aVar 2) aNoP (aPart (aCB (on2 fMin) (aCons (aVar 5) (aCons (aVar 1) aNil))))) (aCons (aSl (aVar 2) (aPart (aCB (on2 fMin) (aCons (aVar 5) (aCons (aVar 1) aNil)))) aNoP) aNil))) (aGtup 2 (aGcons (aGn 7) (aGcons (aGn 8) aGnil))))
  (aSeq (aAsg (aLc (aRng1 (aCons (aCall S__law_pick (aCons (aVar 0) (aCons (aLst (aCons (aC (.int 0)) (aCons (aC (.int 0)) (aCons (aC (.int 1)) (aCons (aC (.int 1)) (aCons (aC (.int 2)) (aCons (aC (.int 4)) aNil))))))) aNil))) aNil)) (aGn 9) aYes (aCall S__law_fact (aCons (aVar 0) (aCons (aVar 7) (aCons (aVar 8) aNil)))) [9]) (aGn 3))
  (aSeq (aAsg (aTup (aCons (aVar 7) (aCons (aVar 8) (aCons (aVar 3) aNil)))) (aGn 4))
  (aRet (aIfE (aOr (aT (aOp (rd2 (fEq true)) (aCall S__law_open (aCons (aVar 4) aNil)) (aLst aNil))) (aT (aOp (rd2 (fEq false)) (aCall S__law_take (aCons (aVar 0) (aCons (aC (.int 6)) aNil))) (aC (.int 0))))) (aVar 4) (aTup (aCons (aVar 7) (aCons (aVar 8) (aCons (aLc (aSeqI (aVar 3)) (aGn 10) (aT (aOp (rd2 (fEq true)) (aOp gIx (aVar 10) (aC (.int 0))) (aC (.str "never")))) (aVar 10) [10]) aNil)))))))))))
theorem sc__law_told : FnScope N__law_told P__law_told (defScope (top 70)) := ⟨rfl, rfl, rfl, by decide +kernel, rfl, by decide +kernel, by decide +kernel⟩
theorem jf__law_told {P : Program} {w : World} {K : Fg} {mg : Str → Option Value} {base : Heap} {S__law_take : ASp} {S__law_pick : ASp} {S__law_words : ASp} {S__law_fact : ASp} {S__law_open : ASp} {f : Addr} {cdv : Value} {A : Around} {outer : List Env} {s : Shared} {H : Hp} {E : XK} {lv : Nat} (T : Top K mg) (hr : Room lv (A.deeper (envOfC "_law_told" (defScope (top 70)) s.heap.objs.size f cdv))) {n__law_take : Nat} (c__law_take : Cal P w K mg base d__law_take (ad__law_take K) n__law_take P__law_take S__law_take) (h__law_take : n__law_take ≤ lv) {n__law_pick : Nat} (c__law_pick : Cal P w K mg base d__law_pick (ad__law_pick K) n__law_pick P__law_pick S__law_pick) (h__law_pick : n__law_pick ≤ lv) {n__law_words : Nat} (c__law_words : Cal P w K mg base d__law_words (ad__law_words K) n__law_words P__law_words S__law_words) (h__law_words : n__law_words ≤ lv) {n__law_fact : Nat} (c__law_fact : Cal P w K mg base d__law_fact (ad__law_fact K) n__law_fact P__law_fact S__law_fact) (h__law_fact : n__law_fact ≤ lv) {n__law_open : Nat} (c__law_open : Cal P w K mg base d__law_open (ad__law_open K) n__law_open P__law_open S__law_open) (h__law_open : n__law_open ≤ lv) :
    JSs (bX P w K mg base N__law_told "_law_told" (defScope (top 70)) f cdv A outer s H E) (defBody (top 70)) (t__law_told K S__law_take S__law_pick S__law_words S__law_fact S__law_open) (a__law_told K S__law_take S__law_pick S__law_words S__law_fact S__law_open) := by
  have nd := sc__law_told.nd
  have hu1 := hu1_of hr
  have hu64 := hu64_of hr
  have hu65 := hu65_of hr
  exact (jss_cons (js_par 5 6 rfl nd (ja_cons (j_callC c__law_pick T.g__law_pick b__law_pick hr h__law_pick rfl (ja_cons (jv 0) (ja_cons (j_lst (ja_cons j_int (ja_cons j_int (ja_cons j_int (ja_cons j_int (ja_cons j_int (ja_cons j_int ja_nil))))))) ja_nil))) (ja_cons (j_add j_int (j_callC c__law_take T.g__law_take b__law_take hr h__law_take rfl (ja_cons (jv 0) (ja_cons j_int ja_nil)))) ja_nil)))
  (jss_cons (js_set 2 nd (j_callC c__law_words T.g__law_words b__law_words hr h__law_words rfl (ja_cons (jv 0) (ja_cons (j_add (j_callB (c_min rfl) rfl T.b_min (by boot_by_name) (ja_cons (jv 5) (ja_cons (jv 1) ja_nil))) (jv 6)) ja_nil))))
  (jss_cons (js_asg (j_tup (ja_cons (j_slice (jv 2) jo_none (jo_some (j_callB (c_min rfl) rfl T.b_min (by boot_by_name) (ja_cons (jv 5) (ja_cons (jv 1) ja_nil))))) (ja_cons (j_slice (jv 2) (jo_some (j_callB (c_min rfl) rfl T.b_min (by boot_by_name) (ja_cons (jv 5) (ja_cons (jv 1) ja_nil)))) jo_none) ja_nil))) (jg_tup rfl (jgs_cons (jg_name 7 nd) (jgs_cons (jg_name 8 nd) jgs_nil))))
  (jss_cons (js_setLc 3 (own := [("lap", 9)]) rfl nd (ji_range1 rfl T.b_range (ja_cons (j_callC c__law_pick T.g__law_pick b__law_pick hr h__law_pick rfl (ja_cons (jv 0) (ja_cons (j_lst (ja_cons j_int (ja_cons j_int (ja_cons j_int (ja_cons j_int (ja_cons j_int (ja_cons j_int ja_nil))))))) ja_nil))) ja_nil)) (blkOk_by (by kernel_rfl)) (fun _ _ _ _ _ => (jg_name 9 nd)) (go_name) (fun _ _ _ _ _ => jts_nil) (fun _ _ _ _ _ => (j_callC c__law_fact T.g__law_fact b__law_fact hr h__law_fact rfl (ja_cons (jv 0) (ja_cons (jv 7) (ja_cons (jv 8) ja_nil))))))
  (jss_cons (js_set 4 nd (j_tup (ja_cons (jv 7) (ja_cons (jv 8) (ja_cons (jv 3) ja_nil)))))
  (jss_one (js_ret (j_if (JW.jt (jw_or (jt_cmp (c_ne hu64) (j_callC c__law_open T.g__law_open b__law_open hr h__law_open rfl (ja_cons (jv 4) ja_nil)) (j_lst ja_nil)) (jw_or1 (jt_cmp (c_eq hu64) (j_callC c__law_take T.g__law_take b__law_take hr h__law_take rfl (ja_cons (jv 0) (ja_cons j_int ja_nil))) j_int)))) (jv 4) (j_tup (ja_cons (jv 7) (ja_cons (jv 8) (ja_cons (j_lc (own := [("fact", 10)]) rfl nd (ji_seq (jv 3)) (blkOk_by (by kernel_rfl)) (fun _ _ _ _ _ => (jg_name 10 nd)) (go_name) (fun _ _ _ _ _ => (jts_one (jt_cmp (c_ne hu64) (j_ix hu1 (jv 10) j_int) j_str))) (fun _ _ _ _ _ => (jv 10))) ja_nil))))))))))))
def t__law_worlds (K : Fg) (S__law_atoms : ASp) : TS := (tSeq (tAsg (tLst tNil) (gName 1))
  (tSeq (tFor (iSeq K (tCall (spOf K S__law_atoms) [] E0 (tCons (tVar 0) tNil))) (gName 2) (tSeq (tDrop (tBM K "list" rAppend (tVar 1) (tCons (tTup (tCons (tVar 2) (tCons (tC .non) (tCons (tVar 2) tNil)))) tNil)))
  (tFor (iSeq K (tOp (fun x y H Q => rIxU K x y H Q ∨ rIxD x y H Q) (tVar 0) (tC (.int 1)))) (gName 3) (tAsg (tOp (rAddU K) (tVar 1) (tLc (iSeq K (tCall (spOf K S__law_atoms) [] E0 (tCons (tVar 0) tNil))) (gName 4) tYes (tTup (tCons (tVar 2) (tCons (tVar 3) (tCons (tVar 4) tNil)))) [4])) (gName 1)))))
  (tRet (tVar 1))))
def a__law_worlds (K : Fg) (S__law_atoms : ASp) : AS := (aSeq (aAsg (aLstC aNil) (aGn 1))
  (aSeq (aFor (aSeqI (aCall S__law_atoms (aCons (aVar 0) aNil))) (aGn 2) (aSeq (aDrop (aBM gAppend (aVar 1) (aCons (aTup (aCons (aVar 2) (aCons (aC .non) (aCons (aVar 2) aNil)))) aNil)))
  (aFor (aSeqI (aOp gIx (aVar 0) (aC (.int 1)))) (aGn 3) (aAsg (aOp gAddC (aVar 1) (aLc (aSeqI (aCall S__law_atoms (aCons (aVar 0) aNil))) (aGn 4) aYes (aTup (aCons (aVar 2) (aCons (aVar 3) (aCons (aVar 4) aNil)))) [4])) (aGn 1)))))
  (aRet (aVar 1))))
theorem sc__law_worlds : FnScope N__law_worlds P__law_worlds (defScope (top 71)) := ⟨rfl, rfl, rfl, by decide +kernel, rfl, by decide +kernel, by decide +kernel⟩
theorem jf__law_worlds {P : Program} {w : World} {K : Fg} {mg : Str → Option Value} {base : Heap} {S__law_atoms : ASp} {f : Addr} {cdv : Value} {A : Around} {outer : List Env} {s : Shared} {H : Hp} {E : XK} {lv : Nat} (T : Top K mg) (hr : Room lv (A.deeper (envOfC "_law_worlds" (defScope (top 71)) s.heap.objs.size f cdv))) {n__law_atoms : Nat} (c__law_atoms : Cal P w K mg base d__law_atoms (ad__law_atoms K) n__law_atoms P__law_atoms S__law_atoms) (h__law_atoms : n__law_atoms ≤ lv) :
    JSs (bX P w K mg base N__law_worlds "_law_worlds" (defScope (top 71)) f cdv A outer s H E) (defBody (top 71)) (t__law_worlds K S__law_atoms) (a__law_worlds K S__law_atoms) := by
  have nd := sc__law_worlds.nd
  have hu1 := hu1_of hr
  have hu64 := hu64_of hr
  have hu65 := hu65_of hr
  exact (jss_cons (js_set 1 nd (j_lstC ja_nil))
  (jss_cons (js_for PassesOwn.never rfl (ji_seq (j_callC c__law_atoms T.g__law_atoms b__law_atoms hr h__law_atoms rfl (ja_cons (jv 0) ja_nil))) (jg_name 2 nd) (jss_cons (js_expr (j_append (jv 1) (ja_cons (j_tup (ja_cons (jv 2) (ja_cons j_non (ja_cons (jv 2) ja_nil)))) ja_nil)))
  (jss_one (js_for PassesOwn.never rfl (ji_seq (j_ix hu1 (jv 0) j_int)) (jg_name 3 nd) (jss_one (js_set 1 nd (j_addC (jv 1) (j_lc (own := [("other", 4)]) rfl nd (ji_seq (j_callC c__law_atoms T.g__law_atoms b__law_atoms hr h__law_atoms rfl (ja_cons (jv 0) ja_nil))) (blkOk_by (by kernel_rfl)) (fun _ _ _ _ _ => (jg_name 4 nd)) (go_name) (fun _ _ _ _ _ => jts_nil) (fun _ _ _ _ _ => (j_tup (ja_cons (jv 2) (ja_cons (jv 3) (ja_cons (jv 4) ja_nil)))))))))))))
  (jss_one (js_ret (jv 1)))))
def t__law_keeps (K : Fg) (S__law_holds : ASp) (S__law_bars : ASp) : TS := (tSeq (tAsg (tVar 2) (gTup K 3 (gCons (gName 3) (gCons (gName 4) (gCons (gName 5) gNil)))))
  (tSeq (tIfS (tTest (tOp (rEqD K) (tOp (fun x y H Q => rIxU K x y H Q ∨ rIxD x y H Q) (tVar 1) (tC (.int 0))) (tC (.str "never")))) (tRet (tAndV (tNotV (tCall (spOf K S__law_holds) [] E0 (tCons (tOp (fun x y H Q => rIxU K x y H Q ∨ rIxD x y H Q) (tVar 0) (tC (.int 0))) (tCons (tOp (fun x y H Q => rIxU K x y H Q ∨ rIxD x y H Q) (tVar 1) (tC (.int 1))) (tCons (tVar 3) tNil))))) (tNotV (tCall (spOf K S__law_holds) [] E0 (tCons (tOp (fun x y H Q => rIxU K x y H Q ∨ rIxD x y H Q) (tVar 0) (tC (.int 0))) (tCons (tOp (fun x y H Q => rIxU K x y H Q ∨ rIxD x y H Q) (tVar 1) (tC (.int 1))) (tCons (tVar 5) tNil))))))) tNext)
  (tRet (tOrV (tOp rIsN (tVar 4) (tC .non)) (tNotV (tCall (spOf K S__law_bars) [] E0 (tCons (tVar 0) (tCons (tVar 1) (tCons (tVar 3) (tCons (tVar 4) (tCons (tVar 5) tNil)))))))))))
def a__law_keeps (K : Fg) (S__law_holds : ASp) (S__law_bars : ASp) : AS := (aSeq (aAsg (aVar 2) (aGtup 3 (aGcons (aGn 3) (aGcons (aGn 4) (aGcons (aGn 5) aGnil)))))
  (aSeq (aIfS (aT (aOp (rd2 (fEq false)) (aOp gIx (aVar 1) (aC (.int 0))) (aC (.str "never")))) (aRet (aAndV (aNotV (aCall S__law_holds (aCons (aOp gIx (aVar 0) (aC (.int 0))) (aCons (aOp gIx (aVar 1) (aC (.int 1))) (aCons (aVar 3) aNil))))) (aNotV (aCall S__law_holds (aCons (aOp gIx (aVar 0) (aC (.int 0))) (aCons (aOp gIx (aVar 1) (aC (.int 1))) (aCons (aVar 5) aNil))))))) aNext)
  (aRet (aOrV (aOp (rd2 (fIs false)) (aVar 4) (aC .non)) (aNotV (aCall S__law_bars (aCons (aVar 0) (aCons (aVar 1) (aCons (aVar 3) (aCons (aVar 4) (aCons (aVar 5) aNil)))))))))))
theorem sc__law_keeps : FnScope N__law_keeps P__law_keeps (defScope (top 72)) := ⟨rfl, rfl, rfl, by decide +kernel, rfl, by decide +kernel, by decide +kernel⟩
theorem jf__law_keeps {P : Program} {w : World} {K : Fg} {mg : Str → Option Value} {base : Heap} {S__law_holds : ASp} {S__law_bars : ASp} {f : Addr} {cdv : Value} {A : Around} {outer : List Env} {s : Shared} {H : Hp} {E : XK} {lv : Nat} (T : Top K mg) (hr : Room lv (A.deeper (envOfC "_law_keeps" (defScope (top 72)) s.heap.objs.size f cdv))) {n__law_holds : Nat} (c__law_holds : Cal P w K mg base d__law_holds (ad__law_holds K) n__law_holds P__law_holds S__law_holds) (h__law_holds : n__law_holds ≤ lv) {n__law_bars : Nat} (c__law_bars : Cal P w K mg base d__law_bars (ad__law_bars K) n__law_bars P__law_bars S__law_bars) (h__law_bars : n__law_bars ≤ lv) :
    JSs (bX P w K mg base N__law_keeps "_law_keeps" (defScope (top 72)) f cdv A outer s H E) (defBody (top 72)) (t__law_keeps K S__law_holds S__law_bars) (a__law_keeps K S__law_holds S__law_bars) := by
  have nd := sc__law_keeps.nd
  have hu1 := hu1_of hr
  have hu64 := hu64_of hr
  have hu65 := hu65_of hr
  exact (jss_cons (js_asg (jv 2) (jg_tup rfl (jgs_cons (jg_name 3 nd) (jgs_cons (jg_name 4 nd) (jgs_cons (jg_name 5 nd) jgs_nil)))))
  (jss_cons (js_if (jt_cmp (c_eq hu64) (j_ix hu1 (jv 1) j_int) j_str) (jss_one (js_ret (j_and (j_not (j_callC c__law_holds T.g__law_holds b__law_holds hr h__law_holds rfl (ja_cons (j_ix hu1 (jv 0) j_int) (ja_cons (j_ix hu1 (jv 1) j_int) (ja_cons (jv 3) ja_nil))))) (j_one (j_not (j_callC c__law_holds T.g__law_holds b__law_holds hr h__law_holds rfl (ja_cons (j_ix hu1 (jv 0) j_int) (ja_cons (j_ix hu1 (jv 1) j_int) (ja_cons (jv 5) ja_nil))))))))) jss_nil)
  (jss_one (js_ret (j_or (j_cmp c_is (jv 4) j_non) (j_one (j_not (j_callC c__law_bars T.g__law_bars b__law_bars hr h__law_bars rfl (ja_cons (jv 0) (ja_cons (jv 1) (ja_cons (jv 3) (ja_cons (jv 4) (ja_cons (jv 5) ja_nil)))))))))))))
def t__law_kept (K : Fg) (S__law_worlds : ASp) (S__law_keeps : ASp) : TS := (tRet (tLc (iSeq K (tCall (spOf K S__law_worlds) [] E0 (tCons (tVar 0) tNil))) (gName 2) (tTest (tOp (rEqD K) (tLc (iSeq K (tVar 1)) (gName 3) (tNot (tB (tCall (spOf K S__law_keeps) [] E0 (tCons (tVar 0) (tCons (tVar 3) (tCons (tVar 2) tNil)))))) (tVar 3) [3]) (tLst tNil))) (tVar 2) [2]))
def a__law_kept (K : Fg) (S__law_worlds : ASp) (S__law_keeps : ASp) : AS := (aRet (aLc (aSeqI (aCall S__law_worlds (aCons (aVar 0) aNil))) (aGn 2) (aT (aOp (rd2 (fEq false)) (aLc (aSeqI (aVar 1)) (aGn 3) (aNot (aT (aCall S__law_keeps (aCons (aVar 0) (aCons (aVar 3) (aCons (aVar 2) aNil)))))) (aVar 3) [3]) (aLst aNil))) (aVar 2) [2]))
theorem sc__law_kept : FnScope N__law_kept P__law_kept (defScope (top 73)) := ⟨rfl, rfl, rfl, by decide +kernel, rfl, by decide +kernel, by decide +kernel⟩
theorem jf__law_kept {P : Program} {w : World} {K : Fg} {mg : Str → Option Value} {base : Heap} {S__law_worlds : ASp} {S__law_keeps : ASp} {f : Addr} {cdv : Value} {A : Around} {outer : List Env} {s : Shared} {H : Hp} {E : XK} {lv : Nat} (T : Top K mg) (hr : Room lv (A.deeper (envOfC "_law_kept" (defScope (top 73)) s.heap.objs.size f cdv))) {n__law_worlds : Nat} (c__law_worlds : Cal P w K mg base d__law_worlds (ad__law_worlds K) n__law_worlds P__law_worlds S__law_worlds) (h__law_worlds : n__law_worlds ≤ lv) {n__law_keeps : Nat} (c__law_keeps : Cal P w K mg base d__law_keeps (ad__law_keeps K) n__law_keeps P__law_keeps S__law_keeps) (h__law_keeps : n__law_keeps ≤ lv) :
    JSs (bX P w K mg base N__law_kept "_law_kept" (defScope (top 73)) f cdv A outer s H E) (defBody (top 73)) (t__law_kept K S__law_worlds S__law_keeps) (a__law_kept K S__law_worlds S__law_keeps) := by
  have nd := sc__law_kept.nd
  have hu1 := hu1_of hr
  have hu64 := hu64_of hr
  have hu65 := hu65_of hr
  exact (jss_one (js_ret (j_lc (own := [("world", 2)]) rfl nd (ji_seq (j_callC c__law_worlds T.g__law_worlds b__law_worlds hr h__law_worlds rfl (ja_cons (jv 0) ja_nil))) (blkOk_by (by kernel_rfl)) (fun _ _ _ _ _ => (jg_name 2 nd)) (go_name) (fun _ _ _ _ _ => (jts_one (jt_cmp (c_eq hu64) (j_lc (own := [("fact", 3)]) rfl nd (ji_seq (jv 1)) (blkOk_by (by kernel_rfl)) (fun _ _ _ _ _ => (jg_name 3 nd)) (go_name) (fun _ _ _ _ _ => (jts_one (jt_not (jt_val (j_callC c__law_keeps T.g__law_keeps b__law_keeps hr h__law_keeps rfl (ja_cons (jv 0) (ja_cons (jv 3) (ja_cons (jv 2) ja_nil)))))))) (fun _ _ _ _ _ => (jv 3))) (j_lst ja_nil)))) (fun _ _ _ _ _ => (jv 2)))))
def t__law_right (K : Fg) (S__law_told : ASp) (S__law_pick : ASp) (S__law_fact : ASp) (S__law_kept : ASp) (S_Tongue___init__ : ASp) (S__law_atoms : ASp) (S__law_says : ASp) (S_open_atoms : ASp) (S_open_after : ASp) (S__law_keeps : ASp) (S_barring : ASp) (S_follows : ASp) (S_needless : ASp) (S__law_shuffled : ASp) (S_same_facts : ASp) : TS := (tSeq (tAsg (tCall (spOf K S__law_told) [] E0 (tCons (tVar 0) (tCons (tC (.int 3)) tNil))) (gName 1))
  (tSeq (tAsg (tTup (tCons (tOp (fun x y H Q => rIxU K x y H Q ∨ rIxD x y H Q) (tVar 1) (tC (.int 0))) (tCons (tOp (fun x y H Q => rIxU K x y H Q ∨ rIxD x y H Q) (tVar 1) (tC (.int 1))) (tCons (tOp (rAddU K) (tOp (fun x y H Q => rIxU K x y H Q ∨ rIxD x y H Q) (tVar 1) (tC (.int 2))) (tLc (iRng1 (tCons (tCall (spOf K S__law_pick) [] E0 (tCons (tVar 0) (tCons (tLst (tCons (tC (.int 0)) (tCons (tC (.int 0)) (tCons (tC (.int 1)) (tCons (tC (.int 4)) tNil))))) tNil))) tNil)) (gName 3) tYes (tCall (spOf K S__law_fact) [] E0 (tCons (tVar 0) (tCons (tOp (fun x y H Q => rIxU K x y H Q ∨ rIxD x y H Q) (tVar 1) (tC (.int 0))) (tCons (tOp (fun x y H Q => rIxU K x y H Q ∨ rIxD x y H Q) (tVar 1) (tC (.int 1))) tNil)))) [3])) tNil)))) (gName 1))
  (tSeq (tAsg (tTup (tCons (tMake (He.ga K "Tongue") (spOf K S_Tongue___init__) [] E0 (tCons (tOp (fun x y H Q => rIxU K x y H Q ∨ rIxD x y H Q) (tVar 1) (tC (.int 0))) (tCons (tOp (fun x y H Q => rIxU K x y H Q ∨ rIxD x y H Q) (tVar 1) (tC (.int 1))) (tCons (tOp (fun x y H Q => rIxU K x y H Q ∨ rIxD x y H Q) (tVar 1) (tC (.int 2))) tNil)))) (tCons (tCall (spOf K S__law_kept) [] E0 (tCons (tVar 1) (tCons (tOp (fun x y H Q => rIxU K x y H Q ∨ rIxD x y H Q) (tVar 1) (tC (.int 2))) tNil))) tNil))) (gTup K 2 (gCons (gName 6) (gCons (gName 7) gNil))))
  (tSeq (tAsg (tCB (rTupOf K) (tCons (tLc (iSeq K (tCall (spOf K S__law_atoms) [] E0 (tCons (tVar 1) tNil))) (gName 13) (tTest (tOp (rInU K false) (tTup (tCons (tVar 13) (tCons (tC .non) (tCons (tVar 13) tNil)))) (tVar 7))) (tVar 13) [13]) tNil)) (gName 2))
  (tSeq (tIfS (tNot (tB (tCall (spOf K S__law_says) [] E0 (tCons (tLst (tCons (tCall (spOf K S_open_atoms) [] E0 (tCons (tVar 6) tNil)) (tCons (tKw 1 (spOf K S_open_atoms) [0] (tCons (tVar 6) tNil)) tNil))) (tCons (tLst (tCons (tVar 2) (tCons (tVar 2) tNil))) tNil))))) (tRet (tC (.bl false))) tNext)
  (tSeq (tFor (iRng1 (tCons (tC (.int 8)) tNil)) (gName 3) (tSeq (tAsg (tTup (tCons (tCall (spOf K S__law_pick) [] E0 (tCons (tVar 0) (tCons (tCall (spOf K S__law_atoms) [] E0 (tCons (tVar 1) tNil)) tNil))) (tCons (tCall (spOf K S__law_pick) [] E0 (tCons (tVar 0) (tCons (tOp (fun x y H Q => rIxU K x y H Q ∨ rIxD x y H Q) (tVar 1) (tC (.int 1))) tNil))) (tCons (tCall (spOf K S__law_pick) [] E0 (tCons (tVar 0) (tCons (tCall (spOf K S__law_atoms) [] E0 (tCons (tVar 1) tNil)) tNil))) tNil)))) (gTup K 3 (gCons (gName 13) (gCons (gName 14) (gCons (gName 12) gNil)))))
  (tSeq (tAsg (tCB (rTupOf K) (tCons (tLc (iSeq K (tCall (spOf K S__law_atoms) [] E0 (tCons (tVar 1) tNil))) (gName 15) (tTest (tOp (rInU K false) (tTup (tCons (tVar 13) (tCons (tVar 14) (tCons (tVar 15) tNil)))) (tVar 7))) (tVar 15) [15]) tNil)) (gName 2))
  (tSeq (tIfS (tNot (tB (tCall (spOf K S__law_says) [] E0 (tCons (tLst (tCons (tCall (spOf K S_open_after) [] E0 (tCons (tVar 6) (tCons (tVar 13) (tCons (tVar 14) tNil)))) (tCons (tKw 3 (spOf K S_open_after) [2, 1, 0] (tCons (tVar 14) (tCons (tVar 13) (tCons (tVar 6) tNil)))) tNil))) (tCons (tLst (tCons (tVar 2) (tCons (tVar 2) tNil))) tNil))))) (tRet (tC (.bl false))) tNext)
  (tSeq (tAsg (tLc (iEnumU K (tCons (tOp (fun x y H Q => rIxU K x y H Q ∨ rIxD x y H Q) (tVar 1) (tC (.int 2))) tNil)) (gTup K 2 (gCons (gName 11) (gCons (gName 10) gNil))) (tNot (tB (tCall (spOf K S__law_keeps) [] E0 (tCons (tVar 1) (tCons (tVar 10) (tCons (tTup (tCons (tVar 13) (tCons (tVar 14) (tCons (tVar 12) tNil)))) tNil)))))) (tVar 11) [11, 10]) (gName 8))
  (tSeq (tAsg (tIf (tTest (tOp (rNeD K) (tVar 8) (tLst tNil))) (tOp (fun x y H Q => rIxU K x y H Q ∨ rIxD x y H Q) (tVar 8) (tC (.int 0))) (tC .non)) (gName 9))
  (tIfS (tNot (tB (tCall (spOf K S__law_says) [] E0 (tCons (tLst (tCons (tCall (spOf K S_barring) [] E0 (tCons (tVar 6) (tCons (tVar 13) (tCons (tVar 14) (tCons (tVar 12) tNil))))) (tCons (tKw 4 (spOf K S_barring) [3, 2, 1, 0] (tCons (tVar 12) (tCons (tVar 14) (tCons (tVar 13) (tCons (tVar 6) tNil))))) tNil))) (tCons (tLst (tCons (tVar 9) (tCons (tVar 9) tNil))) tNil))))) (tRet (tC (.bl false))) tNext)))))))
  (tSeq (tFor (iRng1 (tCons (tC (.int 3)) tNil)) (gName 3) (tSeq (tAsg (tCall (spOf K S__law_pick) [] E0 (tCons (tVar 0) (tCons (tOp (rAddU K) (tLst (tCons (tCall (spOf K S__law_fact) [] E0 (tCons (tVar 0) (tCons (tOp (fun x y H Q => rIxU K x y H Q ∨ rIxD x y H Q) (tVar 1) (tC (.int 0))) (tCons (tOp (fun x y H Q => rIxU K x y H Q ∨ rIxD x y H Q) (tVar 1) (tC (.int 1))) tNil)))) tNil)) (tOp (fun x y H Q => rIxU K x y H Q ∨ rIxD x y H Q) (tVar 1) (tC (.int 2)))) tNil))) (gName 10))
  (tSeq (tAsg (tOp (rEqD K) (tLc (iSeq K (tVar 7)) (gName 16) (tNot (tB (tCall (spOf K S__law_keeps) [] E0 (tCons (tVar 1) (tCons (tVar 10) (tCons (tVar 16) tNil)))))) (tVar 16) [16]) (tLst tNil)) (gName 2))
  (tIfS (tNot (tB (tCall (spOf K S__law_says) [] E0 (tCons (tLst (tCons (tCall (spOf K S_follows) [] E0 (tCons (tVar 6) (tCons (tVar 10) tNil))) (tCons (tKw 2 (spOf K S_follows) [1, 0] (tCons (tVar 10) (tCons (tVar 6) tNil))) tNil))) (tCons (tLst (tCons (tVar 2) (tCons (tVar 2) tNil))) tNil))))) (tRet (tC (.bl false))) tNext))))
  (tSeq (tAsg (tLst tNil) (gName 4))
  (tSeq (tFor (iEnumU K (tCons (tOp (fun x y H Q => rIxU K x y H Q ∨ rIxD x y H Q) (tVar 1) (tC (.int 2))) tNil)) (gTup K 2 (gCons (gName 11) (gCons (gName 10) gNil))) (tIfS (tTest (tOp (rEqD K) (tCall (spOf K S__law_kept) [] E0 (tCons (tVar 1) (tCons (tOp (rAddU K) (tSl (rSlU K) (tOp (fun x y H Q => rIxU K x y H Q ∨ rIxD x y H Q) (tVar 1) (tC (.int 2))) tNoPart (tPart (tVar 11))) (tSl (rSlU K) (tOp (fun x y H Q => rIxU K x y H Q ∨ rIxD x y H Q) (tVar 1) (tC (.int 2))) (tPart (tOp (rAddU K) (tVar 11) (tC (.int 1)))) tNoPart)) tNil))) (tVar 7))) (tDrop (tBM K "list" rAppend (tVar 4) (tCons (tVar 11) tNil))) tNext))
  (tSeq (tIfS (tNot (tB (tCall (spOf K S__law_says) [] E0 (tCons (tLst (tCons (tCall (spOf K S_needless) [] E0 (tCons (tVar 6) tNil)) (tCons (tKw 1 (spOf K S_needless) [0] (tCons (tVar 6) tNil)) tNil))) (tCons (tOp rMulA (tLst (tCons (tCB (rTupOf K) (tCons (tVar 4) tNil)) tNil)) (tC (.int 2))) tNil))))) (tRet (tC (.bl false))) tNext)
  (tSeq (tAsg (tSl (rSlU K) (tCall (spOf K S__law_pick) [] E0 (tCons (tVar 0) (tCons (tLst (tCons (tCall (spOf K S__law_shuffled) [] E0 (tCons (tVar 0) (tCons (tOp (fun x y H Q => rIxU K x y H Q ∨ rIxD x y H Q) (tVar 1) (tC (.int 2))) tNil))) (tCons (tLc (iEnumU K (tCons (tOp (fun x y H Q => rIxU K x y H Q ∨ rIxD x y H Q) (tVar 1) (tC (.int 2))) tNil)) (gTup K 2 (gCons (gName 11) (gCons (gName 10) gNil))) (tTest (tOp (rNeD K) (tVar 11) (tOp (fun x y H Q => rIxU K x y H Q ∨ rIxD x y H Q) (tOp (rAddU K) (tVar 4) (tLst (tCons (tC (.int 0)) tNil))) (tC (.int 0))))) (tVar 10) [11, 10]) (tCons (tSl (rSlU K) (tOp (fun x y H Q => rIxU K x y H Q ∨ rIxD x y H Q) (tVar 1) (tC (.int 2))) tNoPart (tPart (tC (.int 1)))) (tCons (tOp (rAddU K) (tOp (fun x y H Q => rIxU K x y H Q ∨ rIxD x y H Q) (tVar 1) (tC (.int 2))) (tLst (tCons (tTup (tCons (tC (.str "never")) (tCons (tTup (tCons (tC (.str "no")) tNil)) tNil))) tNil))) tNil))))) tNil))) tNoPart (tPart (tC (.int 8)))) (gName 5))
  (tSeq (tAsg (tTup (tCons (tMake (He.ga K "Tongue") (spOf K S_Tongue___init__) [] E0 (tCons (tOp (fun x y H Q => rIxU K x y H Q ∨ rIxD x y H Q) (tVar 1) (tC (.int 0))) (tCons (tOp (fun x y H Q => rIxU K x y H Q ∨ rIxD x y H Q) (tVar 1) (tC (.int 1))) (tCons (tVar 5) tNil)))) (tCons (tOp (rEqD K) (tCall (spOf K S__law_kept) [] E0 (tCons (tVar 1) (tCons (tVar 5) tNil))) (tVar 7)) tNil))) (gTup K 2 (gCons (gName 12) (gCons (gName 2) gNil))))
  (tRet (tCall (spOf K S__law_says) [] E0 (tCons (tLst (tCons (tCall (spOf K S_same_facts) [] E0 (tCons (tVar 6) (tCons (tVar 12) tNil))) (tCons (tKw 2 (spOf K S_same_facts) [1, 0] (tCons (tVar 6) (tCons (tVar 12) tNil))) tNil))) (tCons (tLst (tCons (tVar 2) (tCons (tVar 2) tNil))) tNil))))))))))))))))
def a__law_right (K : Fg) (S__law_told : ASp) (S__law_pick : ASp) (S__law_fact : ASp) (S__law_kept : ASp) (S_Tongue___init__ : ASp) (S__law_atoms : ASp) (S__law_says : ASp) (S_open_atoms : ASp) (S_open_after : ASp) (S__law_keeps : ASp) (S_barring : ASp) (S_follows : ASp) (S_needless : ASp) (S__law_shuffled : ASp) (S_same_facts : ASp) : AS := (aSeq (aAsg (aCall S__law_told (aCons (aVar 0) (aCons (aC (.int 3)) aNil))) (aGn 1))
  (aSeq (aAsg (aTup (aCons (aOp gIx (aVar 1) (aC (.int 0))) (aCons (aOp gIx (aVar 1) (aC (.int 1))) (aCons (aOp (rd2 fAdd) (aOp gIx (aVar 1) (aC (.int 2))) (aLc (aRng1 (aCons (aCall S__law_pick (aCons (aVar 0) (aCons (aLst (aCons (aC (.int 0)) (aCons (aC (.int 0)) (aCons (aC (.int 1)) (aCons (aC (.int 4)) aNil))))) aNil))) aNil)) (aGn 3) aYes (aCall S__law_fact (aCons (aVar 0) (aCons (aOp gIx (aVar 1) (aC (.int 0))) (aCons (aOp gIx (aVar 1) (aC (.int 1))) aNil)))) [3])) aNil)))) (aGn 1))
  (aSeq (aAsg (aTup (aCons (aMakeD S_Tongue___init__ (He.ga K "Tongue") [] (aCons (aOp gIx (aVar 1) (aC (.int 0))) (aCons (aOp gIx (aVar 1) (aC (.int 1))) (aCons (aOp gIx (aVar 1) (aC (.int 2))) aNil)))) (aCons (aCall S__law_kept (aCons (aVar 1) (aCons (aOp gIx (aVar 1) (aC (.int 2))) aNil))) aNil))) (aGtup 2 (aGcons (aGn 6) (aGcons (aGn 7) aGnil))))
  (aSeq (aAsg (aCB (on1 fTup) (aCons (aLc (aSeqI (aCall S__law_atoms (aCons (aVar 1) aNil))) (aGn 13) (aT (aOp (rd2 (fIn false)) (aTup (aCons (aVar 13) (aCons (aC .non) (aCons (aVar 13) aNil)))) (aVar 7))) (aVar 13) [13]) aNil)) (aGn 2))
  (aSeq (aIfS (aNot (aT (aCall S__law_says (aCons (aLst (aCons (aCall S_open_atoms (aCons (aVar 6) aNil)) (aCons (aKw 1 S_open_atoms [0] (aCons (aVar 6) aNil)) aNil))) (aCons (aLst (aCons (aVar 2) (aCons (aVar 2) aNil))) aNil))))) (aRet (aC (.bl false))) aNext)
  (aSeq (aFor (aRng1 (aCons (aC (.int 8)) aNil)) (aGn 3) (aSeq (aAsg (aTup (aCons (aCall S__law_pick (aCons (aVar 0) (aCons (aCall S__law_atoms (aCons (aVar 1) aNil)) aNil))) (aCons (aCall S__law_pick (aCons (aVar 0) (aCons (aOp gIx (aVar 1) (aC (.int 1))) aNil))) (aCons (aCall S__law_pick (aCons (aVar 0) (aCons (aCall S__law_atoms (aCons (aVar 1) aNil)) aNil))) aNil)))) (aGtup 3 (aGcons (aGn 13) (aGcons (aGn 14) (aGcons (aGn 12) aGnil)))))
  (aSeq (aAsg (aCB (on1 fTup) (aCons (aLc (aSeqI (aCall S__law_atoms (aCons (aVar 1) aNil))) (aGn 15) (aT (aOp (rd2 (fIn false)) (aTup (aCons (aVar 13) (aCons (aVar 14) (aCons (aVar 15) aNil)))) (aVar 7))) (aVar 15) [15]) aNil)) (aGn 2))
  (aSeq (aIfS (aNot (aT (aCall S__law_says (aCons (aLst (aCons (aCall S_open_after (aCons (aVar 6) (aCons (aVar 13) (aCons (aVar 14) aNil)))) (aCons (aKw 3 S_open_after [2, 1, 0] (aCons (aVar 14) (aCons (aVar 13) (aCons (aVar 6) aNil)))) aNil))) (aCons (aLst (aCons (aVar 2) (aCons (aVar 2) aNil))) aNil))))) (aRet (aC (.bl false))) aNext)
  (aSeq (aAsg (aLc (aEnumI (aCons (aFz (aOp gIx (aVar 1) (aC (.int 2)))) aNil)) (aGtup 2 (aGcons (aGn 11) (aGcons (aGn 10) aGnil))) (aNot (aT (aCall S__law_keeps (aCons (aVar 1) (aCons (aVar 10) (aCons (aTup (aCons (aVar 13) (aCons (aVar 14) (aCons (aVar 12) aNil)))) aNil)))))) (aVar 11) [11, 10]) (aGn 8))
  (aSeq (aAsg (aIfE (aT (aOp (rd2 (fEq true)) (aVar 8) (aLst aNil))) (aOp gIx (aVar 8) (aC (.int 0))) (aC .non)) (aGn 9))
  (aIfS (aNot (aT (aCall S__law_says (aCons (aLst (aCons (aCall S_barring (aCons (aVar 6) (aCons (aVar 13) (aCons (aVar 14) (aCons (aVar 12) aNil))))) (aCons (aKw 4 S_barring [3, 2, 1, 0] (aCons (aVar 12) (aCons (aVar 14) (aCons (aVar 13) (aCons (aVar 6) aNil))))) aNil))) (aCons (aLst (aCons (aVar 9) (aCons (aVar 9) aNil))) aNil))))) (aRet (aC (.bl false))) aNext)))))))
  (aSeq (aFor (aRng1 (aCons (aC (.int 3)) aNil)) (aGn 3) (aSeq (aAsg (aCall S__law_pick (aCons (aVar 0) (aCons (aOp (rd2 fAdd) (aLst (aCons (aCall S__law_fact (aCons (aVar 0) (aCons (aOp gIx (aVar 1) (aC (.int 0))) (aCons (aOp gIx (aVar 1) (aC (.int 1))) aNil)))) aNil)) (aOp gIx (aVar 1) (aC (.int 2)))) aNil))) (aGn 10))
  (aSeq (aAsg (aOp (rd2 (fEq false)) (aLc (aSeqI (aVar 7)) (aGn 16) (aNot (aT (aCall S__law_keeps (aCons (aVar 1) (aCons (aVar 10) (aCons (aVar 16) aNil)))))) (aVar 16) [16]) (aLst aNil)) (aGn 2))
  (aIfS (aNot (aT (aCall S__law_says (aCons (aLst (aCons (aCall S_follows (aCons (aVar 6) (aCons (aVar 10) aNil))) (aCons (aKw 2 S_follows [1, 0] (aCons (aVar 10) (aCons (aVar 6) aNil))) aNil))) (aCons (aLst (aCons (aVar 2) (aCons (aVar 2) aNil))) aNil))))) (aRet (aC (.bl false))) aNext))))
  (aSeq (aAsg (aLstC aNil) (aGn 4))
  (aSeq (aFor (aEnumI (aCons (aFz (aOp gIx (aVar 1) (aC (.int 2)))) aNil)) (aGtup 2 (aGcons (aGn 11) (aGcons (aGn 10) aGnil))) (aIfS (aT (aOp (rd2 (fEq false)) (aCall S__law_kept (aCons (aVar 1) (aCons (aOp (rd2 fAdd) (aSl (aOp gIx (aVar 1) (aC (.int 2))) aNoP (aPart (aVar 11))) (aSl (aOp gIx (aVar 1) (aC (.int 2))) (aPart (aOp (rd2 fAdd) (aVar 11) (aC (.int 1)))) aNoP)) aNil))) (aVar 7))) (aDrop (aBM gAppend (aVar 4) (aCons (aVar 11) aNil))) aNext))
  (aSeq (aIfS (aNot (aT (aCall S__law_says (aCons (aLst (aCons (aCall S_needless (aCons (aVar 6) aNil)) (aCons (aKw 1 S_needless [0] (aCons (aVar 6) aNil)) aNil))) (aCons (aOp (rd2 fMul) (aLst (aCons (aCB (on1 fTup) (aCons (aVar 4) aNil)) aNil)) (aC (.int 2))) aNil))))) (aRet (aC (.bl false))) aNext)
  (aSeq (aAsg (aSl (aCall S__law_pick (aCons (aVar 0) (aCons (aLst (aCons (aCall S__law_shuffled (aCons (aVar 0) (aCons (aOp gIx (aVar 1) (aC (.int 2))) aNil))) (aCons (aLc (aEnumI (aCons (aFz (aOp gIx (aVar 1) (aC (.int 2)))) aNil)) (aGtup 2 (aGcons (aGn 11) (aGcons (aGn 10) aGnil))) (aT (aOp (rd2 (fEq true)) (aVar 11) (aOp gIx (aOp (rd2 fAdd) (aVar 4) (aLst (aCons (aC (.int 0)) aNil))) (aC (.int 0))))) (aVar 10) [11, 10]) (aCons (aSl (aOp gIx (aVar 1) (aC (.int 2))) aNoP (aPart (aC (.int 1)))) (aCons (aOp (rd2 fAdd) (aOp gIx (aVar 1) (aC (.int 2))) (aLst (aCons (aTup (aCons (aC (.str "never")) (aCons (aTup (aCons (aC (.str "no")) aNil)) aNil))) aNil))) aNil))))) aNil))) aNoP (aPart (aC (.int 8)))) (aGn 5))
  (aSeq (aAsg (aTup (aCons (aMakeD S_Tongue___init__ (He.ga K "Tongue") [] (aCons (aOp gIx (aVar 1) (aC (.int 0))) (aCons (aOp gIx (aVar 1) (aC (.int 1))) (aCons (aVar 5) aNil)))) (aCons (aOp (rd2 (fEq false)) (aCall S__law_kept (aCons (aVar 1) (aCons (aVar 5) aNil))) (aVar 7)) aNil))) (aGtup 2 (aGcons (aGn 12) (aGcons (aGn 2) aGnil))))
  (aRet (aCall S__law_says (aCons (aLst (aCons (aCall S_same_facts (aCons (aVar 6) (aCons (aVar 12) aNil))) (aCons (aKw 2 S_same_facts [1, 0] (aCons (aVar 6) (aCons (aVar 12) aNil))) aNil))) (aCons (aLst (aCons (aVar 2) (aCons (aVar 2) aNil))) aNil))))))))))))))))
theorem sc__law_right : FnScope N__law_right P__law_right (defScope (top 74)) := ⟨rfl, rfl, rfl, by decide +kernel, rfl, by decide +kernel, by decide +kernel⟩
theorem jf__law_right {P : Program} {w : World} {K : Fg} {mg : Str → Option Value} {base : Heap} {S__law_told : ASp} {S__law_pick : ASp} {S__law_fact : ASp} {S__law_kept : ASp} {S_Tongue___init__ : ASp} {S__law_atoms : ASp} {S__law_says : ASp} {S_open_atoms : ASp} {S_open_after : ASp} {S__law_keeps : ASp} {S_barring : ASp} {S_follows : ASp} {S_needless : ASp} {S__law_shuffled : ASp} {S_same_facts : ASp} {f : Addr} {cdv : Value} {A : Around} {outer : List Env} {s : Shared} {H : Hp} {E : XK} {lv : Nat} (T : Top K mg) (hr : Room lv (A.deeper (envOfC "_law_right" (defScope (top 74)) s.heap.objs.size f cdv))) {n__law_told : Nat} (c__law_told : Cal P w K mg base d__law_told (ad__law_told K) n__law_told P__law_told S__law_told) (h__law_told : n__law_told ≤ lv) {n__law_pick : Nat} (c__law_pick : Cal P w K mg base d__law_pick (ad__law_pick K) n__law_pick P__law_pick S__law_pick) (h__law_pick : n__law_pick ≤ lv) {n__law_fact : Nat} (c__law_fact : Cal P w K mg base d__law_fact (ad__law_fact K) n__law_fact P__law_fact S__law_fact) (h__law_fact : n__law_fact ≤ lv) {n__law_kept : Nat} (c__law_kept : Cal P w K mg base d__law_kept (ad__law_kept K) n__law_kept P__law_kept S__law_kept) (h__law_kept : n__law_kept ≤ lv) {n_Tongue___init__ : Nat} (c_Tongue___init__ : Cal P w K mg base d_Tongue___init__ (ad_Tongue___init__ K) n_Tongue___init__ P_Tongue___init__ S_Tongue___init__) (h_Tongue___init__ : n_Tongue___init__ + 1 ≤ lv) {n__law_atoms : Nat} (c__law_atoms : Cal P w K mg base d__law_atoms (ad__law_atoms K) n__law_atoms P__law_atoms S__law_atoms) (h__law_atoms : n__law_atoms ≤ lv) {n__law_says : Nat} (c__law_says : Cal P w K mg base d__law_says (ad__law_says K) n__law_says P__law_says S__law_says) (h__law_says : n__law_says ≤ lv) {n_open_atoms : Nat} (c_open_atoms : Cal P w K mg base d_open_atoms (ad_open_atoms K) n_open_atoms P_open_atoms S_open_atoms) (h_open_atoms : n_open_atoms ≤ lv) {n_open_after : Nat} (c_open_after : Cal P w K mg base d_open_after (ad_open_after K) n_open_after P_open_after S_open_after) (h_open_after : n_open_after ≤ lv) {n__law_keeps : Nat} (c__law_keeps : Cal P w K mg base d__law_keeps (ad__law_keeps K) n__law_keeps P__law_keeps S__law_keeps) (h__law_keeps : n__law_keeps ≤ lv) {n_barring : Nat} (c_barring : Cal P w K mg base d_barring (ad_barring K) n_barring P_barring S_barring) (h_barring : n_barring ≤ lv) {n_follows : Nat} (c_follows : Cal P w K mg base d_follows (ad_follows K) n_follows P_follows S_follows) (h_follows : n_follows ≤ lv) {n_needless : Nat} (c_needless : Cal P w K mg base d_needless (ad_needless K) n_needless P_needless S_needless) (h_needless : n_needless ≤ lv) {n__law_shuffled : Nat} (c__law_shuffled : Cal P w K mg base d__law_shuffled (ad__law_shuffled K) n__law_shuffled P__law_shuffled S__law_shuffled) (h__law_shuffled : n__law_shuffled ≤ lv) {n_same_facts : Nat} (c_same_facts : Cal P w K mg base d_same_facts (ad_same_facts K) n_same_facts P_same_facts S_same_facts) (h_same_facts : n_same_facts ≤ lv) :
    JSs (bX P w K mg base N__law_right "_law_right" (defScope (top 74)) f cdv A outer s H E) (defBody (top 74)) (t__law_right K S__law_told S__law_pick S__law_fact S__law_kept S_Tongue___init__ S__law_atoms S__law_says S_open_atoms S_open_after S__law_keeps S_barring S_follows S_needless S__law_shuffled S_same_facts) (a__law_right K S__law_told S__law_pick S__law_fact S__law_kept S_Tongue___init__ S__law_atoms S__law_says S_open_atoms S_open_after S__law_keeps S_barring S_follows S_needless S__law_shuffled S_same_facts) := by
  have nd := sc__law_right.nd
  have hu1 := hu1_of hr
  have hu64 := hu64_of hr
  have hu65 := hu65_of hr
  exact (jss_cons (js_set 1 nd (j_callC c__law_told T.g__law_told b__law_told hr h__law_told rfl (ja_cons (jv 0) (ja_cons j_int ja_nil))))
  (jss_cons (js_set 1 nd (j_tup (ja_cons (j_ix hu1 (jv 1) j_int) (ja_cons (j_ix hu1 (jv 1) j_int) (ja_cons (j_add (j_ix hu1 (jv 1) j_int) (j_lc (own := [("lap", 3)]) rfl nd (ji_range1 rfl T.b_range (ja_cons (j_callC c__law_pick T.g__law_pick b__law_pick hr h__law_pick rfl (ja_cons (jv 0) (ja_cons (j_lst (ja_cons j_int (ja_cons j_int (ja_cons j_int (ja_cons j_int ja_nil))))) ja_nil))) ja_nil)) (blkOk_by (by kernel_rfl)) (fun _ _ _ _ _ => (jg_name 3 nd)) (go_name) (fun _ _ _ _ _ => jts_nil) (fun _ _ _ _ _ => (j_callC c__law_fact T.g__law_fact b__law_fact hr h__law_fact rfl (ja_cons (jv 0) (ja_cons (j_ix hu1 (jv 1) j_int) (ja_cons (j_ix hu1 (jv 1) j_int) ja_nil))))))) ja_nil)))))
  (jss_cons (js_asg (j_tup (ja_cons (j_makeD c_Tongue___init__ (bm0_Tongue T) (fun _ => rfl) T.mk_Tongue T.g_Tongue hr h_Tongue___init__ rfl (ja_cons (j_ix hu1 (jv 1) j_int) (ja_cons (j_ix hu1 (jv 1) j_int) (ja_cons (j_ix hu1 (jv 1) j_int) ja_nil)))) (ja_cons (j_callC c__law_kept T.g__law_kept b__law_kept hr h__law_kept rfl (ja_cons (jv 1) (ja_cons (j_ix hu1 (jv 1) j_int) ja_nil))) ja_nil))) (jg_tup rfl (jgs_cons (jg_name 6 nd) (jgs_cons (jg_name 7 nd) jgs_nil))))
  (jss_cons (js_set 2 nd (j_callTy c_tup rfl T.b_tuple (by boot_by_name) (ja_cons (j_lc (own := [("atom", 13)]) rfl nd (ji_seq (j_callC c__law_atoms T.g__law_atoms b__law_atoms hr h__law_atoms rfl (ja_cons (jv 1) ja_nil))) (blkOk_by (by kernel_rfl)) (fun _ _ _ _ _ => (jg_name 13 nd)) (go_name) (fun _ _ _ _ _ => (jts_one (jt_cmp (c_in hu65) (j_tup (ja_cons (jv 13) (ja_cons j_non (ja_cons (jv 13) ja_nil)))) (jv 7)))) (fun _ _ _ _ _ => (jv 13))) ja_nil)))
  (jss_cons (js_if (jt_not (jt_val (j_callC c__law_says T.g__law_says b__law_says hr h__law_says rfl (ja_cons (j_lst (ja_cons (j_callC c_open_atoms T.g_open_atoms b_open_atoms hr h_open_atoms rfl (ja_cons (jv 6) ja_nil)) (ja_cons (j_callK c_open_atoms T.g_open_atoms k_open_atoms_tongue hr h_open_atoms rfl (jk_cons (jv 6) jk_nil)) ja_nil))) (ja_cons (j_lst (ja_cons (jv 2) (ja_cons (jv 2) ja_nil))) ja_nil))))) (jss_one (js_ret j_bl)) jss_nil)
  (jss_cons (js_for PassesOwn.never rfl (ji_range1 rfl T.b_range (ja_cons j_int ja_nil)) (jg_name 3 nd) (jss_cons (js_asg (j_tup (ja_cons (j_callC c__law_pick T.g__law_pick b__law_pick hr h__law_pick rfl (ja_cons (jv 0) (ja_cons (j_callC c__law_atoms T.g__law_atoms b__law_atoms hr h__law_atoms rfl (ja_cons (jv 1) ja_nil)) ja_nil))) (ja_cons (j_callC c__law_pick T.g__law_pick b__law_pick hr h__law_pick rfl (ja_cons (jv 0) (ja_cons (j_ix hu1 (jv 1) j_int) ja_nil))) (ja_cons (j_callC c__law_pick T.g__law_pick b__law_pick hr h__law_pick rfl (ja_cons (jv 0) (ja_cons (j_callC c__law_atoms T.g__law_atoms b__law_atoms hr h__law_atoms rfl (ja_cons (jv 1) ja_nil)) ja_nil))) ja_nil)))) (jg_tup rfl (jgs_cons (jg_name 13 nd) (jgs_cons (jg_name 14 nd) (jgs_cons (jg_name 12 nd) jgs_nil)))))
  (jss_cons (js_set 2 nd (j_callTy c_tup rfl T.b_tuple (by boot_by_name) (ja_cons (j_lc (own := [("one", 15)]) rfl nd (ji_seq (j_callC c__law_atoms T.g__law_atoms b__law_atoms hr h__law_atoms rfl (ja_cons (jv 1) ja_nil))) (blkOk_by (by kernel_rfl)) (fun _ _ _ _ _ => (jg_name 15 nd)) (go_name) (fun _ _ _ _ _ => (jts_one (jt_cmp (c_in hu65) (j_tup (ja_cons (jv 13) (ja_cons (jv 14) (ja_cons (jv 15) ja_nil)))) (jv 7)))) (fun _ _ _ _ _ => (jv 15))) ja_nil)))
  (jss_cons (js_if (jt_not (jt_val (j_callC c__law_says T.g__law_says b__law_says hr h__law_says rfl (ja_cons (j_lst (ja_cons (j_callC c_open_after T.g_open_after b_open_after hr h_open_after rfl (ja_cons (jv 6) (ja_cons (jv 13) (ja_cons (jv 14) ja_nil)))) (ja_cons (j_callK c_open_after T.g_open_after k_open_after_deed_atom_tongue hr h_open_after rfl (jk_cons (jv 14) (jk_cons (jv 13) (jk_cons (jv 6) jk_nil)))) ja_nil))) (ja_cons (j_lst (ja_cons (jv 2) (ja_cons (jv 2) ja_nil))) ja_nil))))) (jss_one (js_ret j_bl)) jss_nil)
  (jss_cons (js_setLc 8 (own := [("at", 11), ("fact", 10)]) rfl nd (ji_enum rfl T.b_enumerate (ja_cons (jf (j_ix hu1 (jv 1) j_int)) ja_nil)) (blkOk_by (by kernel_rfl)) (fun _ _ _ _ _ => (jg_tup rfl (jgs_cons (jg_name 11 nd) (jgs_cons (jg_name 10 nd) jgs_nil)))) (go_tupM (go_cons_name (h := (go_cons_name (h := go_nil))))) (fun _ _ _ _ _ => (jts_one (jt_not (jt_val (j_callC c__law_keeps T.g__law_keeps b__law_keeps hr h__law_keeps rfl (ja_cons (jv 1) (ja_cons (jv 10) (ja_cons (j_tup (ja_cons (jv 13) (ja_cons (jv 14) (ja_cons (jv 12) ja_nil)))) ja_nil)))))))) (fun _ _ _ _ _ => (jv 11)))
  (jss_cons (js_set 9 nd (j_if (jt_cmp (c_ne hu64) (jv 8) (j_lst ja_nil)) (j_ix hu1 (jv 8) j_int) j_non))
  (jss_one (js_if (jt_not (jt_val (j_callC c__law_says T.g__law_says b__law_says hr h__law_says rfl (ja_cons (j_lst (ja_cons (j_callC c_barring T.g_barring b_barring hr h_barring rfl (ja_cons (jv 6) (ja_cons (jv 13) (ja_cons (jv 14) (ja_cons (jv 12) ja_nil))))) (ja_cons (j_callK c_barring T.g_barring k_barring_other_deed_atom_tongue hr h_barring rfl (jk_cons (jv 12) (jk_cons (jv 14) (jk_cons (jv 13) (jk_cons (jv 6) jk_nil))))) ja_nil))) (ja_cons (j_lst (ja_cons (jv 9) (ja_cons (jv 9) ja_nil))) ja_nil))))) (jss_one (js_ret j_bl)) jss_nil))))))))
  (jss_cons (js_for PassesOwn.never rfl (ji_range1 rfl T.b_range (ja_cons j_int ja_nil)) (jg_name 3 nd) (jss_cons (js_set 10 nd (j_callC c__law_pick T.g__law_pick b__law_pick hr h__law_pick rfl (ja_cons (jv 0) (ja_cons (j_add (j_lst (ja_cons (j_callC c__law_fact T.g__law_fact b__law_fact hr h__law_fact rfl (ja_cons (jv 0) (ja_cons (j_ix hu1 (jv 1) j_int) (ja_cons (j_ix hu1 (jv 1) j_int) ja_nil)))) ja_nil)) (j_ix hu1 (jv 1) j_int)) ja_nil))))
  (jss_cons (js_set 2 nd (j_cmp (c_eq hu64) (j_lc (own := [("world", 16)]) rfl nd (ji_seq (jv 7)) (blkOk_by (by kernel_rfl)) (fun _ _ _ _ _ => (jg_name 16 nd)) (go_name) (fun _ _ _ _ _ => (jts_one (jt_not (jt_val (j_callC c__law_keeps T.g__law_keeps b__law_keeps hr h__law_keeps rfl (ja_cons (jv 1) (ja_cons (jv 10) (ja_cons (jv 16) ja_nil)))))))) (fun _ _ _ _ _ => (jv 16))) (j_lst ja_nil)))
  (jss_one (js_if (jt_not (jt_val (j_callC c__law_says T.g__law_says b__law_says hr h__law_says rfl (ja_cons (j_lst (ja_cons (j_callC c_follows T.g_follows b_follows hr h_follows rfl (ja_cons (jv 6) (ja_cons (jv 10) ja_nil))) (ja_cons (j_callK c_follows T.g_follows k_follows_fact_tongue hr h_follows rfl (jk_cons (jv 10) (jk_cons (jv 6) jk_nil))) ja_nil))) (ja_cons (j_lst (ja_cons (jv 2) (ja_cons (jv 2) ja_nil))) ja_nil))))) (jss_one (js_ret j_bl)) jss_nil)))))
  (jss_cons (js_set 4 nd (j_lstC ja_nil))
  (jss_cons (js_for PassesOwn.never rfl (ji_enum rfl T.b_enumerate (ja_cons (jf (j_ix hu1 (jv 1) j_int)) ja_nil)) (jg_tup rfl (jgs_cons (jg_name 11 nd) (jgs_cons (jg_name 10 nd) jgs_nil))) (jss_one (js_if (jt_cmp (c_eq hu64) (j_callC c__law_kept T.g__law_kept b__law_kept hr h__law_kept rfl (ja_cons (jv 1) (ja_cons (j_add (j_slice (j_ix hu1 (jv 1) j_int) jo_none (jo_some (jv 11))) (j_slice (j_ix hu1 (jv 1) j_int) (jo_some (j_add (jv 11) j_int)) jo_none)) ja_nil))) (jv 7)) (jss_one (js_expr (j_append (jv 4) (ja_cons (jv 11) ja_nil)))) jss_nil)))
  (jss_cons (js_if (jt_not (jt_val (j_callC c__law_says T.g__law_says b__law_says hr h__law_says rfl (ja_cons (j_lst (ja_cons (j_callC c_needless T.g_needless b_needless hr h_needless rfl (ja_cons (jv 6) ja_nil)) (ja_cons (j_callK c_needless T.g_needless k_needless_tongue hr h_needless rfl (jk_cons (jv 6) jk_nil)) ja_nil))) (ja_cons (j_mul (j_lst (ja_cons (j_callTy c_tup rfl T.b_tuple (by boot_by_name) (ja_cons (jv 4) ja_nil)) ja_nil)) j_int) ja_nil))))) (jss_one (js_ret j_bl)) jss_nil)
  (jss_cons (js_set 5 nd (j_slice (j_callC c__law_pick T.g__law_pick b__law_pick hr h__law_pick rfl (ja_cons (jv 0) (ja_cons (j_lst (ja_cons (j_callC c__law_shuffled T.g__law_shuffled b__law_shuffled hr h__law_shuffled rfl (ja_cons (jv 0) (ja_cons (j_ix hu1 (jv 1) j_int) ja_nil))) (ja_cons (j_lc (own := [("at", 11), ("fact", 10)]) rfl nd (ji_enum rfl T.b_enumerate (ja_cons (jf (j_ix hu1 (jv 1) j_int)) ja_nil)) (blkOk_by (by kernel_rfl)) (fun _ _ _ _ _ => (jg_tup rfl (jgs_cons (jg_name 11 nd) (jgs_cons (jg_name 10 nd) jgs_nil)))) (go_tupM (go_cons_name (h := (go_cons_name (h := go_nil))))) (fun _ _ _ _ _ => (jts_one (jt_cmp (c_ne hu64) (jv 11) (j_ix hu1 (j_add (jv 4) (j_lst (ja_cons j_int ja_nil))) j_int)))) (fun _ _ _ _ _ => (jv 10))) (ja_cons (j_slice (j_ix hu1 (jv 1) j_int) jo_none (jo_some j_int)) (ja_cons (j_add (j_ix hu1 (jv 1) j_int) (j_lst (ja_cons (j_tup (ja_cons j_str (ja_cons (j_tup (ja_cons j_str ja_nil)) ja_nil))) ja_nil))) ja_nil))))) ja_nil))) jo_none (jo_some j_int)))
  (jss_cons (js_asg (j_tup (ja_cons (j_makeD c_Tongue___init__ (bm0_Tongue T) (fun _ => rfl) T.mk_Tongue T.g_Tongue hr h_Tongue___init__ rfl (ja_cons (j_ix hu1 (jv 1) j_int) (ja_cons (j_ix hu1 (jv 1) j_int) (ja_cons (jv 5) ja_nil)))) (ja_cons (j_cmp (c_eq hu64) (j_callC c__law_kept T.g__law_kept b__law_kept hr h__law_kept rfl (ja_cons (jv 1) (ja_cons (jv 5) ja_nil))) (jv 7)) ja_nil))) (jg_tup rfl (jgs_cons (jg_name 12 nd) (jgs_cons (jg_name 2 nd) jgs_nil))))
  (jss_one (js_ret (j_callC c__law_says T.g__law_says b__law_says hr h__law_says rfl (ja_cons (j_lst (ja_cons (j_callC c_same_facts T.g_same_facts b_same_facts hr h_same_facts rfl (ja_cons (jv 6) (ja_cons (jv 12) ja_nil))) (ja_cons (j_callK c_same_facts T.g_same_facts k_same_facts_other_one hr h_same_facts rfl (jk_cons (jv 6) (jk_cons (jv 12) jk_nil))) ja_nil))) (ja_cons (j_lst (ja_cons (jv 2) (ja_cons (jv 2) ja_nil))) ja_nil)))))))))))))))))
end K01
namespace K01
open PySem PySem.Spec PyProof.Rows L2 Ww
def t_open_table (K : Fg) (S_open_lot : ASp) (S_Tongue_deeds : ASp) (S_lot_after : ASp) : TS := (tRet (tDc2 (iSeq K (tCall (spOf K S_open_lot) [] E0 (tCons (tVar 0) tNil))) (gName 1) (iSeq K (tProp (He.ga K "Tongue") (spOf K S_Tongue_deeds) [] E0 (tVar 0))) (gName 2) (tTup (tCons (tVar 1) (tCons (tVar 2) tNil))) (tCall (spOf K S_lot_after) [] E0 (tCons (tVar 0) (tCons (tVar 1) (tCons (tVar 2) tNil)))) [1, 2] [2]))
def a_open_table (K : Fg) (S_open_lot : ASp) (S_Tongue_deeds : ASp) (S_lot_after : ASp) : AS := (aRet (aDc2 (aSeqI (aCall S_open_lot (aCons (aVar 0) aNil))) (aGn 1) (aSeqI (aProp S_Tongue_deeds (He.ga K "Tongue") (aVar 0))) (aGn 2) (aCons (aVar 1) (aCons (aVar 2) aNil)) (aCall S_lot_after (aCons (aVar 0) (aCons (aVar 1) (aCons (aVar 2) aNil)))) [1, 2] [2]))
theorem sc_open_table : FnScope N_open_table P_open_table (defScope (top 46)) := ⟨rfl, rfl, rfl, by decide +kernel, rfl, by decide +kernel, by decide +kernel⟩
theorem jf_open_table {P : Program} {w : World} {K : Fg} {mg : Str → Option Value} {base : Heap} {S_open_lot : ASp} {S_Tongue_deeds : ASp} {S_lot_after : ASp} {f : Addr} {cdv : Value} {A : Around} {outer : List Env} {s : Shared} {H : Hp} {E : XK} {lv : Nat} (T : Top K mg) (hr : Room lv (A.deeper (envOfC "open_table" (defScope (top 46)) s.heap.objs.size f cdv))) {n_open_lot : Nat} (c_open_lot : Cal P w K mg base d_open_lot (ad_open_lot K) n_open_lot P_open_lot S_open_lot) (h_open_lot : n_open_lot ≤ lv) {n_Tongue_deeds : Nat} (c_Tongue_deeds : Cal P w K mg base d_Tongue_deeds (ad_Tongue_deeds K) n_Tongue_deeds P_Tongue_deeds S_Tongue_deeds) (h_Tongue_deeds : n_Tongue_deeds + 1 ≤ lv) {n_lot_after : Nat} (c_lot_after : Cal P w K mg base d_lot_after (ad_lot_after K) n_lot_after P_lot_after S_lot_after) (h_lot_after : n_lot_after ≤ lv) :
    JSs (bX P w K mg base N_open_table "open_table" (defScope (top 46)) f cdv A outer s H E) (defBody (top 46)) (t_open_table K S_open_lot S_Tongue_deeds S_lot_after) (a_open_table K S_open_lot S_Tongue_deeds S_lot_after) := by
  have nd := sc_open_table.nd
  have hu1 := hu1_of hr
  have hu64 := hu64_of hr
  have hu65 := hu65_of hr
  exact (jss_one (js_ret (j_dc2 (own := [("atom", 1), ("deed", 2)]) (vs1 := [2]) hu1 rfl nd (ji_seq (j_callC c_open_lot T.g_open_lot b_open_lot hr h_open_lot rfl (ja_cons (jv 0) ja_nil))) (blkOk_by (by kernel_rfl)) (by decide) (fun _ _ _ _ _ => (jg_name 1 nd)) (go_name) (fun _ _ _ _ _ => (ji_seq (j_propC c_Tongue_deeds T.cls_Tongue b_Tongue_deeds T.p_Tongue_deeds hr h_Tongue_deeds (jv 0)))) (fun _ _ _ _ _ => (jg_name 2 nd)) (go_name) (fun _ _ _ _ _ => (ja_cons (jv 1) (ja_cons (jv 2) ja_nil))) (fun _ _ _ _ _ => (j_callC c_lot_after T.g_lot_after b_lot_after hr h_lot_after rfl (ja_cons (jv 0) (ja_cons (jv 1) (ja_cons (jv 2) ja_nil))))))))
def t__law_begun (K : Fg) : TS := (tSeq (tAsg (tLc (iSeq K (tVar 0)) (gName 2) (tTest (tOp (rI0 fun i j => .bl (decide (j ≤ i))) (tCB rAbs (tCons (tVar 2) tNil)) (tOp (rI CPow fun i j => .int (i ^ j.toNat)) (tC (.int 10)) (tC (.int 18))))) (tOp (rI0 fun i j => .int (i - j)) (tCB rAbs (tCons (tVar 2) tNil)) (tOp (rI CPow fun i j => .int (i ^ j.toNat)) (tC (.int 10)) (tC (.int 18)))) [2]) (gName 1))
  (tRet (tDisp [(tC (.str "large"), (tVar 1)), (tC (.str "rest"), (tC (.int 0))), (tC (.str "cells"), (tLc (iSeq K (tVar 0)) (gName 2) tYes (tCB rAbs (tCons (tVar 2) tNil)) [2])), (tC (.str "turn"), (tC (.int 0)))])))
def a__law_begun (K : Fg) : AS := (aSeq (aAsg (aLcC (aSeqI (aVar 0)) (aGn 2) (aT (aOp (aCI fun i j => decide (j ≤ i)) (aCB (on1 fAbs) (aCons (aVar 2) aNil)) (aOp (aI CPow (gI fun i j => i ^ j.toNat)) (aC (.int 10)) (aC (.int 18))))) (aOp (aI (fun _ _ => True) (gI fun i j => i - j)) (aCB (on1 fAbs) (aCons (aVar 2) aNil)) (aOp (aI CPow (gI fun i j => i ^ j.toNat)) (aC (.int 10)) (aC (.int 18)))) [2]) (aGn 1))
  (aRetC (aDispC ["large", "rest", "cells", "turn"] (aCons (aVar 1) (aCons (aC (.int 0)) (aCons (aLc (aSeqI (aVar 0)) (aGn 2) aYes (aCB (on1 fAbs) (aCons (aVar 2) aNil)) [2]) (aCons (aC (.int 0)) aNil)))))))
theorem sc__law_begun : FnScope N__law_begun P__law_begun (defScope (top 55)) := ⟨rfl, rfl, rfl, by decide +kernel, rfl, by decide +kernel, by decide +kernel⟩
theorem jf__law_begun {P : Program} {w : World} {K : Fg} {mg : Str → Option Value} {base : Heap} {f : Addr} {cdv : Value} {A : Around} {outer : List Env} {s : Shared} {H : Hp} {E : XK} {lv : Nat} (T : Top K mg) (hr : Room lv (A.deeper (envOfC "_law_begun" (defScope (top 55)) s.heap.objs.size f cdv))) :
    JSs (bX P w K mg base N__law_begun "_law_begun" (defScope (top 55)) f cdv A outer s H E) (defBody (top 55)) (t__law_begun K) (a__law_begun K) := by
  have nd := sc__law_begun.nd
  have hu1 := hu1_of hr
  have hu64 := hu64_of hr
  have hu65 := hu65_of hr
  exact (jss_cons (js_setLcC 1 (own := [("cell", 2)]) rfl nd (ji_seq (jv 0)) (blkOk_by (by kernel_rfl)) (fun _ _ _ _ _ => (jg_name 2 nd)) (go_name) (fun _ _ _ _ _ => (jts_one (jt_cmp c_ge (j_callB c_abs rfl T.b_abs (by boot_by_name) (ja_cons (jv 2) ja_nil)) (j_pow j_int j_int)))) (fun _ _ _ _ _ => (j_sub (j_callB c_abs rfl T.b_abs (by boot_by_name) (ja_cons (jv 2) ja_nil)) (j_pow j_int j_int))))
  (jss_one (js_retC (j_dispC (ks := ["large", "rest", "cells", "turn"]) (jp_cons (jv 1) (jp_cons j_int (jp_cons (j_lc (own := [("cell", 2)]) rfl nd (ji_seq (jv 0)) (blkOk_by (by kernel_rfl)) (fun _ _ _ _ _ => (jg_name 2 nd)) (go_name) (fun _ _ _ _ _ => jts_nil) (fun _ _ _ _ _ => (j_callB c_abs rfl T.b_abs (by boot_by_name) (ja_cons (jv 2) ja_nil)))) (jp_cons j_int jp_nil)))) (by decide) (by decide)))))
def t_same_facts (K : Fg) (S_Tongue_tests : ASp) (S_Tongue_deeds : ASp) (S_open_lot : ASp) (S_open_table : ASp) : TS := (tSeq (tIfS (tNot (tB (tCB (rIsiU K) (tCons (tVar 0) (tCons (tC (.ref (He.ga K "Tongue"))) tNil))))) tNever tNext)
  (tSeq (tIfS (tNot (tB (tCB (rIsiU K) (tCons (tVar 1) (tCons (tC (.ref (He.ga K "Tongue"))) tNil))))) tNever tNext)
  (tSeq (tIfS (tOr (tTest (tOp (rNeD K) (tProp (He.ga K "Tongue") (spOf K S_Tongue_tests) [] E0 (tVar 0)) (tProp (He.ga K "Tongue") (spOf K S_Tongue_tests) [] E0 (tVar 1)))) (tTest (tOp (rNeD K) (tProp (He.ga K "Tongue") (spOf K S_Tongue_deeds) [] E0 (tVar 0)) (tProp (He.ga K "Tongue") (spOf K S_Tongue_deeds) [] E0 (tVar 1))))) tNever tNext)
  (tRet (tAndV (tOp (rEqD K) (tCall (spOf K S_open_lot) [] E0 (tCons (tVar 0) tNil)) (tCall (spOf K S_open_lot) [] E0 (tCons (tVar 1) tNil))) (tOp (fun x y H Q => rEqT K x y H Q ∨ rEqE x y H Q) (tCall (spOf K S_open_table) [] E0 (tCons (tVar 0) tNil)) (tCall (spOf K S_open_table) [] E0 (tCons (tVar 1) tNil))))))))
def a_same_facts (K : Fg) (S_Tongue_tests : ASp) (S_Tongue_deeds : ASp) (S_open_lot : ASp) (S_open_table : ASp) : AS := (aSeq (aIfS (aNot (aT (aCB (on2 (fIsi K)) (aCons (aVar 0) (aCons (aC (.cls (He.ga K "Tongue"))) aNil))))) aNever aNext)
  (aSeq (aIfS (aNot (aT (aCB (on2 (fIsi K)) (aCons (aVar 1) (aCons (aC (.cls (He.ga K "Tongue"))) aNil))))) aNever aNext)
  (aSeq (aIfS (aOr (aT (aOp (rd2 (fEq true)) (aProp S_Tongue_tests (He.ga K "Tongue") (aVar 0)) (aProp S_Tongue_tests (He.ga K "Tongue") (aVar 1)))) (aT (aOp (rd2 (fEq true)) (aProp S_Tongue_deeds (He.ga K "Tongue") (aVar 0)) (aProp S_Tongue_deeds (He.ga K "Tongue") (aVar 1))))) aNever aNext)
  (aRet (aAndV (aOp (rd2 (fEq false)) (aCall S_open_lot (aCons (aVar 0) aNil)) (aCall S_open_lot (aCons (aVar 1) aNil))) (aOp (rd2 fEqT) (aCall S_open_table (aCons (aVar 0) aNil)) (aCall S_open_table (aCons (aVar 1) aNil))))))))
theorem sc_same_facts : FnScope N_same_facts P_same_facts (defScope (top 53)) := ⟨rfl, rfl, rfl, by decide +kernel, rfl, by decide +kernel, by decide +kernel⟩
theorem jf_same_facts {P : Program} {w : World} {K : Fg} {mg : Str → Option Value} {base : Heap} {S_Tongue_tests : ASp} {S_Tongue_deeds : ASp} {S_open_lot : ASp} {S_open_table : ASp} {f : Addr} {cdv : Value} {A : Around} {outer : List Env} {s : Shared} {H : Hp} {E : XK} {lv : Nat} (T : Top K mg) (hr : Room lv (A.deeper (envOfC "same_facts" (defScope (top 53)) s.heap.objs.size f cdv))) {n_Tongue_tests : Nat} (c_Tongue_tests : Cal P w K mg base d_Tongue_tests (ad_Tongue_tests K) n_Tongue_tests P_Tongue_tests S_Tongue_tests) (h_Tongue_tests : n_Tongue_tests + 1 ≤ lv) {n_Tongue_deeds : Nat} (c_Tongue_deeds : Cal P w K mg base d_Tongue_deeds (ad_Tongue_deeds K) n_Tongue_deeds P_Tongue_deeds S_Tongue_deeds) (h_Tongue_deeds : n_Tongue_deeds + 1 ≤ lv) {n_open_lot : Nat} (c_open_lot : Cal P w K mg base d_open_lot (ad_open_lot K) n_open_lot P_open_lot S_open_lot) (h_open_lot : n_open_lot ≤ lv) {n_open_table : Nat} (c_open_table : Cal P w K mg base d_open_table (ad_open_table K) n_open_table P_open_table S_open_table) (h_open_table : n_open_table ≤ lv) :
    JSs (bX P w K mg base N_same_facts "same_facts" (defScope (top 53)) f cdv A outer s H E) (defBody (top 53)) (t_same_facts K S_Tongue_tests S_Tongue_deeds S_open_lot S_open_table) (a_same_facts K S_Tongue_tests S_Tongue_deeds S_open_lot S_open_table) := by
  have nd := sc_same_facts.nd
  have hu1 := hu1_of hr
  have hu64 := hu64_of hr
  have hu65 := hu65_of hr
  exact (jss_cons (js_if (jt_not (jt_val (j_callB c_isi rfl T.b_isinstance (by boot_by_name) (ja_cons (jv 0) (ja_cons (j_cls rfl T.g_Tongue) ja_nil))))) (jss_one js_never) jss_nil)
  (jss_cons (js_if (jt_not (jt_val (j_callB c_isi rfl T.b_isinstance (by boot_by_name) (ja_cons (jv 1) (ja_cons (j_cls rfl T.g_Tongue) ja_nil))))) (jss_one js_never) jss_nil)
  (jss_cons (js_if (JW.jt (jw_or (jt_cmp (c_ne hu64) (j_propC c_Tongue_tests T.cls_Tongue b_Tongue_tests T.p_Tongue_tests hr h_Tongue_tests (jv 0)) (j_propC c_Tongue_tests T.cls_Tongue b_Tongue_tests T.p_Tongue_tests hr h_Tongue_tests (jv 1))) (jw_or1 (jt_cmp (c_ne hu64) (j_propC c_Tongue_deeds T.cls_Tongue b_Tongue_deeds T.p_Tongue_deeds hr h_Tongue_deeds (jv 0)) (j_propC c_Tongue_deeds T.cls_Tongue b_Tongue_deeds T.p_Tongue_deeds hr h_Tongue_deeds (jv 1)))))) (jss_one js_never) jss_nil)
  (jss_one (js_ret (j_and (j_cmp (c_eq hu64) (j_callC c_open_lot T.g_open_lot b_open_lot hr h_open_lot rfl (ja_cons (jv 0) ja_nil)) (j_callC c_open_lot T.g_open_lot b_open_lot hr h_open_lot rfl (ja_cons (jv 1) ja_nil))) (j_one (j_cmp (c_eqT hu65) (j_callC c_open_table T.g_open_table b_open_table hr h_open_table rfl (ja_cons (jv 0) ja_nil)) (j_callC c_open_table T.g_open_table b_open_table hr h_open_table rfl (ja_cons (jv 1) ja_nil))))))))))
end K01
namespace K01
open PySem PySem.Spec PyProof.Rows L2 Ww
/-! k01: specs -/
inductive Tst where
  | yes | no | is (w : Str) | nt (a : Tst) | an (a b : Tst) | orr (a b : Tst)
def Tst.d : Tst → D
  | .yes => .tup [.str "yes"]
  | .no => .tup [.str "no"]
  | .is w => .tup [.str "is", .str w]
  | .nt a => .tup [.str "not", a.d]
  | .an a b => .tup [.str "and", a.d, b.d]
  | .orr a b => .tup [.str "or", a.d, b.d]
def Tst.py : Tst → PyData
  | .yes => .tuple [.str "yes"]
  | .no => .tuple [.str "no"]
  | .is w => .tuple [.str "is", .str w]
  | .nt a => .tuple [.str "not", a.py]
  | .an a b => .tuple [.str "and", a.py, b.py]
  | .orr a b => .tuple [.str "or", a.py, b.py]
@[simp] theorem Tst.toPy : ∀ t : Tst, toPy t.d = some t.py
  | .yes => rfl
  | .no => rfl
  | .is w => rfl
  | .nt a => by simp [Tst.d, Tst.py, Tst.toPy a]
  | .an a b => by simp [Tst.d, Tst.py, Tst.toPy a, Tst.toPy b]
  | .orr a b => by simp [Tst.d, Tst.py, Tst.toPy a, Tst.toPy b]
def Tst.subs : Tst → List Tst
  | .nt a => [a]
  | .an a b => [a, b]
  | .orr a b => [a, b]
  | _ => []
def Tst.deep : Tst → Nat
  | .nt a => a.deep + 1
  | .an a b => max a.deep b.deep + 1
  | .orr a b => max a.deep b.deep + 1
  | _ => 0
/-- its words are of these -/
def Tst.over (ws : List Str) : Tst → Prop
  | .is w => w ∈ ws
  | .nt a => a.over ws
  | .an a b => a.over ws ∧ b.over ws
  | .orr a b => a.over ws ∧ b.over ws
  | _ => True
def OkW (ws : List Str) : Prop := ∀ w ∈ ws, PyData.strOk w = true
theorem Tst.lay {ws : List Str} (hw : OkW ws) : ∀ t : Tst, t.over ws → t.py.canLay0 = true
  | .yes, _ => by simp [Tst.py, PyData.canLay0, PyData.canLayAll0, lit_ok]
  | .no, _ => by simp [Tst.py, PyData.canLay0, PyData.canLayAll0, lit_ok]
  | .is w, h => by simp [Tst.py, PyData.canLay0, PyData.canLayAll0, lit_ok, hw w h]
  | .nt a, h => by simp [Tst.py, PyData.canLay0, PyData.canLayAll0, lit_ok, Tst.lay hw a h]
  | .an a b, h => by simp [Tst.py, PyData.canLay0, PyData.canLayAll0, lit_ok, Tst.lay hw a h.1, Tst.lay hw b h.2]
  | .orr a b, h => by simp [Tst.py, PyData.canLay0, PyData.canLayAll0, lit_ok, Tst.lay hw a h.1, Tst.lay hw b h.2]
theorem Tst.depth : ∀ t : Tst, t.py.depth ≤ t.deep + 1
  | .yes => by simp [Tst.py, PyData.depth, PyData.depthAll, Tst.deep]
  | .no => by simp [Tst.py, PyData.depth, PyData.depthAll, Tst.deep]
  | .is w => by simp [Tst.py, PyData.depth, PyData.depthAll, Tst.deep]
  | .nt a => by have := Tst.depth a; simp [Tst.py, PyData.depth, PyData.depthAll, Tst.deep]; omega
  | .an a b => by have := Tst.depth a; have := Tst.depth b; simp [Tst.py, PyData.depth, PyData.depthAll, Tst.deep]; omega
  | .orr a b => by have := Tst.depth a; have := Tst.depth b; simp [Tst.py, PyData.depth, PyData.depthAll, Tst.deep]; omega
theorem Tst.shaped {ws : List Str} (hw : OkW ws) {t : Tst} (h : t.over ws) (hd : t.deep ≤ 60) : SeqAt.shaped t.py = true := by
  have := Tst.depth t
  show (t.py.canLay0 && decide (t.py.depth ≤ 64)) = true
  rw [Tst.lay hw t h, decide_eq_true (by omega)]; rfl
theorem Tst.py_ne (t : Tst) : PyData.eqv t.py (.tuple []) = false := by cases t <;> rfl
@[simp] theorem Tst.nrm (t : Tst) : nrm t.d = t.d := by cases t <;> rfl
@[simp] theorem Tst.ty (t : Tst) : tyName t.d = some "tuple" := by cases t <;> rfl
def S_inner_tests : ASp := fun ss μ k => ∃ (ws : List Str) (t : Tst), OkW ws ∧ t.over ws ∧ t.deep ≤ 60 ∧ ss = [.d t.d] ∧ k (.d (.lst (t.subs.map Tst.d))) μ
theorem p_inner_tests {K : Fg} : ∀ ss μ k, S_inner_tests ss μ k → bodySp N_inner_tests.length P_inner_tests.length (a_inner_tests K) ss μ k := by
  rintro ss μ k ⟨ws, t, hw, ho, hd, rfl, h⟩
  have sh := Tst.shaped hw ho hd
  have ne := t.py_ne
  simp [startR, bodySp, a_inner_tests, sh, ne]
  cases t <;> simp [startR, bodySp, Tst.d] <;> simpa [Tst.subs, Tst.d] using h
end K01
namespace K01
open PySem PySem.Spec PyProof.Rows L2 Ww
/-! k01: is_test_of -/
def Tst.size : Tst → Nat
  | .nt a => a.size + 1
  | .an a b => a.size + b.size + 1
  | .orr a b => a.size + b.size + 1
  | _ => 1
/-- a test and its level -/
abbrev lvD (q : Tst × Int) : D := .tup [q.1.d, .int q.2]
def lvP (q : Tst × Int) : PyData := .tuple [q.1.py, .int q.2]
theorem lv_py (q : Tst × Int) : toPy (lvD q) = some (lvP q) := by simp [lvP]
def sizes : List (Tst × Int) → Nat
  | [] => 0
  | q :: r => q.1.size + sizes r
theorem sizes_app : ∀ a b : List (Tst × Int), sizes (a ++ b) = sizes a + sizes b
  | [], b => by simp [sizes]
  | q :: r, b => by simp [sizes, sizes_app r b]; omega
def S_is_test_of : ASp := fun ss μ k => ∃ (ws : List Str) (t : Tst) (wd : D), OkW ws ∧ (wd = .tup (ws.map .str) ∨ wd = .tpl (ws.map .str)) ∧ t.over ws ∧ t.deep ≤ 10 ∧ t.size ≤ 60 ∧ ss = [.d wd, .d t.d] ∧ k (.d (.bl true)) μ
def IIs (ws : List Str) (wd : D) (t : Tst) (μ : Mu) (m : Nat) (ρ' : Rho) (μ' : Mu) : Prop := ∃ (its : List (Tst × Int)) (many : Nat) (r4 r5 r6 r7 : Option Sl), ρ' = [some (.d wd), some (.d t.d), some (.m μ.length), some (.d (.int many)), r4, r5, r6, r7] ∧ μ' = μ ++ [.lst (its.map fun q => .d (lvD q))] ∧
    m = sizes its ∧ many + sizes its ≤ 60 ∧ ∀ q ∈ its, q.1.over ws ∧ 1 ≤ q.2 ∧ q.2 + q.1.deep ≤ 11
theorem in_words {ws : List Str} {wd : D} (hwd : wd = .tup (ws.map .str) ∨ wd = .tpl (ws.map .str)) : nrm wd = .tup (ws.map .str) := by
  rcases hwd with rfl | rfl <;> rfl
theorem all_flat (ws : List Str) : (ws.map D.str).all flatD = true := by simp
theorem any_in {ws : List Str} {x : Str} (h : x ∈ ws) : ((ws.map D.str).any fun y => eqF y (.str x)) = true := by
  simp; exact h
theorem p_is_test_of {K : Fg} : ∀ ss μ k, S_is_test_of ss μ k → bodySp N_is_test_of.length P_is_test_of.length (a_is_test_of K S_inner_tests) ss μ k := by
  rintro ss μ k ⟨ws, t, wd, hw, hwd, ho, hd, hz, rfl, h⟩
  have nw := in_words hwd
  simp [startR, bodySp, a_is_test_of]
  refine ⟨IIs ws wd t μ, ⟨sizes [(t, 1)], [(t, 1)], 0, none, none, none, none, rfl, rfl, rfl, by simpa [sizes] using hz, by simp; exact ⟨ho, by omega⟩⟩, ?_⟩
  rintro m ρ' μ' ⟨its, many, r4, r5, r6, r7, rfl, rfl, hm, hs, hi⟩
  have sh : SeqAt.shaped (.list (its.map lvP)) = true := shaped_list fun q hq => by
    obtain ⟨h1, h2, h3⟩ := hi q hq
    refine ⟨by simp [lvP, PyData.canLay0, PyData.canLayAll0, Tst.lay hw q.1 h1], ?_⟩
    have := Tst.depth q.1
    simp [lvP, PyData.depth, PyData.depthAll]; omega
  rcases List.eq_nil_or_concat its with rfl | ⟨init, q, rfl⟩
  · simp [startR, bodySp]
    exact h
  · obtain ⟨h1, h2, h3⟩ := hi q (by simp)
    have sh2 : SeqAt.shaped (.list (init.map lvP ++ [.tuple [q.1.py, .int q.2]])) = true := by simpa [lvP] using sh
    have hs2 : many + (sizes init + q.1.size) ≤ 60 := by simpa [List.concat_eq_append, sizes_app, sizes] using hs
    have hm2 : m = sizes init + q.1.size := by rw [hm, List.concat_eq_append, sizes_app]; simp [sizes]
    have hi2 : ∀ z ∈ init, z.1.over ws ∧ 1 ≤ z.2 ∧ z.2 + z.1.deep ≤ 11 := fun z hz => hi z (by simp [hz])
    simp [startR, bodySp, pys_map lv_py init, sh2, eqvAll_nil]
    refine ⟨ws, q.1, hw, h1, by omega, rfl, ?_⟩
    have c1 : ¬ (60 : Int) < (many : Int) + 1 := by have : 1 ≤ q.1.size := by { cases q.1 <;> simp [Tst.size] }
                                                    omega
    have c2 : ¬ (20 : Int) < q.2 := by omega
    simp [startR, bodySp, c1, c2]
    have fin : ∀ (ts : List Tst), (∀ z ∈ ts, z.over ws ∧ z.deep < q.1.deep) → (q.1.size = 1 + (ts.map Tst.size).sum) → ts.length ≤ 2 →
      lcK (aGn 7) aYes (aTup (aCons (aVar 7) (aCons (aOp (rd2 fAdd) (aVar 5) (aC (D.int 1))) aNil))) [7]
        [some (.d wd), some (.d t.d), some (.m μ.length), some (.d (.int ((many : Int) + 1))), some (.d q.1.d), some (.d (.int q.2)), some (.d (.lst (ts.map Tst.d))), r7]
        (fun x μ1 => fzK (fun x μ1 => gExtend μ1 (.m μ.length) [x] fun x μ1 => ∃ m', m' < m ∧ IIs ws wd t μ m' [some (.d wd), some (.d t.d), some (.m μ.length), some (.d (.int ((many : Int) + 1))), some (.d q.1.d), some (.d (.int q.2)), some (.d (.lst (ts.map Tst.d))), r7] μ1) x μ1)
        (ts.map Tst.d) (μ ++ [.lst (init.map fun q => .d (lvD q))]) := by
      intro ts h1 h2 h3
      refine lc_map (fun d => .tup [d, .int (q.2 + 1)]) (by simp; omega) (fun d hd K1 K2 k1 => by simp [startR, bodySp]; exact k1) ?_
      simp [startR, bodySp]
      have len : init.length ≤ sizes init := by
        clear hm hs hi sh sh2 hs2 hm2 hi2
        induction init with
        | nil => simp [sizes]
        | cons z r ih => have : 1 ≤ z.1.size := by { cases z.1 <;> simp [Tst.size] }
                         simp [sizes]; omega
      have szs : sizes (init ++ ts.map fun z => (z, q.2 + 1)) = sizes init + (ts.map Tst.size).sum := by
        rw [sizes_app]
        congr 1
        clear h1 h2 h3
        induction ts with
        | nil => rfl
        | cons z r ih => simp [sizes, ih]
      refine ⟨by omega, _, ?_, init ++ ts.map fun z => (z, q.2 + 1), many + 1, _, _, _, _, rfl, ?_, rfl, ?_, ?_⟩
      · rw [szs]; omega
      · simp [Function.comp_def]
      · rw [szs]; omega
      · intro z hz
        rcases List.mem_append.mp hz with hz | hz
        · exact hi2 z hz
        · obtain ⟨y, hy, rfl⟩ := List.mem_map.mp hz
          obtain ⟨g1, g2⟩ := h1 y hy
          exact ⟨g1, by show (1 : Int) ≤ q.2 + 1; omega, by show q.2 + 1 + (y.deep : Int) ≤ 11; omega⟩
    generalize q.1 = tq at *
    cases tq with
    | yes => have f0 := fin [] (by simp) (by simp [Tst.size]) (by simp); simp [startR, bodySp, Tst.d, Tst.subs]; simpa [Tst.d] using f0
    | no => have f0 := fin [] (by simp) (by simp [Tst.size]) (by simp); simp [startR, bodySp, Tst.d, Tst.subs]; simpa [Tst.d] using f0
    | is w =>
      have f0 := fin [] (by simp) (by simp [Tst.size]) (by simp)
      have aw := any_in (show w ∈ ws from h1)
      have fw := all_flat ws
      simp [startR, bodySp, Tst.d, Tst.subs, nw, aw, fw]
      exact .inl ⟨h1, by simpa [Tst.d] using f0⟩
    | nt a => have f0 := fin [a] (by simpa [Tst.over, Tst.deep] using h1) (by simp [Tst.size]; omega) (by simp); simp [startR, bodySp, Tst.d, Tst.subs]; simpa [Tst.d] using f0
    | an a b => have f0 := fin [a, b] (by simp [Tst.over, Tst.deep] at h1 ⊢; exact ⟨⟨h1.1, by omega⟩, h1.2, by omega⟩) (by simp [Tst.size]; omega) (by simp); simp [startR, bodySp, Tst.d, Tst.subs]; simpa [Tst.d] using f0
    | orr a b => have f0 := fin [a, b] (by simp [Tst.over, Tst.deep] at h1 ⊢; exact ⟨⟨h1.1, by omega⟩, h1.2, by omega⟩) (by simp [Tst.size]; omega) (by simp); simp [startR, bodySp, Tst.d, Tst.subs]; simpa [Tst.d] using f0
end K01
namespace K01
open PySem PySem.Spec PyProof.Rows L2 Ww
/-! k01: holds_by -/
def bitA (a : Int) (j : Nat) : Bool := a / 2 ^ j % 2 == 1
theorem bit_and : ∀ (a : Fin 8) (j : Fin 3), (Builtin.bitAnd ((a.val : Int) / 2 ^ j.val) 1 == 1) = bitA a.val j.val := by decide +kernel
def Tst.val (ws : List Str) (a : Int) : Tst → Bool
  | .yes => true
  | .no => false
  | .is w => bitA a (ws.idxOf w)
  | .nt t => !t.val ws a
  | .an s t => s.val ws a && t.val ws a
  | .orr s t => s.val ws a || t.val ws a
theorem first_at {ws : List Str} {w : Str} (h : w ∈ ws) : FirstAt ws w (ws.idxOf w) := by
  have hl := List.idxOf_lt_length_of_mem h
  refine ⟨?_, fun m hm e => ?_⟩
  · rw [List.getElem?_eq_getElem hl]; simp
  · obtain ⟨hm2, e2⟩ := List.getElem?_eq_some_iff.mp e
    have := List.not_of_lt_findIdx (p := (· == w)) (xs := ws) hm
    simp [e2] at this
/-- words, an atom -/
def S_holds_by (n : Nat) : ASp := fun ss μ k => ∃ (ws : List Str) (t : Tst) (a : Nat), OkW ws ∧ ws.length ≤ 3 ∧ a < 8 ∧ t.over ws ∧ t.deep < n ∧ ss = [.d (.tpl (ws.map .str)), .d t.d, .d (.int a)] ∧ k (.d (.bl (t.val ws a))) μ
theorem p_holds_by {K : Fg} (n : Nat) : ∀ ss μ k, S_holds_by (n + 1) ss μ k → bodySp N_holds_by.length P_holds_by.length (a_holds_by K (S_holds_by n)) ss μ k := by
  rintro ss μ k ⟨ws, t, a, hw, hl, ha, ho, hd, rfl, h⟩
  cases t with
  | yes => simp [startR, bodySp, a_holds_by, Tst.d]; simpa [Tst.val] using h
  | no => simp [startR, bodySp, a_holds_by, Tst.d]; simpa [Tst.val] using h
  | is w =>
    have f := first_at (show w ∈ ws from ho)
    have hi := List.idxOf_lt_length_of_mem (show w ∈ ws from ho)
    simp [startR, bodySp, a_holds_by, Tst.d, txts_map]
    refine ⟨_, f, ?_⟩
    have z := bit_and ⟨a, ha⟩ ⟨ws.idxOf w, by omega⟩
    rw [show (Builtin.bitAnd ((a : Int) / 2 ^ ws.idxOf w) 1 == 1) = bitA a (ws.idxOf w) from z]
    exact h
  | nt t =>
    simp [startR, bodySp, a_holds_by, Tst.d]
    refine ⟨ws, t, a, hw, hl, ha, ho, by simpa [Tst.deep] using hd, rfl, ?_⟩
    simp [startR, bodySp]
    have h' : k (.d (.bl (!t.val ws a))) μ := h
    cases e1 : t.val ws a <;> rw [e1] at h' <;> simp <;> exact h'
  | an s t =>
    have hd2 : max s.deep t.deep < n := by simpa [Tst.deep] using hd
    simp [startR, bodySp, a_holds_by, Tst.d]
    refine ⟨ws, s, a, hw, hl, ha, ho.1, by omega, rfl, ?_⟩
    simp [startR, bodySp]
    refine ⟨ws, t, a, hw, hl, ha, ho.2, by omega, rfl, ?_⟩
    simp [startR, bodySp]
    have h' : k (.d (.bl (s.val ws a && t.val ws a))) μ := h
    cases e1 : s.val ws a <;> rw [e1] at h' <;> simp <;> exact h'
  | orr s t =>
    have hd2 : max s.deep t.deep < n := by simpa [Tst.deep] using hd
    simp [startR, bodySp, a_holds_by, Tst.d]
    refine ⟨ws, s, a, hw, hl, ha, ho.1, by omega, rfl, ?_⟩
    simp [startR, bodySp]
    refine ⟨ws, t, a, hw, hl, ha, ho.2, by omega, rfl, ?_⟩
    simp [startR, bodySp]
    have h' : k (.d (.bl (s.val ws a || t.val ws a))) μ := h
    cases e1 : s.val ws a <;> rw [e1] at h' <;> simp <;> exact h'
end K01
namespace K01
open PySem PySem.Spec PyProof.Rows L2 Ww
/-! k01: numbers.py, tongue.py: what is a word, a list of words, a fact -/
def S_is_number : ASp := fun ss μ k => ∃ i : Int, ss = [.d (.int i)] ∧ k (.d (.bl true)) μ
theorem p_is_number {K : Fg} : ∀ ss μ k, S_is_number ss μ k → bodySp N_is_number.length P_is_number.length (a_is_number K) ss μ k := by
  rintro ss μ k ⟨i, rfl, h⟩
  simp [startR, bodySp, a_is_number]
  exact h
def S_is_between : ASp := fun ss μ k => ∃ i a b : Int, ss = [.d (.int i), .d (.int a), .d (.int b)] ∧ k (.d (.bl (decide (a ≤ i) && decide (i ≤ b)))) μ
theorem p_is_between {K : Fg} : ∀ ss μ k, S_is_between ss μ k → bodySp N_is_between.length P_is_between.length (a_is_between K S_is_number) ss μ k := by
  rintro ss μ k ⟨i, a, b, rfl, h⟩
  simp [startR, bodySp, a_is_between]
  refine ⟨i, rfl, ?_⟩
  simp [startR, bodySp]
  by_cases q : a ≤ i
  · simp [startR, bodySp, q]; simpa [q] using h
  · simp [startR, bodySp, q]; simpa [q] using h
def isSeq : D → Prop
  | .lst _ => True
  | .tup _ => True
  | .tpl _ => True
  | _ => False
def S_is_list : ASp := fun ss μ k => ∃ d, (itemsD d).isSome = true ∧ ss = [.d d] ∧ k (.d (.bl true)) μ
theorem p_is_list {K : Fg} : ∀ ss μ k, S_is_list ss μ k → bodySp N_is_list.length P_is_list.length (a_is_list K) ss μ k := by
  rintro ss μ k ⟨d, hd, rfl, h⟩
  cases d <;> first | (exfalso; exact Bool.noConfusion hd) | (simp [startR, bodySp, a_is_list]; exact h)
abbrev LET : Str := "abcdefghijklmnopqrstuvwxyz"
def inLet : D → Bool
  | .str x => !(Builtin.Str.occurrences LET x 0 LET.length 1).isEmpty
  | _ => false
/-- a plain word -/
structure Plain (w : Str) : Prop where
  ok : PyData.strOk w = true
  low : 1 ≤ w.length
  high : w.length ≤ 8
  signs : (Ww.signs w).all inLet = true
def S_is_plain_word : ASp := fun ss μ k => ∃ w, Plain w ∧ ss = [.d (.str w)] ∧ k (.d (.bl true)) μ
theorem p_is_plain_word {K : Fg} : ∀ ss μ k, S_is_plain_word ss μ k → bodySp N_is_plain_word.length P_is_plain_word.length (a_is_plain_word K) ss μ k := by
  rintro ss μ k ⟨w, hw, rfl, h⟩
  have h1 := hw.low
  have h2 := hw.high
  have c0 : w.length ≤ 16777216 := by omega
  have c1 : (1 : Int) ≤ (w.length : Int) := by omega
  have c2 : (w.length : Int) ≤ 8 := by omega
  simp [startR, bodySp, a_is_plain_word, c0, c1, c2]
  have hs := hw.signs
  refine lc_map (fun d => .bl (inLet d)) (by simp [Ww.signs]; show w.cps.size < _; have : w.cps.size ≤ 8 := h2; omega) (fun d hd K1 K2 k1 => ?_) ?_
  · obtain ⟨c, _, rfl⟩ := List.mem_map.mp hd
    simp [startR, bodySp]
    exact k1
  · simp [startR, bodySp]
    have e : ((Ww.signs w).all fun x => inLet x) = true := hs
    simpa [List.all_map, Function.comp_def, e] using h
/-- words, unlike, each plain -/
structure Words (ws : List Str) : Prop where
  plain : ∀ w ∈ ws, Plain w
  nodup : ws.Nodup
theorem Words.ok {ws : List Str} (h : Words ws) : OkW ws := fun w hw => (h.plain w hw).ok
def S_are_unlike_words : ASp := fun ss μ k => ∃ (ws : List Str) (d : D) (a b : Int), Words ws ∧ ws.length ≤ 100 ∧ itemsD d = some (ws.map .str) ∧ a ≤ ws.length ∧ (ws.length : Int) ≤ b ∧ ss = [.d d, .d (.int a), .d (.int b)] ∧ k (.d (.bl true)) μ
theorem fLen_seq {d : D} {l : List D} (h : itemsD d = some l) {k : Sl → Mu → Prop} {μ : Mu} : fLen (nrm d) k μ = k (.d (.int (l.length : Nat))) μ := by
  cases d <;> first | (exfalso; cases h; done) | (cases h; rfl)
theorem seqK_seq {d : D} {l : List D} (h : itemsD d = some l) {k : List D → Mu → Prop} {μ : Mu} : seqK k (.d d) μ = k l μ := by
  cases d <;> first | (exfalso; cases h; done) | (cases h; rfl)
theorem itemsD_nrm {d : D} : itemsD (nrm d) = itemsD d := by cases d <;> rfl
theorem p_are_unlike_words {K : Fg} : ∀ ss μ k, S_are_unlike_words ss μ k → bodySp N_are_unlike_words.length P_are_unlike_words.length (a_are_unlike_words K S_is_list S_is_plain_word) ss μ k := by
  rintro ss μ k ⟨ws, d, a, b, hw, hl, hd, ha, hb, rfl, h⟩
  have e1 : ws.length < 4000 := by omega
  have e2 : metS ws ws.length = ws := by rw [metS_nodup hw.nodup _ (Nat.le_refl _), List.take_length]
  simp [startR, bodySp, a_are_unlike_words]
  refine ⟨d, by rw [hd]; rfl, rfl, ?_⟩
  simp [startR, bodySp, fLen_seq hd, seqK_seq hd, itemsD_nrm, hd, ha, hb, txts_map, e1, e2]
  refine lc_map (fun d => .bl true) (by simp; omega) (fun d hd K1 K2 k1 => ?_) ?_
  · obtain ⟨w, hm, rfl⟩ := List.mem_map.mp hd
    simp [startR, bodySp]
    exact ⟨w, hw.plain w hm, rfl, by simp [startR, bodySp]; exact k1⟩
  · simp [startR, bodySp]
    have e3 : bools (ws.map (Function.const D (D.bl true) ∘ D.str)) = some (ws.map fun _ => true) := bools_mapf ws fun _ => true
    refine ⟨_, e3, ?_⟩
    simpa using h
end K01
namespace K01
open PySem PySem.Spec PyProof.Rows L2 Ww
/-! k01: is_fact_of -/
inductive Fct where
  | never (t : Tst) | refused (w : Str) (t : Tst) | makes (w : Str) (t : Tst) | keeps (w : Str) (t : Tst)
def Fct.d : Fct → D
  | .never t => .tup [.str "never", t.d]
  | .refused w t => .tup [.str "refused", .str w, t.d]
  | .makes w t => .tup [.str "makes", .str w, t.d]
  | .keeps w t => .tup [.str "keeps", .str w, t.d]
def Fct.t : Fct → Tst
  | .never t => t
  | .refused _ t => t
  | .makes _ t => t
  | .keeps _ t => t
/-- over these tests, deeds -/
def Fct.over (ts ds : List Str) : Fct → Prop
  | .never t => t.over ts
  | .refused w t => w ∈ ds ∧ t.over ts
  | .makes w t => w ∈ ds ∧ t.over ts
  | .keeps w t => w ∈ ds ∧ t.over ts
theorem at2 {α : Type} (a b : α) : atI [a, b] (-1) = some b := rfl
theorem at3 {α : Type} (a b c : α) : atI [a, b, c] (-1) = some c := rfl
theorem Fct.over_t {ts ds : List Str} : ∀ {f : Fct}, f.over ts ds → f.t.over ts
  | .never _, h => h
  | .refused _ _, h => h.2
  | .makes _ _, h => h.2
  | .keeps _ _, h => h.2
def S_is_fact_of : ASp := fun ss μ k => ∃ (ts ds : List Str) (td dd : D) (f : Fct), OkW ts ∧ (td = .tup (ts.map .str) ∨ td = .tpl (ts.map .str)) ∧ (dd = .tup (ds.map .str) ∨ dd = .tpl (ds.map .str)) ∧ f.over ts ds ∧ f.t.deep ≤ 10 ∧ f.t.size ≤ 60 ∧
  ss = [.d td, .d dd, .d f.d] ∧ k (.d (.bl true)) μ
theorem p_is_fact_of {K : Fg} : ∀ ss μ k, S_is_fact_of ss μ k → bodySp N_is_fact_of.length P_is_fact_of.length (a_is_fact_of K S_is_test_of) ss μ k := by
  rintro ss μ k ⟨ts, ds, td, dd, f, hw, htd, hdd, ho, hd, hz, rfl, h⟩
  have nd := in_words hdd
  have fw := all_flat ds
  have ht := Fct.over_t ho
  cases f with
  | never t =>
    simp [startR, bodySp, a_is_fact_of, Fct.d, at2, at3]
    refine ⟨ts, t, td, hw, htd, ht, hd, hz, rfl, ?_⟩
    simp [startR, bodySp]
    exact h
  | refused w t =>
    have aw := any_in (show w ∈ ds from ho.1)
    have iw : w ∈ ds := ho.1
    simp [startR, bodySp, a_is_fact_of, Fct.d, at2, at3]
    refine ⟨ts, t, td, hw, htd, ht, hd, hz, rfl, ?_⟩
    simp [startR, bodySp, nd, aw, fw]
    exact h
  | makes w t =>
    have aw := any_in (show w ∈ ds from ho.1)
    have iw : w ∈ ds := ho.1
    simp [startR, bodySp, a_is_fact_of, Fct.d, at2, at3]
    refine ⟨ts, t, td, hw, htd, ht, hd, hz, rfl, ?_⟩
    simp [startR, bodySp, nd, aw, fw]
    exact h
  | keeps w t =>
    have aw := any_in (show w ∈ ds from ho.1)
    have iw : w ∈ ds := ho.1
    simp [startR, bodySp, a_is_fact_of, Fct.d, at2, at3]
    refine ⟨ts, t, td, hw, htd, ht, hd, hz, rfl, ?_⟩
    simp [startR, bodySp, nd, aw, fw]
    exact h
end K01
namespace K01
open PySem PySem.Spec PyProof.Rows L2 Ww
/-! k01: Tongue.__init__ -/
def tupOf : D → D
  | .lst l => .tpl l
  | d => d
def KEPT : List Str := ["yes", "no", "not", "and", "or"]
/-- a tongue's words and facts -/
structure Tng (ts ds : List Str) (fs : List Fct) : Prop where
  t : Words ts
  d : Words ds
  tl : ts.length ≤ 3
  dl : 1 ≤ ds.length ∧ ds.length ≤ 4
  kept : ∀ w ∈ ts, w ∉ KEPT
  apart : ∀ w ∈ ds, w ∉ ts
  fl : fs.length ≤ 8
  over : ∀ f ∈ fs, f.over ts ds
  small : ∀ f ∈ fs, f.t.deep ≤ 10 ∧ f.t.size ≤ 60
def lp (d : D) (l : List D) : Prop := d = .lst l ∨ d = .tpl l
def S_init (C : Addr) : ASp := fun ss μ k => ∃ (ts ds : List Str) (fs : List Fct) (td dd fd : D) (μ0 : Mu), Tng ts ds fs ∧ lp td (ts.map .str) ∧ lp dd (ds.map .str) ∧ itemsD fd = some (fs.map Fct.d) ∧ ss = [.m μ0.length, .d td, .d dd, .d fd] ∧ μ = μ0 ++ [.ins C [] []] ∧
  k (.d .non) (μ0 ++ [.ins C ["t_tests", "t_deeds", "t_facts"] [.d (.tpl (ts.map .str)), .d (.tpl (ds.map .str)), .d (tupOf fd)]])
theorem lp_items {d : D} {l : List D} (h : lp d l) : itemsD d = some l := by rcases h with rfl | rfl <;> rfl
theorem tupC_lp {d : D} {l : List D} (h : lp d l) {k : Sl → Mu → Prop} {μ : Mu} : fTupC (.d d) μ k = k (.d (.tpl l)) μ := by rcases h with rfl | rfl <;> rfl
theorem tupC_of {d : D} {l : List D} (h : itemsD d = some l) {k : Sl → Mu → Prop} {μ : Mu} : fTupC (.d d) μ k = k (.d (tupOf d)) μ := by
  cases d <;> first | (exfalso; cases h; done) | rfl
theorem in_lp {d : D} {ws : List Str} (h : lp d (ws.map .str)) {x : Str} {neg : Bool} {k : Sl → Mu → Prop} {μ : Mu} (hk : k (.d (.bl (if neg then !(ws.map D.str).any (fun y => eqF y (.str x)) else (ws.map D.str).any fun y => eqF y (.str x)))) μ) : fIn neg (.str x) (nrm d) k μ := by
  rcases h with rfl | rfl
  · exact .inl ⟨rfl, all_flat ws, hk⟩
  · exact ⟨rfl, all_flat ws, hk⟩
theorem oneK_seq {d : D} {l : List D} (h : itemsD d = some l) {k : List D → Mu → Prop} {μ : Mu} : oneK k [.d d] μ = k l μ := by
  cases d <;> first | (exfalso; cases h; done) | (cases h; rfl)
theorem p_init {K : Fg} : ∀ ss μ k, S_init (He.ga K "Tongue") ss μ k → bodySp N_Tongue___init__.length P_Tongue___init__.length (a_Tongue___init__ K S_are_unlike_words S_is_list S_is_fact_of) ss μ k := by
  rintro ss μ k ⟨ts, ds, fs, td, dd, fd, μ0, T, ht, hd, hf, rfl, rfl, h⟩
  have it := lp_items ht
  have id := lp_items hd
  simp [startR, bodySp, a_Tongue___init__]
  refine ⟨ts, td, 0, 3, T.t, by have := T.tl; omega, it, by omega, by have := T.tl; omega, rfl, ?_⟩
  simp [startR, bodySp, seqK_seq it]
  refine lc_run (fun d => d) (fun d => [D.str "yes", .str "no", .str "not", .str "and", .str "or"].any fun y => eqF y d) (by have := T.tl; simp; omega) (fun d hd K1 K2 k1 k2 => ?_) ?_
  · obtain ⟨w, hm, rfl⟩ := List.mem_map.mp hd
    have := T.kept w hm
    simp [KEPT] at this k1 k2
    simp [startR, bodySp]
    have a1 : ¬ (("yes" : Str) = w) := fun e => this.1 e.symm
    have a2 : ¬ (("no" : Str) = w) := fun e => this.2.1 e.symm
    have a3 : ¬ (("not" : Str) = w) := fun e => this.2.2.1 e.symm
    have a4 : ¬ (("and" : Str) = w) := fun e => this.2.2.2.1 e.symm
    have a5 : ¬ (("or" : Str) = w) := fun e => this.2.2.2.2 e.symm
    exact .inl ⟨⟨a1, a2, a3, a4, a5⟩, k2 a1 a2 a3 a4 a5⟩
  have fe : ((ts.map D.str).filter fun d => [D.str "yes", .str "no", .str "not", .str "and", .str "or"].any fun y => eqF y d) = [] := by
    rw [List.filter_eq_nil_iff]
    intro d hd
    obtain ⟨w, hm, rfl⟩ := List.mem_map.mp hd
    have := T.kept w hm
    simp [KEPT] at this ⊢
    exact ⟨fun e => this.1 e.symm, fun e => this.2.1 e.symm, fun e => this.2.2.1 e.symm, fun e => this.2.2.2.1 e.symm, fun e => this.2.2.2.2 e.symm⟩
  rw [fe]
  simp [startR, bodySp]
  refine ⟨ds, dd, 1, 4, T.d, by have := T.dl; omega, id, by have := T.dl; omega, by have := T.dl; omega, rfl, ?_⟩
  simp [startR, bodySp, seqK_seq id]
  refine lc_run (fun d => d) (fun d => (ts.map D.str).any fun y => eqF y d) (by have := T.dl; simp; omega) (fun d hd K1 K2 k1 k2 => ?_) ?_
  · obtain ⟨w, hm, rfl⟩ := List.mem_map.mp hd
    simp [startR, bodySp]
    refine in_lp ht ?_
    cases q : (ts.map D.str).any fun y => eqF y (.str w)
    · simp [startR, bodySp]
      exact k2 q
    · simp [startR, bodySp]
      exact k1 q
  have fd2 : ((ds.map D.str).filter fun d => (ts.map D.str).any fun y => eqF y d) = [] := by
    rw [List.filter_eq_nil_iff]
    intro d hd
    obtain ⟨w, hm, rfl⟩ := List.mem_map.mp hd
    have := T.apart w hm
    simp
    exact this
  rw [fd2]
  simp [startR, bodySp]
  refine ⟨fd, by rw [hf]; rfl, rfl, ?_⟩
  have fl : ((fs.map Fct.d).length : Int) ≤ 8 := by have := T.fl; simp; omega
  simp [startR, bodySp, fLen_seq hf, fl]
  refine ⟨by simpa using fl, ?_⟩
  rw [oneK_seq hf]
  refine ⟨fun i ρ' μ' => μ' = μ0 ++ [.ins (He.ga K "Tongue") [] []] ∧ ∃ r4 r5, ρ' = [some (.m μ0.length), some (.d td), some (.d dd), some (.d fd), r4, r5, none], ⟨rfl, none, none, rfl⟩, ?_, ?_⟩
  · rintro i d ρ' μ' he ⟨rfl, r4, r5, rfl⟩
    obtain ⟨x, hx, rfl⟩ := numbered_at he
    obtain ⟨f, hf2, rfl⟩ := List.mem_map.mp (List.mem_of_getElem? hx)
    simp [startR, bodySp, tupC_lp ht, tupC_lp hd]
    refine ⟨ts, ds, .tpl (ts.map .str), .tpl (ds.map .str), f, T.t.ok, .inr rfl, .inr rfl, T.over f hf2, (T.small f hf2).1, (T.small f hf2).2, rfl, ?_⟩
    simp [startR, bodySp]
  · rintro ρ' μ' ⟨rfl, r4, r5, rfl⟩
    simp [startR, bodySp, tupC_lp ht, tupC_lp hd, tupC_of hf, putD]
    refine ⟨[], [], ⟨rfl, rfl⟩, by simp, _, _, ⟨rfl, rfl⟩, by simp [putD], _, _, ⟨rfl, rfl⟩, by simp [putD], ?_, ?_⟩
    · refine ⟨by simp, fun j c hj hc => ?_⟩
      by_cases e : j < μ0.length
      · left
        rw [List.getElem?_append_left e] at hc ⊢
        exact hc
      · have ej : j = μ0.length := by simp at hj; omega
        subst ej
        right
        simp at hc
        subst hc
        simp [putD, Ww.Cl, slLt]
    · have tk : ∀ c : Cell, List.take (μ0.length + 1) (μ0 ++ [c]) = μ0 ++ [c] := fun c => List.take_of_length_le (by simp)
      rw [tk]
      simpa [putD] using h
end K01
namespace K01
open PySem PySem.Spec PyProof.Rows L2 Ww
/-! k01: a tongue read -/
/-- a tongue's value -/
def TD (C : Addr) (ts ds : List Str) (ff : D) : D := .ins C ["t_tests", "t_deeds", "t_facts"] [.tpl (ts.map .str), .tpl (ds.map .str), ff]
def isT (ff : D) (l : List D) : Prop := ff = .tup l ∨ ff = .tpl l
def S_Tongue_tests (C : Addr) : ASp := fun ss μ k => ∃ ts ds ff, ss = [.d (TD C ts ds ff)] ∧ k (.d (.tpl (ts.map .str))) μ
def S_Tongue_deeds (C : Addr) : ASp := fun ss μ k => ∃ ts ds ff, ss = [.d (TD C ts ds ff)] ∧ k (.d (.tpl (ds.map .str))) μ
def S_Tongue_facts (C : Addr) : ASp := fun ss μ k => ∃ ts ds ff, ss = [.d (TD C ts ds ff)] ∧ k (.d ff) μ
theorem p_Tongue_tests {K : Fg} : ∀ ss μ k, S_Tongue_tests (He.ga K "Tongue") ss μ k → bodySp N_Tongue_tests.length P_Tongue_tests.length (a_Tongue_tests K) ss μ k := by
  rintro ss μ k ⟨ts, ds, ff, rfl, h⟩
  simp [startR, bodySp, a_Tongue_tests, TD]
  exact ⟨_, _, ⟨rfl, rfl⟩, .tpl (ts.map .str), by simp [fldD], h⟩
theorem p_Tongue_deeds {K : Fg} : ∀ ss μ k, S_Tongue_deeds (He.ga K "Tongue") ss μ k → bodySp N_Tongue_deeds.length P_Tongue_deeds.length (a_Tongue_deeds K) ss μ k := by
  rintro ss μ k ⟨ts, ds, ff, rfl, h⟩
  simp [startR, bodySp, a_Tongue_deeds, TD]
  exact ⟨_, _, ⟨rfl, rfl⟩, .tpl (ds.map .str), by simp [fldD], h⟩
theorem p_Tongue_facts {K : Fg} : ∀ ss μ k, S_Tongue_facts (He.ga K "Tongue") ss μ k → bodySp N_Tongue_facts.length P_Tongue_facts.length (a_Tongue_facts K) ss μ k := by
  rintro ss μ k ⟨ts, ds, ff, rfl, h⟩
  simp [startR, bodySp, a_Tongue_facts, TD]
  exact ⟨_, _, ⟨rfl, rfl⟩, ff, by simp [fldD], h⟩
@[simp] theorem TD_nrm {C : Addr} {ts ds : List Str} {ff : D} : nrm (TD C ts ds ff) = TD C ts ds ff := rfl
theorem TD_ins {C : Addr} {ts ds : List Str} {ff : D} {P : List Str → List D → Prop} (h : P ["t_tests", "t_deeds", "t_facts"] [.tpl (ts.map .str), .tpl (ds.map .str), ff]) : ∃ ns l, Sl.d (TD C ts ds ff) = .d (.ins C ns l) ∧ P ns l := ⟨_, _, rfl, h⟩
def S_need_tongue (C : Addr) : ASp := fun ss μ k => ∃ ts ds ff, ss = [.d (TD C ts ds ff)] ∧ k (.d .non) μ
theorem p_need_tongue {K : Fg} (kf : KindF K (He.ga K "Tongue")) : ∀ ss μ k, S_need_tongue (He.ga K "Tongue") ss μ k → bodySp N_need_tongue.length P_need_tongue.length (a_need_tongue K) ss μ k := by
  rintro ss μ k ⟨ts, ds, ff, rfl, h⟩
  simp [startR, bodySp, a_need_tongue, TD]
  exact ⟨kf, h⟩
def S_many_atoms (C : Addr) : ASp := fun ss μ k => ∃ ts ds ff, ts.length ≤ 3 ∧ ss = [.d (TD C ts ds ff)] ∧ k (.d (.int (2 ^ ts.length))) μ
theorem p_many_atoms {K : Fg} : ∀ ss μ k, S_many_atoms (He.ga K "Tongue") ss μ k → bodySp N_many_atoms.length P_many_atoms.length (a_many_atoms K (S_Tongue_tests (He.ga K "Tongue"))) ss μ k := by
  rintro ss μ k ⟨ts, ds, ff, hl, rfl, h⟩
  simp [startR, bodySp, a_many_atoms]
  refine ⟨⟨_, _, rfl⟩, ts, ds, ff, rfl, ?_⟩
  simp [startR, bodySp, CPow]
  refine ⟨by omega, ?_⟩
  have e : gI (fun i j => i * 2 ^ j.toNat) 1 (ts.length : Int) = .int (2 ^ ts.length) := by
    show D.int _ = _
    simp
  rw [e]
  exact h
def S_is_atom (C : Addr) : ASp := fun ss μ k => ∃ ts ds ff i, ts.length ≤ 3 ∧ ss = [.d (TD C ts ds ff), .d (.int i)] ∧ k (.d (.bl (decide (0 ≤ i) && decide (i ≤ 2 ^ ts.length - 1)))) μ
theorem p_is_atom {K : Fg} : ∀ ss μ k, S_is_atom (He.ga K "Tongue") ss μ k → bodySp N_is_atom.length P_is_atom.length (a_is_atom K S_is_between (S_many_atoms (He.ga K "Tongue"))) ss μ k := by
  rintro ss μ k ⟨ts, ds, ff, i, hl, rfl, h⟩
  simp [startR, bodySp, a_is_atom]
  refine ⟨ts, ds, ff, hl, rfl, ?_⟩
  simp [startR, bodySp]
  refine ⟨i, 0, _, rfl, ?_⟩
  simp [startR, bodySp]
  exact h
def S_need_atom (C : Addr) : ASp := fun ss μ k => ∃ ts ds ff i, ts.length ≤ 3 ∧ 0 ≤ i ∧ i ≤ 2 ^ ts.length - 1 ∧ ss = [.d (TD C ts ds ff), .d (.int i)] ∧ k (.d .non) μ
theorem p_need_atom {K : Fg} : ∀ ss μ k, S_need_atom (He.ga K "Tongue") ss μ k → bodySp N_need_atom.length P_need_atom.length (a_need_atom K (S_is_atom (He.ga K "Tongue"))) ss μ k := by
  rintro ss μ k ⟨ts, ds, ff, i, hl, h0, h1, rfl, h⟩
  simp [startR, bodySp, a_need_atom]
  refine ⟨ts, ds, ff, i, hl, rfl, ?_⟩
  simp [startR, bodySp, h0, h1]
  exact h
def S_is_deed (C : Addr) : ASp := fun ss μ k => ∃ ts ds ff w, w ∈ ds ∧ ss = [.d (TD C ts ds ff), .d (.str w)] ∧ k (.d (.bl true)) μ
theorem p_is_deed {K : Fg} : ∀ ss μ k, S_is_deed (He.ga K "Tongue") ss μ k → bodySp N_is_deed.length P_is_deed.length (a_is_deed K (S_Tongue_deeds (He.ga K "Tongue"))) ss μ k := by
  rintro ss μ k ⟨ts, ds, ff, w, hw, rfl, h⟩
  have aw := any_in hw
  have fw := all_flat ds
  simp [startR, bodySp, a_is_deed]
  refine ⟨⟨_, _, rfl⟩, ts, ds, ff, rfl, ?_⟩
  simp [startR, bodySp, aw, fw, hw]
  exact h
def S_need_deed (C : Addr) : ASp := fun ss μ k => ∃ ts ds ff w, w ∈ ds ∧ ss = [.d (TD C ts ds ff), .d (.str w)] ∧ k (.d .non) μ
theorem p_need_deed {K : Fg} : ∀ ss μ k, S_need_deed (He.ga K "Tongue") ss μ k → bodySp N_need_deed.length P_need_deed.length (a_need_deed K (S_is_deed (He.ga K "Tongue"))) ss μ k := by
  rintro ss μ k ⟨ts, ds, ff, w, hw, rfl, h⟩
  simp [startR, bodySp, a_need_deed]
  refine ⟨ts, ds, ff, w, hw, rfl, ?_⟩
  simp [startR, bodySp]
  exact h
end K01
namespace K01
open PySem PySem.Spec PyProof.Rows L2 Ww
/-! k01: facts.py, what a fact bars -/
def Fct.barsA (ts : List Str) (a : Int) : Fct → Bool
  | .never t => t.val ts a
  | _ => false
def Fct.barsS (ts : List Str) (a : Int) (w : Str) (b : Int) : Fct → Bool
  | .never _ => false
  | .refused v t => v == w && t.val ts a
  | .makes v t => v == w && !t.val ts b
  | .keeps v t => v == w && (t.val ts a != t.val ts b)
structure TOk (ts ds : List Str) (f : Fct) : Prop where
  ok : OkW ts
  okd : OkW ds
  tl : ts.length ≤ 3
  over : f.over ts ds
  small : f.t.deep ≤ 10 ∧ f.t.size ≤ 60
def S_bars_atom (C : Addr) : ASp := fun ss μ k => ∃ ts ds ff f, ∃ a : Nat, TOk ts ds f ∧ a < 8 ∧ ss = [.d (TD C ts ds ff), .d f.d, .d (.int a)] ∧ k (.d (.bl (f.barsA ts a))) μ
theorem p_bars_atom {K : Fg} : ∀ ss μ k, S_bars_atom (He.ga K "Tongue") ss μ k → bodySp N_bars_atom.length P_bars_atom.length (a_bars_atom K (S_holds_by 12) (S_Tongue_tests (He.ga K "Tongue"))) ss μ k := by
  rintro ss μ k ⟨ts, ds, ff, f, a, T, ha, rfl, h⟩
  cases f with
  | never t =>
    simp [startR, bodySp, a_bars_atom, Fct.d]
    refine ⟨⟨_, _, rfl⟩, ts, ds, ff, rfl, ?_⟩
    simp [startR, bodySp]
    refine ⟨ts, t, a, T.ok, T.tl, ha, T.over, by have := T.small.1; simp [Fct.t] at this; omega, rfl, ?_⟩
    simp [startR, bodySp]
    exact h
  | refused w t => simp [startR, bodySp, a_bars_atom, Fct.d]; exact h
  | makes w t => simp [startR, bodySp, a_bars_atom, Fct.d]; exact h
  | keeps w t => simp [startR, bodySp, a_bars_atom, Fct.d]; exact h
theorem sh_ok {w : Str} (h : PyData.strOk w = true) : SeqAt.shaped (.str w) = true := by
  show (PyData.strOk w && decide (0 ≤ 64)) = true
  rw [h]; rfl
def S_bars_step (C : Addr) : ASp := fun ss μ k => ∃ ts ds ff f, ∃ (a b : Nat) (w : Str), TOk ts ds f ∧ a < 8 ∧ b < 8 ∧ w ∈ ds ∧ ss = [.d (TD C ts ds ff), .d f.d, .d (.int a), .d (.str w), .d (.int b)] ∧ k (.d (.bl (f.barsS ts a w b))) μ
theorem p_bars_step {K : Fg} : ∀ ss μ k, S_bars_step (He.ga K "Tongue") ss μ k → bodySp N_bars_step.length P_bars_step.length (a_bars_step K (S_holds_by 12) (S_Tongue_tests (He.ga K "Tongue"))) ss μ k := by
  rintro ss μ k ⟨ts, ds, ff, f, a, b, w, T, ha, hb, hw, rfl, h⟩
  cases f with
  | never t => simp [startR, bodySp, a_bars_step, Fct.d]; exact h
  | refused v t =>
    have hv : v ∈ ds := T.over.1
    have hd : t.deep < 12 := by have := T.small.1; simp [Fct.t] at this; omega
    simp [startR, bodySp, a_bars_step, Fct.d]
    refine ⟨sh_ok (T.okd v hv), sh_ok (T.okd w hw), ?_⟩
    by_cases e : v = w
    · refine .inl ⟨e, ⟨_, _, rfl⟩, ts, ds, ff, rfl, ts, t, a, T.ok, T.tl, ha, T.over.2, hd, rfl, ⟨_, _, rfl⟩, ts, ds, ff, rfl, ts, t, b, T.ok, T.tl, hb, T.over.2, hd, rfl, ?_⟩
      have e2 : (v == w) = true := beq_iff_eq.mpr e
      simp [Fct.barsS, e2] at h
      simp [startR, bodySp]
      exact h
    · refine .inr ⟨e, ?_⟩
      have e2 : (v == w) = false := beq_eq_false_iff_ne.mpr e
      simpa [Fct.barsS, e2] using h
  | makes v t =>
    have hv : v ∈ ds := T.over.1
    have hd : t.deep < 12 := by have := T.small.1; simp [Fct.t] at this; omega
    simp [startR, bodySp, a_bars_step, Fct.d]
    refine ⟨sh_ok (T.okd v hv), sh_ok (T.okd w hw), ?_⟩
    by_cases e : v = w
    · refine .inl ⟨e, ⟨_, _, rfl⟩, ts, ds, ff, rfl, ts, t, a, T.ok, T.tl, ha, T.over.2, hd, rfl, ⟨_, _, rfl⟩, ts, ds, ff, rfl, ts, t, b, T.ok, T.tl, hb, T.over.2, hd, rfl, ?_⟩
      have e2 : (v == w) = true := beq_iff_eq.mpr e
      simp [Fct.barsS, e2] at h
      simp [startR, bodySp]
      cases q : t.val ts b <;> rw [q] at h <;> simp <;> exact h
    · refine .inr ⟨e, ?_⟩
      have e2 : (v == w) = false := beq_eq_false_iff_ne.mpr e
      simpa [Fct.barsS, e2] using h
  | keeps v t =>
    have hv : v ∈ ds := T.over.1
    have hd : t.deep < 12 := by have := T.small.1; simp [Fct.t] at this; omega
    simp [startR, bodySp, a_bars_step, Fct.d]
    refine ⟨sh_ok (T.okd v hv), sh_ok (T.okd w hw), ?_⟩
    by_cases e : v = w
    · refine .inl ⟨e, ⟨_, _, rfl⟩, ts, ds, ff, rfl, ts, t, a, T.ok, T.tl, ha, T.over.2, hd, rfl, ⟨_, _, rfl⟩, ts, ds, ff, rfl, ts, t, b, T.ok, T.tl, hb, T.over.2, hd, rfl, ?_⟩
      have e2 : (v == w) = true := beq_iff_eq.mpr e
      simp [Fct.barsS, e2] at h
      simp [startR, bodySp]
      cases q : t.val ts b <;> cases q2 : t.val ts a <;> rw [q, q2] at h <;> simpa using h
    · refine .inr ⟨e, ?_⟩
      have e2 : (v == w) = false := beq_eq_false_iff_ne.mpr e
      simpa [Fct.barsS, e2] using h
end K01
namespace K01
open PySem PySem.Spec PyProof.Rows L2 Ww
/-! k01: facts.py, atoms and steps that are open -/
structure FOk (ts ds : List Str) (fs : List Fct) : Prop where
  ok : OkW ts
  okd : OkW ds
  tl : ts.length ≤ 3
  fl : fs.length ≤ 8
  dl : ds.length ≤ 4
  each : ∀ f ∈ fs, TOk ts ds f
theorem isT_items {ff : D} {l : List D} (h : isT ff l) : itemsD ff = some l := by rcases h with rfl | rfl <;> rfl
def openA (ts : List Str) (fs : List Fct) (a : Int) : Bool := !(fs.any fun f => f.barsA ts a)
def S_is_open (C : Addr) : ASp := fun ss μ k => ∃ ts ds ff fs, ∃ a : Nat, FOk ts ds fs ∧ isT ff (fs.map Fct.d) ∧ a < 8 ∧ ss = [.d (TD C ts ds ff), .d (.int a)] ∧ k (.d (.bl (openA ts fs a))) μ
theorem lc_facts {u : AT} {ga : AG} {we : AE} {vs : List Nat} {ρ : Rho} {μ : Mu} {k : Sl → Mu → Prop} {α : Type} {l : List α} (d : α → D) (g : α → D) (hl : l.length < sizeLine)
    (ht : ∀ x ∈ l, ∀ (K1 : Sl → Mu → Prop) (K2 : Mu → Prop), K1 (.d (g x)) μ → ga (.d (d x)) (wipeR ρ vs) μ fun ρ2 μ2 => u ρ2 μ2 fun z μ3 => if z = true then aFz we ρ2 μ3 K1 else K2 μ3)
    (hk : k (.d (.lst (l.map g))) μ) : lcK ga u we vs ρ k (l.map d) μ := by
  refine ⟨fun i acc μ' => μ' = μ ∧ i ≤ l.length ∧ acc = (l.take i).map g, ⟨rfl, Nat.zero_le _, by simp⟩, ?_, ?_⟩
  · rintro i y acc μ' hd ⟨rfl, hi, rfl⟩
    rw [List.getElem?_map] at hd
    obtain ⟨x, hx, rfl⟩ := Option.map_eq_some_iff.mp hd
    obtain ⟨hlt, e⟩ := List.getElem?_eq_some_iff.mp hx
    have et : l.take (i + 1) = l.take i ++ [x] := by rw [List.take_succ_eq_append_getElem hlt, e]
    refine ht x (List.mem_of_getElem? hx) _ _ ⟨g x, rfl, ?_, rfl, hlt, by rw [et, List.map_append]; rfl⟩
    have h2 : (l.take i).length ≤ l.length := List.length_take_le' ..
    rw [List.length_map]; omega
  · rintro acc μ' ⟨rfl, _, rfl⟩
    rw [List.length_map, List.take_length]
    exact hk
theorem p_is_open {K : Fg} : ∀ ss μ k, S_is_open (He.ga K "Tongue") ss μ k → bodySp N_is_open.length P_is_open.length (a_is_open K (S_Tongue_facts (He.ga K "Tongue")) (S_bars_atom (He.ga K "Tongue"))) ss μ k := by
  rintro ss μ k ⟨ts, ds, ff, fs, a, F, hf, ha, rfl, h⟩
  have hi := isT_items hf
  simp [startR, bodySp, a_is_open]
  refine ⟨⟨_, _, rfl⟩, ts, ds, ff, rfl, ?_⟩
  simp [startR, bodySp, seqK_seq hi]
  refine lc_facts Fct.d (fun f => .bl (f.barsA ts a)) (by have := F.fl; rw [sizeLine_val]; omega) (fun f hm K1 K2 k1 => ?_) ?_
  · simp [startR, bodySp]
    refine ⟨ts, ds, ff, f, a, F.each f hm, ha, rfl, ?_⟩
    simp [startR, bodySp]
    exact k1
  · simp [startR, bodySp]
    exact h
theorem lc_filt {u : AT} {ga : AG} {we : AE} {vs : List Nat} {ρ : Rho} {μ : Mu} {k : Sl → Mu → Prop} {α : Type} {l : List α} (d : α → D) (g : α → D) (c : α → Bool) (hl : l.length < sizeLine)
    (ht : ∀ x ∈ l, ∀ (K1 : Sl → Mu → Prop) (K2 : Mu → Prop), (c x = true → K1 (.d (g x)) μ) → (c x = false → K2 μ) → ga (.d (d x)) (wipeR ρ vs) μ fun ρ2 μ2 => u ρ2 μ2 fun z μ3 => if z = true then aFz we ρ2 μ3 K1 else K2 μ3)
    (hk : k (.d (.lst ((l.filter c).map g))) μ) : lcK ga u we vs ρ k (l.map d) μ := by
  refine ⟨fun i acc μ' => μ' = μ ∧ i ≤ l.length ∧ acc = ((l.take i).filter c).map g, ⟨rfl, Nat.zero_le _, by simp⟩, ?_, ?_⟩
  · rintro i y acc μ' hd ⟨rfl, hi, rfl⟩
    rw [List.getElem?_map] at hd
    obtain ⟨x, hx, rfl⟩ := Option.map_eq_some_iff.mp hd
    obtain ⟨hlt, e⟩ := List.getElem?_eq_some_iff.mp hx
    have et : l.take (i + 1) = l.take i ++ [x] := by rw [List.take_succ_eq_append_getElem hlt, e]
    refine ht x (List.mem_of_getElem? hx) _ _ (fun ct => ⟨g x, rfl, ?_, rfl, hlt, ?_⟩) fun cf => ⟨rfl, hlt, ?_⟩
    · have h1 := List.length_filter_le c (l.take i)
      have h2 : (l.take i).length ≤ l.length := List.length_take_le' ..
      rw [List.length_map]; omega
    · rw [et, List.filter_append, List.map_append]; simp [ct]
    · rw [et, List.filter_append, List.map_append]; simp [cf]
  · rintro acc μ' ⟨rfl, _, rfl⟩
    rw [List.length_map, List.take_length]
    exact hk
theorem pow8 {n : Nat} (h : n ≤ 3) : 2 ^ n ≤ 8 := by
  have : n = 0 ∨ n = 1 ∨ n = 2 ∨ n = 3 := by omega
  rcases this with rfl | rfl | rfl | rfl <;> decide
theorem powI (n : Nat) : ((2 : Int) ^ n).toNat = 2 ^ n := by
  rw [show (2 : Int) ^ n = ((2 ^ n : Nat) : Int) by simp]; rfl
def openL (ts : List Str) (fs : List Fct) : List Nat := (List.range (2 ^ ts.length)).filter fun a => openA ts fs a
def intsD (l : List Nat) : List D := l.map fun a : Nat => D.int (a : Int)
def S_open_lot (C : Addr) : ASp := fun ss μ k => ∃ ts ds ff fs, FOk ts ds fs ∧ isT ff (fs.map Fct.d) ∧ ss = [.d (TD C ts ds ff)] ∧ k (.d (.tup (intsD (openL ts fs)))) μ
theorem p_open_lot {K : Fg} : ∀ ss μ k, S_open_lot (He.ga K "Tongue") ss μ k → bodySp N_open_lot.length P_open_lot.length (a_open_lot K (S_many_atoms (He.ga K "Tongue")) (S_is_open (He.ga K "Tongue"))) ss μ k := by
  rintro ss μ k ⟨ts, ds, ff, fs, F, hf, rfl, h⟩
  simp [startR, bodySp, a_open_lot]
  refine ⟨ts, ds, ff, F.tl, rfl, ?_⟩
  have p8 := pow8 F.tl
  have pI : (2 : Int) ^ ts.length = ((2 ^ ts.length : Nat) : Int) := by simp
  have b0 : (0 : Int) ≤ 2 ^ ts.length ∧ (2 : Int) ^ ts.length ≤ 8 := by
    rw [pI]
    exact ⟨Int.natCast_nonneg _, by omega⟩
  simp [startR, bodySp]
  refine ⟨⟨by omega, by omega⟩, ?_⟩
  rw [powI]
  refine lc_filt (fun i : Nat => .int i) (fun i : Nat => .int i) (fun i => openA ts fs i) (by rw [sizeLine_val, List.length_range]; omega) (fun i hm K1 K2 k1 k2 => ?_) ?_
  · have hm2 := List.mem_range.mp hm
    simp [startR, bodySp]
    refine ⟨ts, ds, ff, fs, i, F, hf, by omega, rfl, ?_⟩
    cases q : openA ts fs i
    · simp [startR, bodySp]
      exact k2 q
    · simp [startR, bodySp]
      exact k1 q
  · simp [startR, bodySp]
    exact h
end K01
namespace K01
open PySem PySem.Spec PyProof.Rows L2 Ww
/-! k01: facts.py, steps -/
/-- the first fact that bars -/
def barOf (ts : List Str) (fs : List Fct) (a : Int) (w : Str) (b : Int) : Option Nat := fs.findIdx? fun f => f.barsA ts a || f.barsA ts b || f.barsS ts a w b
def optD : Option Nat → D
  | some i => .int i
  | none => .non
def S_bar_of (C : Addr) : ASp := fun ss μ k => ∃ ts ds ff fs, ∃ (a b : Nat) (w : Str), FOk ts ds fs ∧ isT ff (fs.map Fct.d) ∧ a < 8 ∧ b < 8 ∧ w ∈ ds ∧ ss = [.d (TD C ts ds ff), .d (.int a), .d (.str w), .d (.int b)] ∧ k (.d (optD (barOf ts fs a w b))) μ
theorem p_bar_of {K : Fg} : ∀ ss μ k, S_bar_of (He.ga K "Tongue") ss μ k → bodySp N_bar_of.length P_bar_of.length (a_bar_of K (S_Tongue_facts (He.ga K "Tongue")) (S_bars_atom (He.ga K "Tongue")) (S_bars_step (He.ga K "Tongue"))) ss μ k := by
  rintro ss μ k ⟨ts, ds, ff, fs, a, b, w, F, hf, ha, hb, hw, rfl, h⟩
  have hi := isT_items hf
  simp [startR, bodySp, a_bar_of]
  refine ⟨⟨_, _, rfl⟩, ts, ds, ff, rfl, ?_⟩
  simp [startR, bodySp]
  rw [oneK_seq hi]
  let p : Fct → Bool := fun f => f.barsA ts a || f.barsA ts b || f.barsS ts a w b
  refine ⟨fun i ρ' μ' => μ' = μ ∧ (∀ j f, j < i → fs[j]? = some f → p f = false) ∧ ∃ r4 r5, ρ' = [some (.d (TD (He.ga K "Tongue") ts ds ff)), some (.d (.int a)), some (.d (.str w)), some (.d (.int b)), r4, r5], ⟨rfl, fun j f hj => absurd hj (Nat.not_lt_zero _), none, none, rfl⟩, ?_, ?_⟩
  · rintro i d ρ' μ' he ⟨rfl, hj, r4, r5, rfl⟩
    obtain ⟨x, hx, rfl⟩ := numbered_at he
    rw [List.getElem?_map] at hx
    obtain ⟨f, hf2, rfl⟩ := Option.map_eq_some_iff.mp hx
    have T := F.each f (List.mem_of_getElem? hf2)
    obtain ⟨hlt, ef⟩ := List.getElem?_eq_some_iff.mp hf2
    have found : p f = true → k (.d (.int i)) μ' := fun hp => by
      have e : barOf ts fs a w b = some i := by
        refine List.findIdx?_eq_some_iff_getElem.mpr ⟨hlt, by rw [ef]; exact hp, fun j hji => ?_⟩
        have := hj j fs[j] hji (List.getElem?_eq_getElem (by omega))
        exact fun z => Bool.false_ne_true (this.symm.trans z)
      rw [e] at h
      exact h
    have on : p f = false → ∀ r4' r5' : Option Sl, μ' = μ' ∧ (∀ j f, j < i + 1 → fs[j]? = some f → p f = false) ∧ ∃ x y, [some (Sl.d (TD (He.ga K "Tongue") ts ds ff)), some (.d (.int a)), some (.d (.str w)), some (.d (.int b)), r4', r5'] = [some (.d (TD (He.ga K "Tongue") ts ds ff)), some (.d (.int a)), some (.d (.str w)), some (.d (.int b)), x, y] := fun hp r4' r5' =>
      ⟨rfl, fun j g hj2 hg => by
        by_cases q : j < i
        · exact hj j g q hg
        · obtain rfl : j = i := by omega
          rw [hf2] at hg
          cases hg
          exact hp, _, _, rfl⟩
    simp [startR, bodySp]
    refine ⟨ts, ds, ff, f, a, T, ha, rfl, ?_⟩
    cases q1 : f.barsA ts a with
    | true =>
      simp [startR, bodySp]
      exact found (by simp [p, q1])
    | false =>
      simp [startR, bodySp]
      refine ⟨ts, ds, ff, f, b, T, hb, rfl, ?_⟩
      cases q2 : f.barsA ts b with
      | true =>
        simp [startR, bodySp]
        exact found (by simp [p, q2])
      | false =>
        simp [startR, bodySp]
        refine ⟨ts, ds, ff, f, a, b, w, T, ha, hb, hw, rfl, ?_⟩
        cases q3 : f.barsS ts a w b with
        | true =>
          simp [startR, bodySp]
          exact found (by simp [p, q3])
        | false =>
          simp [startR, bodySp]
          exact (on (by simp [p, q1, q2, q3]) none none).2.1
  · rintro ρ' μ' ⟨rfl, hj, r4, r5, rfl⟩
    have e : barOf ts fs a w b = none := by
      refine List.findIdx?_eq_none_iff.mpr fun f hm => ?_
      obtain ⟨j, hjl, ej⟩ := List.getElem_of_mem hm
      exact hj j f (by rw [numbered_len, List.length_map]; exact hjl) (by rw [List.getElem?_eq_getElem hjl, ej])
    rw [e] at h
    simp [startR, bodySp]
    exact h
/-- where a step may lead -/
def lotL (ts : List Str) (fs : List Fct) (a : Nat) (w : Str) : List Nat := (List.range (2 ^ ts.length)).filter fun b => (barOf ts fs a w b).isNone
def S_lot_after (C : Addr) : ASp := fun ss μ k => ∃ ts ds ff fs, ∃ (a : Nat) (w : Str), FOk ts ds fs ∧ isT ff (fs.map Fct.d) ∧ a < 8 ∧ w ∈ ds ∧ ss = [.d (TD C ts ds ff), .d (.int a), .d (.str w)] ∧ k (.d (.tup (intsD (lotL ts fs a w)))) μ
theorem p_lot_after {K : Fg} : ∀ ss μ k, S_lot_after (He.ga K "Tongue") ss μ k → bodySp N_lot_after.length P_lot_after.length (a_lot_after K (S_many_atoms (He.ga K "Tongue")) (S_bar_of (He.ga K "Tongue"))) ss μ k := by
  rintro ss μ k ⟨ts, ds, ff, fs, a, w, F, hf, ha, hw, rfl, h⟩
  simp [startR, bodySp, a_lot_after]
  refine ⟨ts, ds, ff, F.tl, rfl, ?_⟩
  have p8 := pow8 F.tl
  have pI : (2 : Int) ^ ts.length = ((2 ^ ts.length : Nat) : Int) := by simp
  have b0 : (0 : Int) ≤ 2 ^ ts.length ∧ (2 : Int) ^ ts.length ≤ 8 := by
    rw [pI]
    exact ⟨Int.natCast_nonneg _, by omega⟩
  simp [startR, bodySp]
  refine ⟨⟨by omega, by omega⟩, ?_⟩
  rw [powI]
  refine lc_filt (fun i : Nat => .int i) (fun i : Nat => .int i) (fun i => (barOf ts fs a w i).isNone) (by rw [sizeLine_val, List.length_range]; omega) (fun i hm K1 K2 k1 k2 => ?_) ?_
  · have hm2 := List.mem_range.mp hm
    simp [startR, bodySp]
    refine ⟨ts, ds, ff, fs, a, i, w, F, hf, ha, by omega, hw, rfl, ?_⟩
    cases q : barOf ts fs a w i
    · simp [startR, bodySp, optD]
      exact k1 (by rw [q]; rfl)
    · simp [startR, bodySp, optD]
      exact k2 (by rw [q]; rfl)
  · simp [startR, bodySp]
    exact h
end K01
namespace K01
open PySem PySem.Spec PyProof.Rows L2 Ww
/-! k01: facts.py, what follows -/
def keptB (ts ds : List Str) (fs : List Fct) (f : Fct) : Bool := match f with
  | .never _ => !(openL ts fs).any fun a => f.barsA ts a
  | .refused w _ => (openL ts fs).all fun a => !(lotL ts fs a w).any fun b => f.barsS ts a w b
  | .makes w _ => (openL ts fs).all fun a => !(lotL ts fs a w).any fun b => f.barsS ts a w b
  | .keeps w _ => (openL ts fs).all fun a => !(lotL ts fs a w).any fun b => f.barsS ts a w b
def S_is_kept (C : Addr) : ASp := fun ss μ k => ∃ ts ds ff fs f, FOk ts ds fs ∧ isT ff (fs.map Fct.d) ∧ TOk ts ds f ∧ ss = [.d (TD C ts ds ff), .d f.d] ∧ k (.d (.bl (keptB ts ds fs f))) μ
def S_open_atoms (C : Addr) : ASp := S_open_lot C
theorem p_open_atoms {K : Fg} : ∀ ss μ k, S_open_atoms (He.ga K "Tongue") ss μ k → bodySp N_open_atoms.length P_open_atoms.length (a_open_atoms K (S_need_tongue (He.ga K "Tongue")) (S_open_lot (He.ga K "Tongue"))) ss μ k := by
  rintro ss μ k ⟨ts, ds, ff, fs, F, hf, rfl, h⟩
  simp [startR, bodySp, a_open_atoms]
  refine ⟨ts, ds, ff, rfl, ?_⟩
  simp [startR, bodySp]
  refine ⟨ts, ds, ff, fs, F, hf, rfl, ?_⟩
  simp [startR, bodySp]
  exact h
def S_open_after (C : Addr) : ASp := fun ss μ k => ∃ ts ds ff fs, ∃ (a : Nat) (w : Str), FOk ts ds fs ∧ isT ff (fs.map Fct.d) ∧ a < 2 ^ ts.length ∧ w ∈ ds ∧ ss = [.d (TD C ts ds ff), .d (.int a), .d (.str w)] ∧ k (.d (.tup (intsD (lotL ts fs a w)))) μ
theorem atI_ok {n a : Nat} (h : a < 2 ^ n) : (0 : Int) ≤ a ∧ (a : Int) ≤ 2 ^ n - 1 := by
  have : (2 : Int) ^ n = ((2 ^ n : Nat) : Int) := by simp
  rw [this]
  omega
theorem p_open_after {K : Fg} : ∀ ss μ k, S_open_after (He.ga K "Tongue") ss μ k → bodySp N_open_after.length P_open_after.length (a_open_after K (S_need_tongue (He.ga K "Tongue")) (S_need_atom (He.ga K "Tongue")) (S_need_deed (He.ga K "Tongue")) (S_lot_after (He.ga K "Tongue"))) ss μ k := by
  rintro ss μ k ⟨ts, ds, ff, fs, a, w, F, hf, ha, hw, rfl, h⟩
  have p8 := pow8 F.tl
  simp [startR, bodySp, a_open_after]
  refine ⟨ts, ds, ff, rfl, ?_⟩
  simp [startR, bodySp]
  refine ⟨ts, ds, ff, a, F.tl, (atI_ok ha).1, (atI_ok ha).2, rfl, ?_⟩
  simp [startR, bodySp]
  refine ⟨ts, ds, ff, w, hw, rfl, ?_⟩
  simp [startR, bodySp]
  refine ⟨ts, ds, ff, fs, a, w, F, hf, by omega, hw, rfl, ?_⟩
  simp [startR, bodySp]
  exact h
def S_barring (C : Addr) : ASp := fun ss μ k => ∃ ts ds ff fs, ∃ (a b : Nat) (w : Str), FOk ts ds fs ∧ isT ff (fs.map Fct.d) ∧ a < 2 ^ ts.length ∧ b < 2 ^ ts.length ∧ w ∈ ds ∧ ss = [.d (TD C ts ds ff), .d (.int a), .d (.str w), .d (.int b)] ∧ k (.d (optD (barOf ts fs a w b))) μ
theorem p_barring {K : Fg} : ∀ ss μ k, S_barring (He.ga K "Tongue") ss μ k → bodySp N_barring.length P_barring.length (a_barring K (S_need_tongue (He.ga K "Tongue")) (S_need_atom (He.ga K "Tongue")) (S_need_deed (He.ga K "Tongue")) (S_is_atom (He.ga K "Tongue")) (S_bar_of (He.ga K "Tongue"))) ss μ k := by
  rintro ss μ k ⟨ts, ds, ff, fs, a, b, w, F, hf, ha, hb, hw, rfl, h⟩
  have p8 := pow8 F.tl
  have b0 := atI_ok hb
  simp [startR, bodySp, a_barring]
  refine ⟨ts, ds, ff, rfl, ?_⟩
  simp [startR, bodySp]
  refine ⟨ts, ds, ff, a, F.tl, (atI_ok ha).1, (atI_ok ha).2, rfl, ?_⟩
  simp [startR, bodySp]
  refine ⟨ts, ds, ff, w, hw, rfl, ?_⟩
  simp [startR, bodySp]
  refine ⟨ts, ds, ff, b, F.tl, rfl, ?_⟩
  simp [startR, bodySp, b0.1, b0.2]
  refine ⟨ts, ds, ff, fs, a, b, w, F, hf, by omega, by omega, hw, rfl, ?_⟩
  simp [startR, bodySp]
  exact h
end K01
namespace K01
open PySem PySem.Spec PyProof.Rows L2 Ww
/-! k01: is_kept -/
theorem open_lt {ts : List Str} {fs : List Fct} {a : Nat} (h : a ∈ openL ts fs) : a < 2 ^ ts.length := List.mem_range.mp (List.mem_filter.mp h).1
theorem lot_lt {ts : List Str} {fs : List Fct} {a b : Nat} {w : Str} (h : b ∈ lotL ts fs a w) : b < 2 ^ ts.length := List.mem_range.mp (List.mem_filter.mp h).1
theorem open_len {ts : List Str} {fs : List Fct} (h : ts.length ≤ 3) : (openL ts fs).length ≤ 8 := by
  have h1 := List.length_filter_le (fun a : Nat => openA ts fs a) (List.range (2 ^ ts.length))
  have := pow8 h
  rw [List.length_range] at h1
  unfold openL
  omega
theorem lot_len {ts : List Str} {fs : List Fct} {a : Nat} {w : Str} (h : ts.length ≤ 3) : (lotL ts fs a w).length ≤ 8 := by
  have h1 := List.length_filter_le (fun b : Nat => (barOf ts fs a w b).isNone) (List.range (2 ^ ts.length))
  have := pow8 h
  rw [List.length_range] at h1
  unfold lotL
  omega
theorem p_is_kept {K : Fg} : ∀ ss μ k, S_is_kept (He.ga K "Tongue") ss μ k → bodySp N_is_kept.length P_is_kept.length (a_is_kept K (S_open_lot (He.ga K "Tongue")) (S_bars_atom (He.ga K "Tongue")) (S_lot_after (He.ga K "Tongue")) (S_bars_step (He.ga K "Tongue"))) ss μ k := by
  rintro ss μ k ⟨ts, ds, ff, fs, f, F, hf, T, rfl, h⟩
  have p8 := pow8 F.tl
  cases f with
  | never t =>
    simp [startR, bodySp, a_is_kept, Fct.d]
    refine ⟨ts, ds, ff, fs, F, hf, rfl, ?_⟩
    simp [startR, bodySp, intsD]
    refine lc_facts (fun a : Nat => .int a) (fun a => .bl (Fct.barsA ts a (.never t))) (by have := open_len (fs := fs) F.tl; rw [sizeLine_val]; omega) (fun a hm K1 K2 k1 => ?_) ?_
    · have := open_lt hm
      simp [startR, bodySp]
      refine ⟨ts, ds, ff, .never t, a, T, by omega, rfl, ?_⟩
      simp [startR, bodySp]
      exact k1
    · simp [startR, bodySp]
      exact h
  | refused w t =>
    have hv : w ∈ ds := T.over.1
    simp [startR, bodySp, a_is_kept, Fct.d]
    refine ⟨ts, ds, ff, fs, F, hf, rfl, ?_⟩
    simp [startR, bodySp, intsD]
    refine ⟨fun i ρ' μ' => μ' = μ ∧ (∀ (j a : Nat), j < i → (openL ts fs)[j]? = some a → (lotL ts fs a w).any (fun b => Fct.barsS ts a w b (.refused w t)) = false) ∧ ∃ r2, ρ' = [some (.d (TD (He.ga K "Tongue") ts ds ff)), some (.d (.tup [.str "refused", .str w, t.d])), r2, none], ⟨rfl, fun j a hj => absurd hj (Nat.not_lt_zero _), none, rfl⟩, ?_, ?_⟩
    · rintro i d ρ' μ' he ⟨rfl, hj, r2, rfl⟩
      rw [List.getElem?_map] at he
      obtain ⟨a, ha, rfl⟩ := Option.map_eq_some_iff.mp he
      have hm := List.mem_of_getElem? ha
      have al := open_lt hm
      simp [startR, bodySp]
      refine ⟨ts, ds, ff, fs, a, w, F, hf, by omega, hv, rfl, ?_⟩
      simp [startR, bodySp, intsD]
      refine lc_facts (fun b : Nat => .int b) (fun b => .bl (Fct.barsS ts a w b (.refused w t))) (by have := lot_len (fs := fs) (a := a) (w := w) F.tl; rw [sizeLine_val]; omega) (fun b hm K1 K2 k1 => ?_) ?_
      · have := lot_lt hm
        simp [startR, bodySp]
        refine ⟨ts, ds, ff, .refused w t, a, b, w, T, by omega, by omega, hv, rfl, ?_⟩
        simp [startR, bodySp]
        exact k1
      · simp [startR, bodySp]
        split
        · rename_i hx
          obtain ⟨b, hb1, hb2⟩ := hx
          have e : keptB ts ds fs (.refused w t) = false := by
            show (openL ts fs).all _ = false
            rw [List.all_eq_false]
            exact ⟨a, hm, by simp; exact ⟨b, hb1, hb2⟩⟩
          rw [e] at h
          exact h
        · rename_i hx
          intro j a' hj2 ha' x hx2
          by_cases q : j < i
          · have := List.any_eq_false.mp (hj j a' q ha') x hx2
            simpa using this
          · obtain rfl : j = i := by omega
            rw [ha] at ha'
            cases ha'
            cases z : Fct.barsS ts a w x (.refused w t)
            · rfl
            · exact absurd ⟨x, hx2, z⟩ hx
    · rintro ρ' μ' ⟨rfl, hj, r2, rfl⟩
      have e : keptB ts ds fs (.refused w t) = true := by
        show (openL ts fs).all _ = true
        rw [List.all_eq_true]
        intro a hm
        obtain ⟨j, hjl, ej⟩ := List.getElem_of_mem hm
        rw [hj j a (by rw [List.length_map]; exact hjl) (by rw [List.getElem?_eq_getElem hjl, ej])]
        rfl
      rw [e] at h
      simp [startR, bodySp]
      exact h
  | makes w t =>
    have hv : w ∈ ds := T.over.1
    simp [startR, bodySp, a_is_kept, Fct.d]
    refine ⟨ts, ds, ff, fs, F, hf, rfl, ?_⟩
    simp [startR, bodySp, intsD]
    refine ⟨fun i ρ' μ' => μ' = μ ∧ (∀ (j a : Nat), j < i → (openL ts fs)[j]? = some a → (lotL ts fs a w).any (fun b => Fct.barsS ts a w b (.makes w t)) = false) ∧ ∃ r2, ρ' = [some (.d (TD (He.ga K "Tongue") ts ds ff)), some (.d (.tup [.str "makes", .str w, t.d])), r2, none], ⟨rfl, fun j a hj => absurd hj (Nat.not_lt_zero _), none, rfl⟩, ?_, ?_⟩
    · rintro i d ρ' μ' he ⟨rfl, hj, r2, rfl⟩
      rw [List.getElem?_map] at he
      obtain ⟨a, ha, rfl⟩ := Option.map_eq_some_iff.mp he
      have hm := List.mem_of_getElem? ha
      have al := open_lt hm
      simp [startR, bodySp]
      refine ⟨ts, ds, ff, fs, a, w, F, hf, by omega, hv, rfl, ?_⟩
      simp [startR, bodySp, intsD]
      refine lc_facts (fun b : Nat => .int b) (fun b => .bl (Fct.barsS ts a w b (.makes w t))) (by have := lot_len (fs := fs) (a := a) (w := w) F.tl; rw [sizeLine_val]; omega) (fun b hm K1 K2 k1 => ?_) ?_
      · have := lot_lt hm
        simp [startR, bodySp]
        refine ⟨ts, ds, ff, .makes w t, a, b, w, T, by omega, by omega, hv, rfl, ?_⟩
        simp [startR, bodySp]
        exact k1
      · simp [startR, bodySp]
        split
        · rename_i hx
          obtain ⟨b, hb1, hb2⟩ := hx
          have e : keptB ts ds fs (.makes w t) = false := by
            show (openL ts fs).all _ = false
            rw [List.all_eq_false]
            exact ⟨a, hm, by simp; exact ⟨b, hb1, hb2⟩⟩
          rw [e] at h
          exact h
        · rename_i hx
          intro j a' hj2 ha' x hx2
          by_cases q : j < i
          · have := List.any_eq_false.mp (hj j a' q ha') x hx2
            simpa using this
          · obtain rfl : j = i := by omega
            rw [ha] at ha'
            cases ha'
            cases z : Fct.barsS ts a w x (.makes w t)
            · rfl
            · exact absurd ⟨x, hx2, z⟩ hx
    · rintro ρ' μ' ⟨rfl, hj, r2, rfl⟩
      have e : keptB ts ds fs (.makes w t) = true := by
        show (openL ts fs).all _ = true
        rw [List.all_eq_true]
        intro a hm
        obtain ⟨j, hjl, ej⟩ := List.getElem_of_mem hm
        rw [hj j a (by rw [List.length_map]; exact hjl) (by rw [List.getElem?_eq_getElem hjl, ej])]
        rfl
      rw [e] at h
      simp [startR, bodySp]
      exact h
  | keeps w t =>
    have hv : w ∈ ds := T.over.1
    simp [startR, bodySp, a_is_kept, Fct.d]
    refine ⟨ts, ds, ff, fs, F, hf, rfl, ?_⟩
    simp [startR, bodySp, intsD]
    refine ⟨fun i ρ' μ' => μ' = μ ∧ (∀ (j a : Nat), j < i → (openL ts fs)[j]? = some a → (lotL ts fs a w).any (fun b => Fct.barsS ts a w b (.keeps w t)) = false) ∧ ∃ r2, ρ' = [some (.d (TD (He.ga K "Tongue") ts ds ff)), some (.d (.tup [.str "keeps", .str w, t.d])), r2, none], ⟨rfl, fun j a hj => absurd hj (Nat.not_lt_zero _), none, rfl⟩, ?_, ?_⟩
    · rintro i d ρ' μ' he ⟨rfl, hj, r2, rfl⟩
      rw [List.getElem?_map] at he
      obtain ⟨a, ha, rfl⟩ := Option.map_eq_some_iff.mp he
      have hm := List.mem_of_getElem? ha
      have al := open_lt hm
      simp [startR, bodySp]
      refine ⟨ts, ds, ff, fs, a, w, F, hf, by omega, hv, rfl, ?_⟩
      simp [startR, bodySp, intsD]
      refine lc_facts (fun b : Nat => .int b) (fun b => .bl (Fct.barsS ts a w b (.keeps w t))) (by have := lot_len (fs := fs) (a := a) (w := w) F.tl; rw [sizeLine_val]; omega) (fun b hm K1 K2 k1 => ?_) ?_
      · have := lot_lt hm
        simp [startR, bodySp]
        refine ⟨ts, ds, ff, .keeps w t, a, b, w, T, by omega, by omega, hv, rfl, ?_⟩
        simp [startR, bodySp]
        exact k1
      · simp [startR, bodySp]
        split
        · rename_i hx
          obtain ⟨b, hb1, hb2⟩ := hx
          have e : keptB ts ds fs (.keeps w t) = false := by
            show (openL ts fs).all _ = false
            rw [List.all_eq_false]
            exact ⟨a, hm, by simp; exact ⟨b, hb1, hb2⟩⟩
          rw [e] at h
          exact h
        · rename_i hx
          intro j a' hj2 ha' x hx2
          by_cases q : j < i
          · have := List.any_eq_false.mp (hj j a' q ha') x hx2
            simpa using this
          · obtain rfl : j = i := by omega
            rw [ha] at ha'
            cases ha'
            cases z : Fct.barsS ts a w x (.keeps w t)
            · rfl
            · exact absurd ⟨x, hx2, z⟩ hx
    · rintro ρ' μ' ⟨rfl, hj, r2, rfl⟩
      have e : keptB ts ds fs (.keeps w t) = true := by
        show (openL ts fs).all _ = true
        rw [List.all_eq_true]
        intro a hm
        obtain ⟨j, hjl, ej⟩ := List.getElem_of_mem hm
        rw [hj j a (by rw [List.length_map]; exact hjl) (by rw [List.getElem?_eq_getElem hjl, ej])]
        rfl
      rw [e] at h
      simp [startR, bodySp]
      exact h
end K01
namespace K01
open PySem PySem.Spec PyProof.Rows L2 Ww
/-! k01: follows -/
def S_follows (C : Addr) : ASp := fun ss μ k => ∃ ts ds ff fs f, FOk ts ds fs ∧ isT ff (fs.map Fct.d) ∧ TOk ts ds f ∧ ss = [.d (TD C ts ds ff), .d f.d] ∧ k (.d (.bl (keptB ts ds fs f))) μ
theorem p_follows {K : Fg} : ∀ ss μ k, S_follows (He.ga K "Tongue") ss μ k → bodySp N_follows.length P_follows.length (a_follows K (S_need_tongue (He.ga K "Tongue")) S_is_fact_of (S_Tongue_deeds (He.ga K "Tongue")) (S_Tongue_tests (He.ga K "Tongue")) (S_is_kept (He.ga K "Tongue"))) ss μ k := by
  rintro ss μ k ⟨ts, ds, ff, fs, f, F, hf, T, rfl, h⟩
  simp [startR, bodySp, a_follows]
  refine ⟨ts, ds, ff, rfl, ?_⟩
  simp [startR, bodySp]
  refine ⟨⟨_, _, rfl⟩, ts, ds, ff, rfl, ⟨_, _, rfl⟩, ts, ds, ff, rfl, ?_⟩
  refine ⟨ts, ds, .tpl (ts.map .str), .tpl (ds.map .str), f, T.ok, .inr rfl, .inr rfl, T.over, T.small.1, T.small.2, rfl, ?_⟩
  simp [startR, bodySp]
  refine ⟨ts, ds, ff, fs, f, F, hf, T, rfl, ?_⟩
  simp [startR, bodySp]
  exact h
end K01
namespace K01
open PySem PySem.Spec PyProof.Rows L2 Ww
/-! k01: needless -/
structure Fine (ts ds : List Str) (fs : List Fct) : Prop where
  tng : Tng ts ds fs
/-- without the i-th -/
def less (fs : List Fct) (i : Nat) : List Fct := fs.take i ++ fs.drop (i + 1)
def spare (ts ds : List Str) (fs : List Fct) : List Nat := (List.range fs.length).filter fun i => match fs[i]? with
  | some f => keptB ts ds (less fs i) f
  | none => false
def S_needless (C : Addr) : ASp := fun ss μ k => ∃ ts ds ff fs, Tng ts ds fs ∧ isT ff (fs.map Fct.d) ∧ ss = [.d (TD C ts ds ff)] ∧ k (.d (.tup (intsD (spare ts ds fs)))) μ
theorem made_ins {μ0 : Mu} {C : Addr} {ns : List Str} {l : List D} {k : Sl → Mu → Prop} (h : k (.d (.ins C ns l)) μ0) : made μ0 k (.d .non) (μ0 ++ [.ins C ns (l.map .d)]) := by
  refine ⟨rfl, .ins C ns l, μ0 ++ [.frz (.ins C ns l)], ?_, Keep.app _ _, by rw [take_end]; exact h⟩
  simp [freeze]
theorem tng_less {ts ds : List Str} {fs : List Fct} (T : Tng ts ds fs) (i : Nat) : Tng ts ds (less fs i) := by
  have sub : ∀ f ∈ less fs i, f ∈ fs := fun f hf => by
    rcases List.mem_append.mp hf with h | h
    · exact List.mem_of_mem_take h
    · exact List.mem_of_mem_drop h
  refine ⟨T.t, T.d, T.tl, T.dl, T.kept, T.apart, ?_, fun f hf => T.over f (sub f hf), fun f hf => T.small f (sub f hf)⟩
  have := T.fl
  simp [less]
  omega
theorem Tng.fok {ts ds : List Str} {fs : List Fct} (T : Tng ts ds fs) : FOk ts ds fs := ⟨T.t.ok, T.d.ok, T.tl, T.fl, T.dl.2, fun f hf => ⟨T.t.ok, T.d.ok, T.tl, T.over f hf, T.small f hf⟩⟩
theorem cut_to {α : Type} (l : List α) {i : Nat} (h : i < l.length) : cut l none (some (i : Int)) = l.take i := by
  unfold cut
  rw [HT.sIx_nat, HT.sIx_none, List.drop_zero, Nat.sub_zero, Nat.min_eq_left (by omega)]
theorem cut_from {α : Type} (l : List α) {i : Nat} (h : i < l.length) : cut l (some ((i : Int) + 1)) none = l.drop (i + 1) := by
  unfold cut
  have e : ((i : Int) + 1) = ((i + 1 : Nat) : Int) := by omega
  rw [e, HT.sIx_nat, HT.sIx_none, Nat.min_eq_left (by omega)]
  exact List.take_of_length_le (by rw [List.length_drop]; omega)
theorem p_needless {K : Fg} : ∀ ss μ k, S_needless (He.ga K "Tongue") ss μ k → bodySp N_needless.length P_needless.length (a_needless K (S_need_tongue (He.ga K "Tongue")) (S_Tongue_facts (He.ga K "Tongue")) (S_init (He.ga K "Tongue")) (S_Tongue_deeds (He.ga K "Tongue")) (S_Tongue_tests (He.ga K "Tongue")) (S_is_kept (He.ga K "Tongue"))) ss μ k := by
  rintro ss μ k ⟨ts, ds, ff, fs, T, hf, rfl, h⟩
  have hi := isT_items hf
  simp [startR, bodySp, a_needless]
  refine ⟨ts, ds, ff, rfl, ?_⟩
  simp [startR, bodySp]
  refine ⟨⟨_, _, rfl⟩, ts, ds, ff, rfl, ?_⟩
  simp [startR, bodySp]
  rw [oneK_seq hi]
  let up : Nat → List Nat := fun n => (List.range n).filter fun i => match fs[i]? with
    | some f => keptB ts ds (less fs i) f
    | none => false
  refine ⟨fun i ρ' μ' => μ' = μ ++ [.lst ((up i).map fun a : Nat => .d (.int a))] ∧ ∃ r2 r3 r4, ρ' = [some (.d (TD (He.ga K "Tongue") ts ds ff)), some (.m μ.length), r2, r3, r4], ⟨rfl, none, none, none, rfl⟩, ?_, ?_⟩
  · rintro i d ρ' μ' he ⟨rfl, r2, r3, r4, rfl⟩
    obtain ⟨x, hx, rfl⟩ := numbered_at he
    rw [List.getElem?_map] at hx
    obtain ⟨f, hf2, rfl⟩ := Option.map_eq_some_iff.mp hx
    obtain ⟨hlt, ef⟩ := List.getElem?_eq_some_iff.mp hf2
    have nf : nrm ff = .tup (fs.map Fct.d) := by rcases hf with rfl | rfl <;> rfl
    have c1 : cut (fs.map Fct.d) none (some (i : Int)) = (fs.take i).map Fct.d := by rw [cut_to _ (by simpa using hlt), List.map_take]
    have c2 : cut (fs.map Fct.d) (some ((i : Int) + 1)) none = (fs.drop (i + 1)).map Fct.d := by rw [cut_from _ (by simpa using hlt), List.map_drop]
    simp [startR, bodySp, nf]
    refine ⟨⟨_, _, rfl⟩, ts, ds, ff, rfl, ⟨_, _, rfl⟩, ts, ds, ff, rfl, ⟨_, _, rfl⟩, ts, ds, ff, rfl, .tup (fs.map Fct.d), by rw [rdD_d, nf], ?_⟩
    simp [startR, bodySp, c1]
    refine ⟨⟨_, _, rfl⟩, ts, ds, ff, rfl, .tup (fs.map Fct.d), by rw [rdD_d, nf], ?_⟩
    simp [startR, bodySp, c2]
    refine ⟨by have := T.fl; omega, ts, ds, less fs i, .tpl (ts.map .str), .tpl (ds.map .str), .tup ((less fs i).map Fct.d), μ ++ [.lst ((up i).map fun a : Nat => .d (.int a))], tng_less T i, .inr rfl, .inr rfl, rfl, by simp [less], by simp, ?_⟩
    refine made_ins (l := [.tpl (ts.map .str), .tpl (ds.map .str), .tup ((less fs i).map Fct.d)]) ?_
    have TT := T.fok.each f (List.mem_of_getElem? hf2)
    refine ⟨ts, ds, .tup ((less fs i).map Fct.d), less fs i, f, (tng_less T i).fok, .inl rfl, TT, rfl, ?_⟩
    have hup : up (i + 1) = if keptB ts ds (less fs i) f = true then up i ++ [i] else up i := by
      show (List.range (i + 1)).filter _ = _
      rw [List.range_succ, List.filter_append]
      by_cases q : keptB ts ds (less fs i) f = true
      · rw [if_pos q]; simp [hf2, q, up]
      · rw [if_neg q]; simp [hf2, q, up]
    have hlu : (up i).length ≤ i := by
      have := List.length_filter_le (fun i => match fs[i]? with | some f => keptB ts ds (less fs i) f | none => false) (List.range i)
      rw [List.length_range] at this
      exact this
    have := T.fl
    cases q : keptB ts ds (less fs i) f
    · rw [q, if_neg Bool.false_ne_true] at hup
      exact .inl ⟨rfl, by rw [hup]⟩
    · rw [q, if_pos rfl] at hup
      refine .inr ⟨rfl, isLst_of at_end, _, at_end, by simp; omega, ?_⟩
      rw [hup]
      simp
  · rintro ρ' μ' ⟨rfl, r2, r3, r4, rfl⟩
    simp [startR, bodySp]
    rw [numbered_len, List.length_map]
    exact h
end K01
namespace K01
open PySem PySem.Spec PyProof.Rows L2 Ww
/-! k01: the law's small defs -/
def S__law_atoms : ASp := fun ss μ k => ∃ (ts : List Str) (r : List D), ts.length ≤ 3 ∧ ss = [.d (.tup (.lst (ts.map .str) :: r))] ∧ k (.d (.lst (intsD (List.range (2 ^ ts.length))))) μ
theorem p__law_atoms {K : Fg} : ∀ ss μ k, S__law_atoms ss μ k → bodySp N__law_atoms.length P__law_atoms.length (a__law_atoms K) ss μ k := by
  rintro ss μ k ⟨ts, r, hl, rfl, h⟩
  have : ts.length = 0 ∨ ts.length = 1 ∨ ts.length = 2 ∨ ts.length = 3 := by omega
  have a3 : atI [D.int 1, .int 2, .int 4, .int 8] 3 = some (.int 8) := rfl
  simp [startR, bodySp, a__law_atoms]
  rcases this with e | e | e | e <;> rw [e] at h ⊢ <;> simp [startR, bodySp, a3] <;> exact h
end K01
namespace K01
open PySem PySem.Spec PyProof.Rows L2 Ww
/-! k01: open_table, same_facts -/
def pInts (l : List Nat) : List PyData := l.map fun a : Nat => PyData.int (a : Int)
@[simp] theorem py_ints (l : List Nat) : toPys (intsD l) = some (pInts l) := pys_map (f := fun a : Nat => D.int (a : Int)) (p := fun a : Nat => PyData.int (a : Int)) (fun _ => rfl) l
theorem eqv_ints : ∀ l m : List Nat, PyData.eqvAll (pInts l) (pInts m) = decide (l = m)
  | [], [] => rfl
  | [], _ :: _ => rfl
  | _ :: _, [] => rfl
  | a :: l, b :: m => by
    have ih := eqv_ints l m
    show (PyData.eqv (.int (a : Int)) (.int (b : Int)) && PyData.eqvAll (pInts l) (pInts m)) = _
    have e : PyData.eqv (.int (a : Int)) (.int (b : Int)) = decide ((a : Int) = (b : Int)) := rfl
    have ei : decide ((a : Int) = (b : Int)) = decide (a = b) := by
      rw [Bool.eq_iff_iff, decide_eq_true_iff, decide_eq_true_iff]
      omega
    rw [ih, e, ei]
    by_cases h1 : a = b <;> by_cases h2 : l = m <;> simp [h1, h2]
theorem sh_ints (l : List Nat) : SeqAt.shaped (.tuple (pInts l)) = true := shaped_tuple fun x hx => ⟨rfl, by simp [PyData.depth]⟩
/-- the table of steps -/
def tableL (ts ds : List Str) (fs : List Fct) : KAcc := (openL ts fs).flatMap fun a : Nat => ds.map fun w => ([.inl (a : Int), .inr w], .tup (intsD (lotL ts fs a w)))
def S_open_table (C : Addr) : ASp := fun ss μ k => ∃ ts ds ff fs, FOk ts ds fs ∧ ds.Nodup ∧ isT ff (fs.map Fct.d) ∧ ss = [.d (TD C ts ds ff)] ∧ k (.d (dicT (tableL ts ds fs))) μ
theorem nodup_open (ts : List Str) (fs : List Fct) : (openL ts fs).Nodup := List.nodup_range.filter _
theorem nodup_keys {as : List Nat} {ds : List Str} (ha : as.Nodup) (hd : ds.Nodup) : (as.flatMap fun a : Nat => ds.map fun w => ([.inl (a : Int), .inr w] : List Key)).Nodup := by
  induction as with
  | nil => simp
  | cons a r ih =>
    rw [List.nodup_cons] at ha
    rw [List.flatMap_cons, List.nodup_append]
    refine ⟨List.Pairwise.map _ (fun x y hxy e => hxy (by simpa using e)) hd, ih ha.2, ?_⟩
    intro x hx y hy e
    subst e
    obtain ⟨w, _, rfl⟩ := List.mem_map.mp hx
    obtain ⟨b, hb, hy⟩ := List.mem_flatMap.mp hy
    obtain ⟨w', _, e⟩ := List.mem_map.mp hy
    have : b = a := by
      injection e with e1 _
      have e2 : (b : Int) = a := Sum.inl.inj e1
      omega
    exact ha.1 (this ▸ hb)
theorem p_open_table {K : Fg} : ∀ ss μ k, S_open_table (He.ga K "Tongue") ss μ k → bodySp N_open_table.length P_open_table.length (a_open_table K (S_open_lot (He.ga K "Tongue")) (S_Tongue_deeds (He.ga K "Tongue")) (S_lot_after (He.ga K "Tongue"))) ss μ k := by
  rintro ss μ k ⟨ts, ds, ff, fs, F, nd, hf, rfl, h⟩
  have p8 := pow8 F.tl
  simp [startR, bodySp, a_open_table]
  refine ⟨ts, ds, ff, fs, F, hf, rfl, ?_⟩
  simp [startR, bodySp, intsD]
  let r2 : Nat → Rho := fun a => [some (.d (TD (He.ga K "Tongue") ts ds ff)), some (.d (.int a)), none]
  let r3 : Nat → Str → Rho := fun a w => [some (.d (TD (He.ga K "Tongue") ts ds ff)), some (.d (.int a)), some (.d (.str w))]
  refine dc_run (fun a : Nat => .int a) (fun w : Str => .str w) (fun (a : Nat) w => [.inl (a : Int), .inr w]) (fun (a : Nat) w => .tup (intsD (lotL ts fs a w))) r2 r3 ?_ (nodup_keys (nodup_open ts fs) nd) (fun _ _ => by rw [sizeLine_val]; simp) ?_ ?_ ?_ ?_ ?_ ?_
  · have h1 := open_len (fs := fs) F.tl
    have h2 := F.dl
    have := Nat.mul_le_mul h1 h2
    rw [sizeLine_val]; omega
  · intro a ha KK hK
    exact hK
  · intro a ha KK hK
    simp [startR, bodySp, r2]
    refine ⟨⟨_, _, rfl⟩, ts, ds, ff, rfl, ?_⟩
    simp [startR, bodySp]
    exact hK
  · intro a ha w hw KK hK
    exact hK
  · intro a ha w hw KK hK
    simp [startR, bodySp, r3]
    exact hK
  · intro a ha w hw KK hK
    have := open_lt ha
    simp [startR, bodySp, r3]
    refine ⟨ts, ds, ff, fs, a, w, F, hf, by omega, hw, rfl, ?_⟩
    simp [startR, bodySp]
    exact hK
  · have e : fzK (fun s μ' => ∃ d, s = .d d ∧ Keep μ μ' ∧ k (.d d) (μ'.take μ.length)) (.d (dicT (tableL ts ds fs))) μ := by
      simp [startR, bodySp]
      exact h
    first
      | exact e
      | (simp [startR, bodySp]; exact h)
/-- the same steps are open -/
def sameB (ts ds : List Str) (fs fs' : List Fct) : Bool := decide (openL ts fs = openL ts fs') && (openL ts fs).all fun a => ds.all fun w => decide (lotL ts fs a w = lotL ts fs' a w)
structure Sm (ts ds : List Str) (fs fs' : List Fct) (ff ff' : D) : Prop where
  f : FOk ts ds fs
  f' : FOk ts ds fs'
  nd : ds.Nodup
  h : isT ff (fs.map Fct.d)
  h' : isT ff' (fs'.map Fct.d)
def S_same_facts (C : Addr) : ASp := fun ss μ k => ∃ ts ds ff ff' fs fs', Sm ts ds fs fs' ff ff' ∧ ss = [.d (TD C ts ds ff), .d (TD C ts ds ff')] ∧ k (.d (.bl (sameB ts ds fs fs'))) μ
theorem sh_strs {ws : List Str} (hw : OkW ws) : SeqAt.shaped (.tuple (ws.map .str)) = true := shaped_tuple fun x hx => ⟨hw x hx, by simp [PyData.depth]⟩
@[simp] theorem py_strs (ws : List Str) : toPys (ws.map D.str) = some (ws.map PyData.str) := pys_map (f := D.str) (p := PyData.str) (fun _ => rfl) ws
theorem eqv_strs {ws : List Str} (hw : OkW ws) : PyData.eqv (.tuple (ws.map .str)) (.tuple (ws.map .str)) = true := SeqAt.eqv_refl _ (SeqAt.canLay_of_shaped (sh_strs hw))
theorem vals_eq (ts ds : List Str) (fs : List Fct) : (tableL ts ds fs).map (·.2) = ((openL ts fs).flatMap fun a => ds.map fun w => lotL ts fs a w).map fun l => D.tup (intsD l) := by
  unfold tableL
  rw [List.map_flatMap, List.map_flatMap]
  congr 1
  funext a
  rw [List.map_map, List.map_map]
  rfl
theorem eqv_lots : ∀ l m : List (List Nat), l.length = m.length → PyData.eqvAll (l.map fun x => .tuple (pInts x)) (m.map fun x => .tuple (pInts x)) = decide (l = m)
  | [], [], _ => rfl
  | [], _ :: _, h => by cases h
  | _ :: _, [], h => by cases h
  | a :: l, b :: m, h => by
    have ih := eqv_lots l m (by simpa using h)
    show (PyData.eqv (.tuple (pInts a)) (.tuple (pInts b)) && PyData.eqvAll _ _) = _
    have e : PyData.eqv (.tuple (pInts a)) (.tuple (pInts b)) = PyData.eqvAll (pInts a) (pInts b) := rfl
    rw [ih, e, eqv_ints]
    by_cases h1 : a = b <;> by_cases h2 : l = m <;> simp [h1, h2]
theorem flat_eq {β γ : Type} [DecidableEq γ] {ds : List β} (f g : Nat → β → γ) : ∀ as : List Nat, decide ((as.flatMap fun a => ds.map fun w => f a w) = as.flatMap fun a => ds.map fun w => g a w) = as.all fun a => ds.all fun w => decide (f a w = g a w)
  | [] => by simp
  | a :: r => by
    have ih := flat_eq f g (ds := ds) r
    rw [List.flatMap_cons, List.flatMap_cons, List.all_cons, ← ih]
    have e1 : (ds.all fun w => decide (f a w = g a w)) = decide ((ds.map fun w => f a w) = ds.map fun w => g a w) := by
      rw [Bool.eq_iff_iff, List.all_eq_true, decide_eq_true_iff, List.map_inj_left]
      simp
    rw [e1, ← Bool.decide_and]
    congr 1
    apply propext
    exact ⟨fun h => List.append_inj h (by rw [List.length_map, List.length_map]), fun h => by rw [h.1, h.2]⟩
theorem p_same_facts {K : Fg} (kf : KindF K (He.ga K "Tongue")) : ∀ ss μ k, S_same_facts (He.ga K "Tongue") ss μ k → bodySp N_same_facts.length P_same_facts.length (a_same_facts K (S_Tongue_tests (He.ga K "Tongue")) (S_Tongue_deeds (He.ga K "Tongue")) (S_open_lot (He.ga K "Tongue")) (S_open_table (He.ga K "Tongue"))) ss μ k := by
  rintro ss μ k ⟨ts, ds, ff, ff', fs, fs', F, rfl, h⟩
  have s1 := sh_strs F.f.ok
  have s2 := sh_strs F.f.okd
  have q1 := eqv_strs F.f.ok
  have q2 := eqv_strs F.f.okd
  have o1 := sh_ints (openL ts fs)
  have o2 := sh_ints (openL ts fs')
  simp [startR, bodySp, a_same_facts, TD]
  refine ⟨kf, ts, ds, ff, rfl, ts, ds, ff', rfl, ?_⟩
  simp [startR, bodySp, s1, q1]
  refine ⟨ts, ds, ff, rfl, ts, ds, ff', rfl, ?_⟩
  simp [startR, bodySp, s2, q2]
  refine ⟨ts, ds, ff, fs, F.f, F.h, rfl, ts, ds, ff', fs', F.f', F.h', rfl, ?_⟩
  have e0 : PyData.eqv (.tuple (pInts (openL ts fs))) (.tuple (pInts (openL ts fs'))) = decide (openL ts fs = openL ts fs') := eqv_ints _ _
  simp [startR, bodySp, o1, o2, e0]
  by_cases q : openL ts fs = openL ts fs'
  case neg =>
    rw [if_neg q]
    have e : sameB ts ds fs fs' = false := by simp [sameB, q]
    rw [e] at h
    exact h
  case pos =>
    rw [if_pos q]
    refine ⟨ts, ds, ff, fs, F.f, F.nd, F.h, rfl, ts, ds, ff', fs', F.f', F.nd, F.h', rfl, _, rdD_d _ _, _, rdD_d _ _, ?_⟩
    have rows : ∀ gs : List Fct, (tableL ts ds gs).map (fun z => D.tup (z.1.map kD)) = (openL ts gs).flatMap fun a : Nat => ds.map fun w => D.tup [.int (a : Int), .str w] := by
      intro gs
      unfold tableL
      rw [List.map_flatMap]
      congr 1
      funext a
      rw [List.map_map]
      rfl
    have py : ∀ gs : List Fct, toPys ((tableL ts ds gs).map (·.2)) = some (((openL ts gs).flatMap fun a => ds.map fun w => lotL ts gs a w).map fun l => .tuple (pInts l)) := by
      intro gs
      rw [vals_eq]
      exact pys_map (f := fun l => D.tup (intsD l)) (p := fun l => PyData.tuple (pInts l)) (fun l => by show (toPys (intsD l)).map _ = _; rw [py_ints]; rfl) _
    have sh : ∀ gs : List Fct, ∀ p ∈ ((openL ts gs).flatMap fun a => ds.map fun w => lotL ts gs a w).map fun l => PyData.tuple (pInts l), SeqAt.shaped p = true := by
      intro gs p hp
      obtain ⟨l, _, rfl⟩ := List.mem_map.mp hp
      exact sh_ints l
    have ee : ((openL ts fs).flatMap fun a => ds.map fun w => lotL ts fs a w).length = ((openL ts fs').flatMap fun a => ds.map fun w => lotL ts fs' a w).length := by
      rw [← q]
      simp [List.length_flatMap]
    show _ = _ ∧ _
    refine ⟨by rw [rows, rows, q], fun x hx => ?_, _, _, py fs, py fs', sh fs, sh fs', ?_⟩
    · obtain ⟨z, _, rfl⟩ := List.mem_map.mp hx
      exact ⟨_, rfl⟩
    · rw [eqv_lots _ _ ee]
      have e2 : decide (((openL ts fs).flatMap fun a => ds.map fun w => lotL ts fs a w) = (openL ts fs').flatMap fun a => ds.map fun w => lotL ts fs' a w) = sameB ts ds fs fs' := by
        rw [← q, flat_eq]
        simp [sameB, q]
      rw [e2]
      simp [startR, bodySp]
      exact h
end K01
namespace K01
open PySem PySem.Spec PyProof.Rows L2 Ww
/-! k01: draws -/
def drK : List Key := [.inr "large", .inr "rest", .inr "cells", .inr "turn"]
def intL (l : List Int) : List D := l.map D.int
def dr0 (large : List Int) : Cell := .lst (large.map fun i => .d (.int i))
def dr1 (rest : Int) (cells : List Int) (turn : Int) : Cell := .dic drK [.m 0, .d (.int rest), .d (.lst (intL cells)), .d (.int turn)]
@[simp] theorem lk_large (a b c d : Sl) : look2 (.inr "large") drK [a, b, c, d] = some a := rfl
@[simp] theorem lk_rest (a b c d : Sl) : look2 (.inr "rest") drK [a, b, c, d] = some b := rfl
@[simp] theorem lk_cells (a b c d : Sl) : look2 (.inr "cells") drK [a, b, c, d] = some c := rfl
@[simp] theorem lk_turn (a b c d : Sl) : look2 (.inr "turn") drK [a, b, c, d] = some d := rfl
@[simp] theorem pk_rest (a b c d x : Sl) : putK2 (.inr "rest") x drK [a, b, c, d] = (drK, [a, x, c, d]) := rfl
@[simp] theorem pk_turn (a b c d x : Sl) : putK2 (.inr "turn") x drK [a, b, c, d] = (drK, [a, b, c, x]) := rfl
@[simp] theorem at_large {r : Int} {cs : List Int} {t : Int} : cellAt (dr1 r cs t) (.str "large") = some (.m 0) := rfl
@[simp] theorem at_rest {r : Int} {cs : List Int} {t : Int} : cellAt (dr1 r cs t) (.str "rest") = some (.d (.int r)) := rfl
@[simp] theorem at_cells {r : Int} {cs : List Int} {t : Int} : cellAt (dr1 r cs t) (.str "cells") = some (.d (.lst (intL cs))) := rfl
@[simp] theorem at_turn {r : Int} {cs : List Int} {t : Int} : cellAt (dr1 r cs t) (.str "turn") = some (.d (.int t)) := rfl
@[simp] theorem dr1_fold {r : Int} {cs : List Int} {t : Int} : Cell.dic drK [.m 0, .d (.int r), .d (.lst (intL cs)), .d (.int t)] = dr1 r cs t := rfl
theorem cl_dr0 {n : Nat} {L : List Int} : Ww.Cl n (dr0 L) = true := by
  show (L.map _).all _ = true
  rw [List.all_map, List.all_eq_true]
  exact fun _ _ => rfl
theorem cl_dr1 {n : Nat} {r : Int} {cs : List Int} {t : Int} (h : 0 < n) : Ww.Cl n (dr1 r cs t) = true := by
  show (([.m 0, .d (.int r), .d (.lst (intL cs)), .d (.int t)] : List Sl).all (slLt n)) = true
  simp [slLt, h]
theorem keep_drA {L L' : List Int} {r r' : Int} {cs cs' : List Int} {t t' : Int} {ν η : Mu} : Keep (dr0 L :: dr1 r cs t :: ν) (dr0 L' :: dr1 r' cs' t' :: (ν ++ η)) := by
  refine ⟨by simp, fun j c hj hc => ?_⟩
  match j with
  | 0 => right; simp at hc; subst hc; exact cl_dr0
  | 1 => right; simp at hc; subst hc; exact cl_dr1 (by simp)
  | j + 2 =>
    left
    have hj2 : j < ν.length := by simpa using hj
    have e : (ν ++ η)[j]? = some c := by simpa using hc
    rw [List.getElem?_append_left hj2] at e
    simpa using e
theorem keep_dr {L L' : List Int} {r r' : Int} {cs cs' : List Int} {t t' : Int} {ν : Mu} : Keep (dr0 L :: dr1 r cs t :: ν) (dr0 L' :: dr1 r' cs' t' :: ν) := by
  have := keep_drA (L := L) (L' := L') (r := r) (r' := r') (cs := cs) (cs' := cs') (t := t) (t' := t') (ν := ν) (η := [])
  rwa [List.append_nil] at this
/-- a state of the draws -/
structure Dq where
  L : List Int
  r : Int
  cs : List Int
  t : Int
def DM (q : Dq) (ν : Mu) : Mu := dr0 q.L :: dr1 q.r q.cs q.t :: ν
@[simp] theorem DM_eq {q : Dq} {ν : Mu} : DM q ν = dr0 q.L :: dr1 q.r q.cs q.t :: ν := rfl
def S__law_mixed : ASp := fun ss μ k => ∃ L r cs t ν, ss = [.m 1] ∧ μ = dr0 L :: dr1 r cs t :: ν ∧ ∀ v t', k (.d (.int v)) (dr0 L :: dr1 r cs t' :: ν)
theorem p__law_mixed {K : Fg} : ∀ ss μ k, S__law_mixed ss μ k → bodySp N__law_mixed.length P__law_mixed.length (a__law_mixed K) ss μ k := by
  rintro ss μ k ⟨L, r, cs, t, ν, rfl, rfl, h⟩
  simp [startR, bodySp, a__law_mixed]
  refine ⟨_, _, rfl, by decide, ?_⟩
  simp [startR, bodySp]
  refine ⟨fun i ρ' μ' => μ' = dr0 L :: dr1 r cs (t + 1) :: ν ∧ ∃ (f : Int) (r1 r4 r5 : Option Sl), ρ' = [some (.m 1), r1, some (.d (.int (t + 1))), some (.d (.int f)), r4, r5], ⟨rfl, 0, none, none, none, rfl⟩, ?_, ?_⟩
  · rintro i d ρ' μ' hd ⟨rfl, f, r1, r4, r5, rfl⟩
    obtain ⟨g, rfl, g0, g1⟩ : ∃ g : Int, d = .int g ∧ 0 < g ∧ g < 2 ^ 31 := by
      have := List.mem_of_getElem? hd
      simp at this
      rcases this with rfl | rfl | rfl <;> exact ⟨_, rfl, by decide, by decide⟩
    have gne : g ≠ 0 := by omega
    simp [startR, bodySp, gne, CMul, CDivN]
    refine ⟨fun j ρ2 μ2 => μ2 = dr0 L :: dr1 r cs (t + 1) :: ν ∧ ∃ (b : Int) (r5 : Option Sl), 0 ≤ b ∧ b < g ∧ ρ2 = [some (.m 1), some (.d (.int g)), some (.d (.int (t + 1))), some (.d (.int f)), some (.d (.int b)), r5], ⟨rfl, _, _, Int.fmod_nonneg_of_pos _ g0, Int.fmod_lt_of_pos _ g0, rfl⟩, ?_, ?_⟩
    · rintro j d ρ2 μ2 hd2 ⟨rfl, b, r5, b0, b1, rfl⟩
      rw [intL, List.getElem?_map] at hd2
      obtain ⟨c, _, rfl⟩ := Option.map_eq_some_iff.mp hd2
      simp [startR, bodySp, gne, CMul]
      exact ⟨Int.fmod_nonneg_of_pos _ g0, Int.fmod_lt_of_pos _ g0⟩
    · rintro ρ2 μ2 ⟨rfl, b, r5, b0, b1, rfl⟩
      have b64 : b.natAbs < 18446744073709551616 := by omega
      simp [startR, bodySp, gne, CMul, CPow, b64]
  · rintro ρ' μ' ⟨rfl, f, r1, r4, r5, rfl⟩
    simp [startR, bodySp]
    exact ⟨keep_dr, h _ _⟩
def S__law_take : ASp := fun ss μ k => ∃ (q : Dq) (ν : Mu) (n : Nat), 0 < n ∧ n < 2 ^ 30 ∧ ss = [.m 1, .d (.int n)] ∧ μ = DM q ν ∧ ∀ (v : Nat) (q' : Dq), v < n → k (.d (.int v)) (DM q' ν)
theorem take_end_ {K : Fg} {q : Dq} {ν : Mu} {n : Nat} {k : Sl → Mu → Prop} {q0 : Dq} (n0 : 0 < n) (n1 : n < 2 ^ 30) (h : ∀ (v : Nat) (q' : Dq), v < n → k (.d (.int v)) (DM q' ν)) :
    (aSeq (aAsg (aOp (aI (fun _ j => j ≠ 0) (gI Int.fmod)) (aCB (on1 fInt) (aCons (aOp gIx (aVar 0) (aC (.str "rest"))) aNil)) (aVar 1)) (aGn 2))
      (aSeq (aDPut (aVar 0) (aC (.str "rest")) (aOp (aI CDivN (gI Int.fdiv)) (aCB (on1 fInt) (aCons (aOp gIx (aVar 0) (aC (.str "rest"))) aNil)) (aVar 1)))
      (aRet (aVar 2)))) (bEnds (DM q0 ν) k) [some (.m 1), some (.d (.int n)), none] (DM q ν) := by
  have gne : n ≠ 0 := by omega
  simp [startR, bodySp, gne, CDivN, n1]
  refine ⟨_, _, rfl, by decide, ?_⟩
  simp [startR, bodySp]
  refine ⟨keep_dr, ?_⟩
  have f0 : 0 ≤ Int.fmod q.r n := Int.fmod_nonneg_of_pos _ (by omega)
  have f1 : Int.fmod q.r n < n := Int.fmod_lt_of_pos _ (by omega)
  have := h (Int.fmod q.r n).toNat ⟨q.L, Int.fdiv q.r n, q.cs, q.t⟩ (by omega)
  have e : ((Int.fmod q.r n).toNat : Int) = Int.fmod q.r n := by omega
  rw [e] at this
  exact this
theorem rd_dr0 {L : List Int} {μ : Mu} : rdD (dr0 L :: μ) (.m 0) = some (.lst (intL L)) := by
  show (dsOf (L.map fun i => .d (.int i))).map D.lst = _
  rw [dsOf_mapf]
  rfl
theorem py_intL (L : List Int) : toPy (.lst (intL L)) = some (.list (L.map PyData.int)) := by
  show (toPys (intL L)).map _ = _
  rw [intL, pys_map (f := D.int) (p := PyData.int) (fun _ => rfl)]
  rfl
theorem sh_intL (L : List Int) : SeqAt.shaped (.list (L.map PyData.int)) = true := shaped_list fun x hx => ⟨rfl, by simp [PyData.depth]⟩
theorem p__law_take {K : Fg} : ∀ ss μ k, S__law_take ss μ k → bodySp N__law_take.length P__law_take.length (a__law_take K S__law_mixed) ss μ k := by
  rintro ss μ k ⟨q, ν, n, n0, n1, rfl, rfl, h⟩
  refine ⟨rfl, ?_⟩
  unfold a__law_take
  refine step1 fun N eN => ?_
  have fin : ∀ q : Dq, N [some (.m 1), some (.d (.int n)), none] (DM q ν) := fun q2 => by
    rw [eN]
    exact take_end_ (K := K) n0 n1 h
  have sh0 : SeqAt.shaped (.int q.r) = true := rfl
  simp [startR, bodySp]
  by_cases hr : q.r = 0
  case neg => rw [if_neg hr]; exact fin q
  case pos =>
    rw [if_pos hr]
    refine ⟨_, rd_dr0, _, py_intL _, sh_intL _, ?_⟩
    cases hL : q.L with
    | nil =>
      refine .inl ⟨rfl, q.L, q.r, q.cs, q.t, ν, rfl, by rw [hL], fun v t' => ?_⟩
      refine ⟨_, _, rfl, by decide, ?_⟩
      exact fin ⟨q.L, v, q.cs, t'⟩
    | cons x r =>
      refine .inr ⟨rfl, .inl ⟨_, rfl⟩, _, rfl, .d (.int x), rfl, _, _, rfl, by decide, ?_⟩
      exact fin ⟨r, x, q.cs, q.t⟩
def S__law_pick : ASp := fun ss μ k => ∃ (q : Dq) (ν : Mu) (d : D) (l : List D), itemsD d = some l ∧ l ≠ [] ∧ l.length < 2 ^ 30 ∧ ss = [.m 1, .d d] ∧ μ = DM q ν ∧ ∀ x ∈ l, ∀ q' : Dq, k (.d x) (DM q' ν)
theorem ixD_seq {d : D} {l : List D} (h : itemsD d = some l) (n : Nat) : ixD d (.int n) = l[n]? := by
  cases d <;> first | (exfalso; cases h; done) | (cases h; exact atI_nat _ n)
theorem p__law_pick {K : Fg} : ∀ ss μ k, S__law_pick ss μ k → bodySp N__law_pick.length P__law_pick.length (a__law_pick K S__law_take) ss μ k := by
  rintro ss μ k ⟨q, ν, d, l, hd, h0, h1, rfl, rfl, h⟩
  simp [startR, bodySp, a__law_pick, fLen_seq hd]
  refine ⟨q, ν, l.length, List.length_pos_iff.mpr h0, h1, rfl, rfl, fun v q' hv => ?_⟩
  simp [startR, bodySp, ixD_seq hd]
  refine ⟨.d l[v], by simp [hv], ?_⟩
  simp [startR, bodySp]
  exact ⟨keep_dr, h _ (List.getElem_mem hv) q'⟩
theorem rd_cell {μ : Mu} {j : Nat} {a : List D} (h : μ[j]? = some (.lst (a.map .d))) : rdD μ (.m j) = some (.lst a) := by
  show (match μ[j]? with
    | some (.frz x) => some (nrm x)
    | some (.lst l) => (dsOf l).map D.lst
    | _ => none) = _
  rw [h]
  show (dsOf _).map D.lst = _
  rw [dsOf_map]
  rfl
theorem py_all : ∀ {a : List D}, (∀ x ∈ a, ∃ p, toPy x = some p ∧ p.canLay0 = true ∧ p.depth ≤ 63) → ∃ ps, toPy (.lst a) = some (.list ps) ∧ SeqAt.shaped (.list ps) = true ∧ ps.length = a.length := by
  intro a h
  suffices q : ∃ ps, toPys a = some ps ∧ ps.length = a.length ∧ ∀ p ∈ ps, p.canLay0 = true ∧ p.depth ≤ 63 by
    obtain ⟨ps, h1, h2, h3⟩ := q
    refine ⟨ps, by show (toPys a).map _ = _; rw [h1]; rfl, ?_, h2⟩
    have := shaped_list (p := id) h3
    rwa [List.map_id] at this
  induction a with
  | nil => exact ⟨[], rfl, rfl, by simp⟩
  | cons x r ih =>
    obtain ⟨ps, h1, h2, h3⟩ := ih fun y hy => h y (List.mem_cons_of_mem _ hy)
    obtain ⟨p, g1, g2⟩ := h x List.mem_cons_self
    refine ⟨p :: ps, ?_, by simp [h2], fun z hz => ?_⟩
    · simp [g1, h1]
    · rcases List.mem_cons.mp hz with e | hz
      · rw [e]; exact g2
      · exact h3 z hz
def S__law_shuffled : ASp := fun ss μ k => ∃ (q : Dq) (ν : Mu) (d : D) (l : List D), itemsD d = some l ∧ l.length < 2 ^ 24 ∧ (∀ x ∈ l, ∃ p, toPy x = some p ∧ p.canLay0 = true ∧ p.depth ≤ 63) ∧ ss = [.m 1, .d d] ∧ μ = DM q ν ∧ ∀ (l' : List D) (q' : Dq), l'.Perm l → k (.d (.lst l')) (DM q' ν)
theorem fLstC_seq {d : D} {l : List D} (h : itemsD d = some l) {k : Sl → Mu → Prop} {μ : Mu} : fLstC (nrm d) k μ = k (.m μ.length) (μ ++ [.lst (l.map .d)]) := by
  cases d <;> first | (exfalso; cases h; done) | (cases h; rfl)
theorem er_map {α β : Type} (f : α → β) : ∀ (l : List α) (v : Nat), (l.map f).eraseIdx v = (l.eraseIdx v).map f
  | [], _ => rfl
  | _ :: _, 0 => rfl
  | x :: r, v + 1 => congrArg (f x :: ·) (er_map f r v)
theorem er_perm {α : Type} : ∀ (l : List α) (v : Nat) (h : v < l.length), (l[v] :: l.eraseIdx v).Perm l
  | x :: r, 0, _ => .refl _
  | x :: r, v + 1, h => by
    have ih := er_perm r v (by simpa using h)
    show (r[v]'(by simpa using h) :: x :: r.eraseIdx v).Perm _
    exact (List.Perm.swap _ _ _).trans (ih.cons x)
theorem p__law_shuffled {K : Fg} : ∀ ss μ k, S__law_shuffled ss μ k → bodySp N__law_shuffled.length P__law_shuffled.length (a__law_shuffled K S__law_take) ss μ k := by
  rintro ss μ k ⟨q, ν, d, l, hd, hl, hp, rfl, rfl, h⟩
  simp [startR, bodySp, a__law_shuffled, fLstC_seq hd]
  refine ⟨fun m ρ' μ' => ∃ (q : Dq) (a b : List D), m = a.length ∧ μ' = DM q (ν ++ [.lst (a.map .d), .lst (b.map .d)]) ∧ ρ' = [some (.m 1), some (.d d), some (.m (ν.length + 1 + 1)), some (.m (ν.length + 1 + 1 + 1))] ∧ (b ++ a).Perm l, ⟨l.length, q, l, [], rfl, rfl, rfl, by simp⟩, ?_⟩
  rintro m ρ' μ' ⟨q, a, b, rfl, rfl, rfl, pm⟩
  have pa : ∀ x ∈ a, ∃ p, toPy x = some p ∧ p.canLay0 = true ∧ p.depth ≤ 63 := fun x hx => hp x (pm.subset (List.mem_append_right _ hx))
  have r1 := rd_cell (μ := DM q (ν ++ [.lst (a.map .d), .lst (b.map .d)])) (j := ν.length + 1 + 1) (a := a) (by simp)
  have r2 := rd_cell (μ := DM q (ν ++ [.lst (a.map .d), .lst (b.map .d)])) (j := ν.length + 1 + 1 + 1) (a := b) (by simp)
  obtain ⟨ps, e1, e2, e3⟩ := py_all pa
  simp [startR, bodySp]
  simp only [DM_eq] at r1 r2
  refine ⟨_, r1, _, e1, e2, ?_⟩
  have z1 : ∀ q : Dq, (dr0 q.L :: dr1 q.r q.cs q.t :: (ν ++ [Cell.lst (a.map .d), Cell.lst (b.map .d)]))[ν.length + 1 + 1]? = some (.lst (a.map .d)) := fun q => by simp
  have z2 : ∀ q : Dq, (dr0 q.L :: dr1 q.r q.cs q.t :: (ν ++ [Cell.lst (a.map .d), Cell.lst (b.map .d)]))[ν.length + 1 + 1 + 1]? = some (.lst (b.map .d)) := fun q => by simp
  cases a with
  | nil =>
    have ep : ps = [] := List.eq_nil_of_length_eq_zero e3
    subst ep
    refine .inl ⟨rfl, ?_⟩
    rw [fzK_l (z2 q)]
    refine ⟨_, rfl, ?_, ?_⟩
    · have es : (dr0 q.L :: dr1 q.r q.cs q.t :: (ν ++ [Cell.lst (([] : List D).map .d), Cell.lst (b.map .d)])).set (ν.length + 1 + 1 + 1) (.frz (.lst b)) = dr0 q.L :: dr1 q.r q.cs q.t :: (ν ++ [Cell.lst (([] : List D).map .d), .frz (.lst b)]) := by simp
      rw [es]
      exact keep_drA
    · have es : ((dr0 q.L :: dr1 q.r q.cs q.t :: (ν ++ [Cell.lst (([] : List D).map .d), Cell.lst (b.map .d)])).set (ν.length + 1 + 1 + 1) (.frz (.lst b))).take (ν.length + 1 + 1) = DM q ν := by simp
      have el : ∀ q : Dq, (DM q ν).length = ν.length + 1 + 1 := fun _ => rfl
      show k _ (List.take (DM _ ν).length _)
      rw [el, es]
      exact h b q (by simpa using pm)
  | cons x r =>
    have hne : (PyData.list ps).eqv (PyData.list []) = false := by
      cases ps with
      | nil => cases e3
      | cons p _ => rfl
    have len := pm.length_eq
    rw [List.length_append] at len
    refine .inr ⟨hne, isLst_of (z2 q), isLst_of (z1 q), _, r1, ?_⟩
    simp [startR, bodySp]
    refine ⟨q, ν ++ [Cell.lst ((x :: r).map .d), Cell.lst (b.map .d)], (x :: r).length, by simp, by simp at len ⊢; omega, by simp, by simp, fun v q' hv => ?_⟩
    have hg : (x :: r)[v]? = some (x :: r)[v] := by simp [hv]
    simp [startR, bodySp]
    have ev : (x :: r).eraseIdx v = (x :: r).eraseIdx v := rfl
    have el : ((x :: r).eraseIdx v).length < r.length + 1 := by
      rw [List.length_eraseIdx_of_lt hv, List.length_cons]; omega
    refine ⟨by omega, .d (x :: r)[v], ?_, by rw [List.length_cons] at len; omega, ((x :: r).eraseIdx v).length, el, q', (x :: r).eraseIdx v, rfl, b ++ [(x :: r)[v]], ⟨rfl, rfl, er_map Sl.d (x :: r) v, by simp⟩, ?_⟩
    · show ((x :: r).map Sl.d)[v]? = _
      rw [List.getElem?_map, hg]; rfl
    · rw [List.append_assoc]
      exact ((er_perm (x :: r) v hv).append_left b).trans pm
end K01
namespace K01
open PySem PySem.Spec PyProof.Rows L2 Ww
/-! k01: kinds, says -/
def okD (d : D) : Prop := ∃ p, toPy d = some p ∧ p.canLay0 = true ∧ p.depth ≤ 63
def kid : D → List D
  | .tup l => l
  | .tpl l => l
  | .lst l => l
  | _ => []
def kn : D → Str
  | .tup _ => "tuple"
  | .tpl _ => "tuple"
  | .lst _ => "list"
  | .bl _ => "bool"
  | _ => "other"
mutual
def kinds : D → List D
  | .tup l => .str "tuple" :: kindsR l
  | .tpl l => .str "tuple" :: kindsR l
  | .lst l => .str "list" :: kindsR l
  | .bl _ => [.str "bool"]
  | .non => [.str "other"]
  | .int _ => [.str "other"]
  | .str _ => [.str "other"]
  | .dic _ _ => [.str "other"]
  | .ins _ _ _ => [.str "other"]
  | .ty _ => [.str "other"]
  | .cls _ => [.str "other"]
def kindsR : List D → List D
  | [] => []
  | x :: r => kindsR r ++ kinds x
end
theorem kinds_eq (d : D) : kinds d = .str (kn d) :: kindsR (kid d) := by cases d <;> simp [kinds, kn, kid, kindsR]
theorem kindsR_app : ∀ a b : List D, kindsR (a ++ b) = kindsR b ++ kindsR a
  | [], b => by simp [kindsR]
  | x :: r, b => by rw [List.cons_append, kindsR, kindsR_app r b, kindsR, List.append_assoc]
theorem okD_kid {d : D} (h : okD d) : ∀ y ∈ kid d, okD y := by
  have key : ∀ {l : List D} {ps : List PyData}, toPys l = some ps → PyData.canLayAll0 ps = true → PyData.depthAll ps ≤ 62 → ∀ y ∈ l, okD y := by
    intro l
    induction l with
    | nil => intro ps _ _ _ y hy; cases hy
    | cons x r ih =>
      intro ps h1 h2 h3 y hy
      have h1' : (match toPy x, toPys r with | some a, some b => some (a :: b) | _, _ => none) = some ps := h1
      cases ex : toPy x with
      | none => rw [ex] at h1'; cases h1'
      | some a =>
        cases er : toPys r with
        | none => rw [ex, er] at h1'; cases h1'
        | some b =>
          rw [ex, er] at h1'
          cases h1'
          have c1 : (a.canLay0 && PyData.canLayAll0 b) = true := h2
          rw [Bool.and_eq_true] at c1
          have c2 : max a.depth (PyData.depthAll b) ≤ 62 := h3
          rcases List.mem_cons.mp hy with e | hy
          · rw [e]; exact ⟨a, ex, c1.1, by omega⟩
          · exact ih er c1.2 (by omega) y hy
  obtain ⟨p, h1, h2, h3⟩ := h
  intro y hy
  cases d with
  | tup l =>
    obtain ⟨ps, e1, rfl⟩ := Option.map_eq_some_iff.mp (show (toPys l).map .tuple = some p from h1)
    exact key e1 h2 (by have : PyData.depthAll ps + 1 ≤ 63 := h3; omega) y hy
  | tpl l =>
    obtain ⟨ps, e1, rfl⟩ := Option.map_eq_some_iff.mp (show (toPys l).map .tuple = some p from h1)
    exact key e1 h2 (by have : PyData.depthAll ps + 1 ≤ 63 := h3; omega) y hy
  | lst l =>
    obtain ⟨ps, e1, rfl⟩ := Option.map_eq_some_iff.mp (show (toPys l).map .list = some p from h1)
    exact key e1 h2 (by have : PyData.depthAll ps + 1 ≤ 63 := h3; omega) y hy
  | _ => cases hy
theorem kn_cases (x : D) : kn x = "tuple" ∨ kn x = "list" ∨ kn x = "bool" ∨ kn x = "other" := by cases x <;> simp [kn]
theorem kn_nd (x : D) : ¬ kn x = "dict" := by
  rcases kn_cases x with e | e | e | e <;> rw [e] <;> decide
theorem kn_sh (x : D) : SeqAt.shaped (.str (kn x)) = true := by
  rcases kn_cases x with e | e | e | e <;> rw [e] <;> exact sh_ok (by simp [lit_ok])
def S__law_kinds : ASp := fun ss μ k => ∃ d, okD d ∧ (kinds d).length ≤ 100000 ∧ ss = [.d d] ∧ k (.d (.lst (kinds d))) μ
theorem kinds_len : ∀ l : List D, l.length ≤ (kindsR l).length
  | [] => Nat.zero_le _
  | x :: r => by
    have := kinds_len r
    rw [kindsR, List.length_append, kinds_eq, List.length_cons, List.length_cons]
    omega
theorem p__law_kinds {K : Fg} : ∀ ss μ k, S__law_kinds ss μ k → bodySp N__law_kinds.length P__law_kinds.length (a__law_kinds K) ss μ k := by
  rintro ss μ k ⟨d, ok, len, rfl, h⟩
  simp [startR, bodySp, a__law_kinds]
  let M : List D → Mu → List D → Mu := fun f η l => μ ++ (Cell.lst (f.map .d) :: (η ++ [Cell.lst (l.map .d)]))
  have af : ∀ f η l, (M f η l)[μ.length]? = some (.lst (f.map .d)) := fun f η l => by simp [M]
  have al : ∀ f η l, (M f η l)[μ.length + (η.length + 1)]? = some (.lst (l.map .d)) := fun f η l => by simp [M]
  have sf : ∀ f η l g, (M f η l).set μ.length (.lst (g.map .d)) = M g η l := fun f η l g => by simp [M]
  have sl : ∀ f η l g, (M f η l).set (μ.length + (η.length + 1)) (.lst (g.map .d)) = M f η g := fun f η l g => by simp [M]
  have ml : ∀ f η l, (M f η l).length = μ.length + (η.length + 1 + 1) := fun f η l => by simp [M]
  have ma : ∀ f η l g, M f η l ++ [.lst (g.map .d)] = M f (η ++ [.lst (l.map .d)]) g := fun f η l g => by simp [M]
  refine while1 (fun m ρ' μ' => ∃ (f l : List D) (η : Mu) (r3 r4 r5 r6 r7 : Option Sl), m = (kindsR l).length ∧ μ' = M f η l ∧ ρ' = [some (.d d), some (.m μ.length), some (.m (μ.length + (η.length + 1))), r3, r4, r5, r6, r7] ∧ f ++ kindsR l = kinds d ∧ ∀ x ∈ l, okD x) _ ⟨[], [d], [], none, none, none, none, none, rfl, rfl, rfl, by simp [kindsR], by simpa using ok⟩ ?_
  rintro B N m ρ' μ' eB hN ⟨f, l, η, r3, r4, r5, r6, r7, rfl, rfl, rfl, he, hok⟩
  have rl := rd_cell (al f η l)
  obtain ⟨ps, e1, e2, e3⟩ := py_all hok
  simp [startR, bodySp]
  refine ⟨_, rl, _, e1, e2, ?_⟩
  have lens : f.length + (kindsR l).length ≤ 100000 := by
    have := congrArg List.length he
    rw [List.length_append] at this
    omega
  rcases List.eq_nil_or_concat l with rfl | ⟨r, x, rfl⟩
  · have ep : ps = [] := List.eq_nil_of_length_eq_zero e3
    subst ep
    refine .inl ⟨rfl, ?_⟩
    rw [fzK_l (af f η [])]
    have ef : f = kinds d := by simpa [kindsR] using he
    subst ef
    refine ⟨_, rfl, ?_, ?_⟩
    · have es : (M (kinds d) η []).set μ.length (.frz (.lst (kinds d))) = μ ++ (.frz (.lst (kinds d)) :: (η ++ [.lst (([] : List D).map .d)])) := by simp [M]
      rw [es]
      exact Keep.app _ _
    · have es : ((M (kinds d) η []).set μ.length (.frz (.lst (kinds d)))).take μ.length = μ := by simp [M]
      rw [es]
      exact h
  · have hne : (PyData.list ps).eqv (PyData.list []) = false := by
      cases ps with
      | nil => simp at e3
      | cons p _ => rfl
    refine .inr ⟨hne, ?_⟩
    rw [List.concat_eq_append] at *
    subst eB
    have kl : (kindsR (r ++ [x])).length = (kindsR r).length + (kindsR (kid x)).length + 1 := by
      rw [kindsR_app]
      simp [kindsR, kinds_eq x]
      omega
    have fl : f.length < sizeLine := by rw [sizeLine_val]; omega
    have dl : ((r ++ [x]).map Sl.d).dropLast = r.map .d := by simp
    refine step1 fun N1 eN1 => ?_
    simp [startR, bodySp]
    refine ⟨isLst_of (al _ _ _), _, al _ _ _, .d x, by simp, ?_⟩
    rw [dl, sl, eN1]
    obtain ⟨px, ex1, ex2⟩ := hok x (by simp)
    refine step1 fun N2 eN2 => ?_
    have two : N2 [some (.d d), some (.m μ.length), some (.m (μ.length + (η.length + 1))), some (.d x), some (.d (.str (kn x))), r5, r6, r7] (M f η r) := by
      rw [eN2]
      refine step1 fun N3 eN3 => ?_
      simp [startR, bodySp]
      refine ⟨isLst_of (af _ _ _), _, af _ _ _, by simpa using fl, ?_⟩
      have es : List.map Sl.d f ++ [Sl.d (D.str (kn x))] = (f ++ [D.str (kn x)]).map .d := by simp
      rw [es, sf, eN3]
      refine step1 fun N4 eN4 => ?_
      have four : ∀ (η' : Mu) (l' : List D), kindsR l' = kindsR (kid x) ++ kindsR r → (∀ y ∈ l', okD y) → N4 [some (.d d), some (.m μ.length), some (.m (μ.length + (η'.length + 1))), some (.d x), some (.d (.str (kn x))), r5, r6, r7] (M (f ++ [.str (kn x)]) η' l') := by
        intro η' l' hl' ho'
        rw [eN4]
        have nd : ¬ kn x = "dict" := kn_nd x
        have shk : SeqAt.shaped (.str (kn x)) = true := kn_sh x
        have shd : SeqAt.shaped (.str "dict") = true := sh_ok (by simp [lit_ok])
        simp [startR, bodySp, nd, shk, shd]
        refine hN _ _ _ ?_ ⟨_, l', η', _, _, _, _, _, rfl, rfl, rfl, ?_, ho'⟩
        · rw [hl', List.length_append]; omega
        · rw [hl', ← he, kindsR_app]
          simp [kindsR, kinds_eq x]
      simp [startR, bodySp]
      refine in_flat rfl rfl ?_
      have rr := rd_cell (al (f ++ [.str (kn x)]) η r)
      have okr : ∀ y ∈ r, okD y := fun y hy => hok y (by simp [hy])
      have okk : ∀ y ∈ kid x, okD y := okD_kid (hok x (by simp))
      have rlen := kinds_len (r ++ kid x)
      have krl : (kindsR (r ++ kid x)).length = (kindsR r).length + (kindsR (kid x)).length := by rw [kindsR_app, List.length_append]; omega
      have bnd : r.length + (kid x).length ≤ 16777216 := by rw [List.length_append] at rlen; omega
      have add := four (η ++ [.lst (r.map .d)]) (r ++ kid x) (kindsR_app _ _) (fun y hy => (List.mem_append.mp hy).elim (okr y) (okk y))
      have keep : kid x = [] → _ := fun e0 => four η r (by rw [e0]; rfl) okr
      have elen : μ.length + ((η ++ [Cell.lst (r.map .d)]).length + 1) = (M (f ++ [.str (kn x)]) η r).length := by rw [ml]; simp
      rw [elen, ← ma, List.map_append] at add
      cases x with
      | tup l => exact .inr ⟨rfl, r, rr, l, rfl, bnd, add⟩
      | tpl l => exact .inr ⟨rfl, r, rr, l, rfl, bnd, add⟩
      | lst l => exact .inr ⟨rfl, r, rr, l, rfl, bnd, add⟩
      | bl b => exact .inl ⟨rfl, keep rfl⟩
      | non => exact .inl ⟨rfl, keep rfl⟩
      | int i => exact .inl ⟨rfl, keep rfl⟩
      | str i => exact .inl ⟨rfl, keep rfl⟩
      | dic ks vs => cases ex1
      | ins C ns vs => cases ex1
      | ty n => cases ex1
      | cls C => cases ex1
    simp [startR, bodySp]
    cases x with
    | tup l => simp [startR, bodySp]; exact two
    | tpl l => simp [startR, bodySp]; exact two
    | lst l => simp [startR, bodySp]; exact two
    | bl b => simp [startR, bodySp]; exact two
    | non => simp [startR, bodySp]; exact two
    | int i => simp [startR, bodySp]; exact two
    | str i => simp [startR, bodySp]; exact two
    | dic ks vs => cases ex1
    | ins C ns vs => cases ex1
    | ty n => cases ex1
    | cls C => cases ex1
def S__law_says : ASp := fun ss μ k => ∃ d, okD d ∧ (kinds d).length ≤ 100000 ∧ ss = [.d d, .d d] ∧ k (.d (.bl true)) μ
theorem kindsD_py : ∀ l : List D, (∀ x ∈ l, ∃ n : Str, x = .str n ∧ PyData.strOk n = true) → ∃ ps, toPy (.lst l) = some (.list ps) ∧ SeqAt.shaped (.list ps) = true ∧ PyData.eqv (.list ps) (.list ps) = true := by
  intro l h
  obtain ⟨ps, h1, h2, _⟩ := py_all (a := l) fun x hx => by
    obtain ⟨n, rfl, hn⟩ := h x hx
    exact ⟨.str n, rfl, hn, by simp [PyData.depth]⟩
  exact ⟨ps, h1, h2, SeqAt.eqv_refl _ (SeqAt.canLay_of_shaped h2)⟩
mutual
theorem kinds_str : ∀ d : D, ∀ x ∈ kinds d, ∃ n : Str, x = .str n ∧ PyData.strOk n = true
  | .tup l => fun x hx => by
    rw [kinds, List.mem_cons] at hx
    exact hx.elim (fun e => ⟨_, e, lit_ok _⟩) (kindsR_str l x)
  | .tpl l => fun x hx => by
    rw [kinds, List.mem_cons] at hx
    exact hx.elim (fun e => ⟨_, e, lit_ok _⟩) (kindsR_str l x)
  | .lst l => fun x hx => by
    rw [kinds, List.mem_cons] at hx
    exact hx.elim (fun e => ⟨_, e, lit_ok _⟩) (kindsR_str l x)
  | .bl _ => fun x hx => by rw [kinds, List.mem_singleton] at hx; exact ⟨_, hx, lit_ok _⟩
  | .non => fun x hx => by rw [kinds, List.mem_singleton] at hx; exact ⟨_, hx, lit_ok _⟩
  | .int _ => fun x hx => by rw [kinds, List.mem_singleton] at hx; exact ⟨_, hx, lit_ok _⟩
  | .str _ => fun x hx => by rw [kinds, List.mem_singleton] at hx; exact ⟨_, hx, lit_ok _⟩
  | .dic _ _ => fun x hx => by rw [kinds, List.mem_singleton] at hx; exact ⟨_, hx, lit_ok _⟩
  | .ins _ _ _ => fun x hx => by rw [kinds, List.mem_singleton] at hx; exact ⟨_, hx, lit_ok _⟩
  | .ty _ => fun x hx => by rw [kinds, List.mem_singleton] at hx; exact ⟨_, hx, lit_ok _⟩
  | .cls _ => fun x hx => by rw [kinds, List.mem_singleton] at hx; exact ⟨_, hx, lit_ok _⟩
theorem kindsR_str : ∀ l : List D, ∀ x ∈ kindsR l, ∃ n : Str, x = .str n ∧ PyData.strOk n = true
  | [] => fun x hx => by cases hx
  | y :: r => fun x hx => by
    rw [kindsR, List.mem_append] at hx
    exact hx.elim (kindsR_str r x) (kinds_str y x)
end
theorem toPy_nrm (d : D) : toPy (nrm d) = toPy d := by cases d <;> rfl
theorem p__law_says {K : Fg} : ∀ ss μ k, S__law_says ss μ k → bodySp N__law_says.length P__law_says.length (a__law_says K S__law_kinds) ss μ k := by
  rintro ss μ k ⟨d, ok, len, rfl, h⟩
  obtain ⟨p, h1, h2, h3⟩ := id ok
  have sh : SeqAt.shaped p = true := by
    show (p.canLay0 && decide (p.depth ≤ 64)) = true
    rw [h2, decide_eq_true (by omega)]; rfl
  have rf := SeqAt.eqv_refl p h2
  obtain ⟨ps, g1, g2, g3⟩ := kindsD_py (kinds d) (kinds_str d)
  simp [startR, bodySp, a__law_says, toPy_nrm, h1, sh, rf]
  refine ⟨d, ok, len, rfl, d, ok, len, rfl, ?_⟩
  simp [startR, bodySp, g1, g2, g3]
  exact h
end K01
namespace K01
open PySem PySem.Spec PyProof.Rows L2 Ww
/-! k01: the law's own reading of tests, facts, worlds -/
theorem bit_fl : ∀ (a : Fin 8) (j : Fin 3), (Int.fmod (Int.fdiv (a.val : Int) ([1, 2, 4] : List Int)[j.val]!) 2 == 1) = bitA a.val j.val := by decide +kernel
theorem at124 : ∀ j : Nat, j < 3 → ([D.int 1, .int 2, .int 4] : List D)[j]? = some (.int ([1, 2, 4] : List Int)[j]!) ∧ ([1, 2, 4] : List Int)[j]! ≠ 0 ∧ ([1, 2, 4] : List Int)[j]!.natAbs < 1073741824
  | 0, _ => ⟨rfl, by decide, by decide⟩
  | 1, _ => ⟨rfl, by decide, by decide⟩
  | 2, _ => ⟨rfl, by decide, by decide⟩
  | n + 3, h => by omega
def S__law_holds (n : Nat) : ASp := fun ss μ k => ∃ (ws : List Str) (t : Tst) (a : Nat), OkW ws ∧ ws.length ≤ 3 ∧ a < 8 ∧ t.over ws ∧ t.deep < n ∧ ss = [.d (.lst (ws.map .str)), .d t.d, .d (.int a)] ∧ k (.d (.bl (t.val ws a))) μ
theorem p__law_holds {K : Fg} (n : Nat) : ∀ ss μ k, S__law_holds (n + 1) ss μ k → bodySp N__law_holds.length P__law_holds.length (a__law_holds K (S__law_holds n)) ss μ k := by
  rintro ss μ k ⟨ws, t, a, hw, hl, ha, ho, hd, rfl, h⟩
  have rs : ∀ ts : List Tst, ts.length ≤ 2 → (∀ t ∈ ts, t.over ws ∧ t.deep < n) → ∀ (ρ : Rho) (k : Sl → Mu → Prop), ρ.length = 6 → ρ[0]? = some (some (.d (.lst (ws.map .str)))) → ρ[2]? = some (some (.d (.int a))) → k (.d (.lst (ts.map fun t => .bl (t.val ws a)))) μ →
      lcK (aGn 5) aYes (aCall (S__law_holds n) (aCons (aVar 0) (aCons (aVar 5) (aCons (aVar 2) aNil)))) [5] ρ k (ts.map Tst.d) μ := by
    intro ts hz ht ρ k hlen h0 h2 hk
    have big : ts.length < sizeLine := by rw [sizeLine_val]; omega
    refine lc_facts Tst.d (fun t => .bl (t.val ws a)) big (fun t hm K1 K2 k1 => ?_) hk
    match ρ, hlen, h0, h2 with
    | [a0, a1, a2, a3, a4, a5], _, h0, h2 =>
      cases h0
      cases h2
      simp [startR, bodySp, wipeR]
      refine ⟨ws, t, a, hw, hl, ha, (ht t hm).1, (ht t hm).2, rfl, ?_⟩
      simp [startR, bodySp]
      exact k1
  cases t with
  | yes =>
    simp [startR, bodySp, a__law_holds, Tst.d]
    refine in_flat rfl rfl ?_
    simp [startR, bodySp]
    simpa [Tst.val] using h
  | no =>
    simp [startR, bodySp, a__law_holds, Tst.d]
    refine in_flat rfl rfl ?_
    simp [startR, bodySp]
    simpa [Tst.val] using h
  | is w =>
    have f := first_at (show w ∈ ws from ho)
    have hi := List.idxOf_lt_length_of_mem (show w ∈ ws from ho)
    obtain ⟨g1, g2, g3⟩ := at124 (ws.idxOf w) (by omega)
    have z := bit_fl ⟨a, ha⟩ ⟨ws.idxOf w, by omega⟩
    simp [startR, bodySp, a__law_holds, Tst.d, txts_map]
    refine in_flat rfl rfl ?_
    simp [startR, bodySp]
    refine ⟨trivial, _, f, _, ⟨_, (atI_nat _ _).trans g1, rfl⟩, _, rfl, _, rfl, ⟨g2, g3⟩, ?_⟩
    rw [show ((Int.fdiv (a : Int) ([1, 2, 4] : List Int)[ws.idxOf w]!).fmod 2 == 1) = bitA a (ws.idxOf w) from z]
    exact h
  | nt t =>
    simp [startR, bodySp, a__law_holds, Tst.d]
    refine in_flat rfl rfl ?_
    simp [startR, bodySp]
    refine rs [t] (by simp) (by simpa using ⟨ho, by simpa [Tst.deep] using hd⟩) _ _ rfl rfl rfl ?_
    have h' : k (.d (.bl (!t.val ws a))) μ := h
    simp [startR, bodySp]
    cases e1 : t.val ws a <;> rw [e1] at h' <;> simp <;> exact h'
  | an s t =>
    have hd2 : max s.deep t.deep < n := by simpa [Tst.deep] using hd
    simp [startR, bodySp, a__law_holds, Tst.d]
    refine in_flat rfl rfl ?_
    simp [startR, bodySp]
    refine rs [s, t] (by simp) (by simpa using ⟨⟨ho.1, by omega⟩, ho.2, by omega⟩) _ _ rfl rfl rfl ?_
    have h' : k (.d (.bl (s.val ws a && t.val ws a))) μ := h
    simp [startR, bodySp]
    refine in_flat rfl rfl ?_
    simp [startR, bodySp]
    cases e1 : s.val ws a <;> cases e2 : t.val ws a <;> rw [e1, e2] at h' <;> simpa using h'
  | orr s t =>
    have hd2 : max s.deep t.deep < n := by simpa [Tst.deep] using hd
    simp [startR, bodySp, a__law_holds, Tst.d]
    refine in_flat rfl rfl ?_
    simp [startR, bodySp]
    refine rs [s, t] (by simp) (by simpa using ⟨⟨ho.1, by omega⟩, ho.2, by omega⟩) _ _ rfl rfl rfl ?_
    have h' : k (.d (.bl (s.val ws a || t.val ws a))) μ := h
    simp [startR, bodySp]
    refine in_flat rfl rfl ?_
    simp [startR, bodySp]
    cases e1 : s.val ws a <;> cases e2 : t.val ws a <;> rw [e1, e2] at h' <;> simpa using h'
end K01
namespace K01
open PySem PySem.Spec PyProof.Rows L2 Ww
/-! k01: the law's bars, open atoms, worlds -/
abbrev Wld := Nat × Option Str × Nat
def deedD : Option Str → D
  | some w => .str w
  | none => .non
def wD (x : Wld) : D := .tup [.int x.1, deedD x.2.1, .int x.2.2]
/-- (tests, deeds, facts) -/
def ToldD (ts ds : List Str) (fs : List Fct) : D := .tup [.lst (ts.map .str), .lst (ds.map .str), .lst (fs.map Fct.d)]
@[simp] theorem told_nrm {ts ds : List Str} {fs : List Fct} : nrm (ToldD ts ds fs) = ToldD ts ds fs := rfl
@[simp] theorem told_0 {ts ds : List Str} {fs : List Fct} : ixD (ToldD ts ds fs) (.int 0) = some (.lst (ts.map .str)) := rfl
@[simp] theorem told_1 {ts ds : List Str} {fs : List Fct} : ixD (ToldD ts ds fs) (.int 1) = some (.lst (ds.map .str)) := rfl
@[simp] theorem told_2 {ts ds : List Str} {fs : List Fct} : ixD (ToldD ts ds fs) (.int 2) = some (.lst (fs.map Fct.d)) := rfl
def barB (ts : List Str) (f : Fct) (a : Int) (w : Str) (b : Int) : Bool := f.barsA ts a || f.barsA ts b || f.barsS ts a w b
def S__law_bars : ASp := fun ss μ k => ∃ ts ds fs f, ∃ (a b : Nat) (w : Str), TOk ts ds f ∧ a < 8 ∧ b < 8 ∧ w ∈ ds ∧ ss = [.d (ToldD ts ds fs), .d f.d, .d (.int a), .d (.str w), .d (.int b)] ∧ k (.d (.bl (barB ts f a w b))) μ
theorem p__law_bars {K : Fg} : ∀ ss μ k, S__law_bars ss μ k → bodySp N__law_bars.length P__law_bars.length (a__law_bars K (S__law_holds 12)) ss μ k := by
  rintro ss μ k ⟨ts, ds, fs, f, a, b, w, T, ha, hb, hw, rfl, h⟩
  have shw := sh_ok (T.okd w hw)
  have hd : f.t.deep < 12 := by have := T.small.1; omega
  have so := Fct.over_t T.over
  cases f with
  | never t =>
    simp [startR, bodySp, a__law_bars, Fct.d]
    refine ⟨ts, t, a, T.ok, T.tl, ha, so, hd, rfl, ?_⟩
    simp [startR, bodySp]
    have h' : k (.d (.bl (t.val ts a || t.val ts b || false))) μ := h
    cases e : t.val ts a with
    | true => rw [e] at h'; simp [startR, bodySp]; simpa using h'
    | false =>
      rw [e] at h'
      simp [startR, bodySp]
      refine ⟨ts, t, b, T.ok, T.tl, hb, so, hd, rfl, ?_⟩
      simp [startR, bodySp]
      simpa using h'
  | refused v t =>
    have shv := sh_ok (T.okd v T.over.1)
    simp [startR, bodySp, a__law_bars, Fct.d, shv, shw]
    by_cases e : v = w
    · refine .inl ⟨e, ts, t, a, T.ok, T.tl, ha, so, hd, rfl, ts, t, b, T.ok, T.tl, hb, so, hd, rfl, ?_⟩
      simp [startR, bodySp]
      simpa [barB, Fct.barsA, Fct.barsS, e] using h
    · refine .inr ⟨e, ?_⟩
      have e2 : (v == w) = false := beq_eq_false_iff_ne.mpr e
      simpa [barB, Fct.barsA, Fct.barsS, e2] using h
  | makes v t =>
    have shv := sh_ok (T.okd v T.over.1)
    simp [startR, bodySp, a__law_bars, Fct.d, shv, shw]
    by_cases e : v = w
    · refine .inl ⟨e, ts, t, a, T.ok, T.tl, ha, so, hd, rfl, ts, t, b, T.ok, T.tl, hb, so, hd, rfl, ?_⟩
      simp [startR, bodySp]
      have h' : k (.d (.bl (!t.val ts b))) μ := by simpa [barB, Fct.barsA, Fct.barsS, e] using h
      cases q : t.val ts b <;> rw [q] at h' <;> simpa using h'
    · refine .inr ⟨e, ?_⟩
      have e2 : (v == w) = false := beq_eq_false_iff_ne.mpr e
      simpa [barB, Fct.barsA, Fct.barsS, e2] using h
  | keeps v t =>
    have shv := sh_ok (T.okd v T.over.1)
    simp [startR, bodySp, a__law_bars, Fct.d, shv, shw]
    by_cases e : v = w
    · refine .inl ⟨e, ts, t, a, T.ok, T.tl, ha, so, hd, rfl, ts, t, b, T.ok, T.tl, hb, so, hd, rfl, ?_⟩
      simp [startR, bodySp]
      have h' : k (.d (.bl (t.val ts a != t.val ts b))) μ := by simpa [barB, Fct.barsA, Fct.barsS, e] using h
      cases q : t.val ts b <;> cases q2 : t.val ts a <;> rw [q, q2] at h' <;> simpa using h'
    · refine .inr ⟨e, ?_⟩
      have e2 : (v == w) = false := beq_eq_false_iff_ne.mpr e
      simpa [barB, Fct.barsA, Fct.barsS, e2] using h
def keepsW (ts : List Str) (f : Fct) (x : Wld) : Bool := match f, x with
  | .never t, (a, _, b) => !t.val ts a && !t.val ts b
  | _, (_, none, _) => true
  | f, (a, some w, b) => !barB ts f a w b
structure WOk (ds : List Str) (x : Wld) : Prop where
  a : x.1 < 8
  b : x.2.2 < 8
  w : ∀ w, x.2.1 = some w → w ∈ ds
def S__law_keeps : ASp := fun ss μ k => ∃ ts ds fs f x, TOk ts ds f ∧ WOk ds x ∧ ss = [.d (ToldD ts ds fs), .d f.d, .d (wD x)] ∧ k (.d (.bl (keepsW ts f x))) μ
theorem p__law_keeps {K : Fg} : ∀ ss μ k, S__law_keeps ss μ k → bodySp N__law_keeps.length P__law_keeps.length (a__law_keeps K (S__law_holds 12) S__law_bars) ss μ k := by
  rintro ss μ k ⟨ts, ds, fs, f, ⟨a, o, b⟩, T, W, rfl, h⟩
  have ha : a < 8 := W.a
  have hb : b < 8 := W.b
  have hd : f.t.deep < 12 := by have := T.small.1; omega
  have so := Fct.over_t T.over
  cases f with
  | never t =>
    simp [startR, bodySp, a__law_keeps, wD, Fct.d]
    refine ⟨ts, t, a, T.ok, T.tl, ha, so, hd, rfl, ?_⟩
    have h' : k (.d (.bl (!t.val ts a && !t.val ts b))) μ := h
    simp [startR, bodySp]
    cases e : t.val ts a with
    | true => rw [e] at h'; simp [startR, bodySp]; simpa using h'
    | false =>
      rw [e] at h'
      simp [startR, bodySp]
      refine ⟨ts, t, b, T.ok, T.tl, hb, so, hd, rfl, ?_⟩
      simp [startR, bodySp]
      cases q : t.val ts b <;> rw [q] at h' <;> simpa using h'
  | refused v t =>
    simp [startR, bodySp, a__law_keeps, wD, Fct.d]
    cases o with
    | none => exact .inr ⟨rfl, h⟩
    | some w =>
      refine .inl ⟨rfl, ts, ds, fs, .refused v t, a, b, w, T, ha, hb, W.w w rfl, rfl, ?_⟩
      have h' : k (.d (.bl (!barB ts (.refused v t) a w b))) μ := h
      simp [startR, bodySp]
      cases q : barB ts (.refused v t) a w b <;> rw [q] at h' <;> simpa using h'
  | makes v t =>
    simp [startR, bodySp, a__law_keeps, wD, Fct.d]
    cases o with
    | none => exact .inr ⟨rfl, h⟩
    | some w =>
      refine .inl ⟨rfl, ts, ds, fs, .makes v t, a, b, w, T, ha, hb, W.w w rfl, rfl, ?_⟩
      have h' : k (.d (.bl (!barB ts (.makes v t) a w b))) μ := h
      simp [startR, bodySp]
      cases q : barB ts (.makes v t) a w b <;> rw [q] at h' <;> simpa using h'
  | keeps v t =>
    simp [startR, bodySp, a__law_keeps, wD, Fct.d]
    cases o with
    | none => exact .inr ⟨rfl, h⟩
    | some w =>
      refine .inl ⟨rfl, ts, ds, fs, .keeps v t, a, b, w, T, ha, hb, W.w w rfl, rfl, ?_⟩
      have h' : k (.d (.bl (!barB ts (.keeps v t) a w b))) μ := h
      simp [startR, bodySp]
      cases q : barB ts (.keeps v t) a w b <;> rw [q] at h' <;> simpa using h'
/-- all worlds of one step -/
def worldsL (ts ds : List Str) : List Wld := (List.range (2 ^ ts.length)).flatMap fun a : Nat => (a, none, a) :: ds.flatMap fun w => (List.range (2 ^ ts.length)).map fun b : Nat => (a, some w, b)
def S__law_worlds : ASp := fun ss μ k => ∃ ts ds fs, ts.length ≤ 3 ∧ ds.length ≤ 4 ∧ ss = [.d (ToldD ts ds fs)] ∧ k (.d (.lst ((worldsL ts ds).map wD))) μ
theorem worlds_len {ts ds : List Str} (h1 : ts.length ≤ 3) (h2 : ds.length ≤ 4) (n : Nat) (hn : n ≤ 8) : ((List.range n).flatMap fun a : Nat => (a, (none : Option Str), a) :: ds.flatMap fun w => (List.range (2 ^ ts.length)).map fun b : Nat => (a, some w, b)).length ≤ n * 33 := by
  have p8 := pow8 h1
  induction n with
  | zero => simp
  | succ n ih =>
    have ih := ih (by omega)
    rw [List.range_succ, List.flatMap_append, List.length_append]
    have e : ((ds.flatMap fun w => (List.range (2 ^ ts.length)).map fun b : Nat => ((n, some w, b) : Wld)).length) = ds.length * 2 ^ ts.length := by
      rw [List.length_flatMap]
      simp [List.map_const']
    have m : ds.length * 2 ^ ts.length ≤ 4 * 8 := Nat.mul_le_mul h2 p8
    simp only [List.flatMap_cons, List.flatMap_nil, List.append_nil, List.length_cons, e]
    omega
theorem flat_len {α β : Type} {f : α → List β} {n : Nat} : ∀ l : List α, (∀ x ∈ l, (f x).length ≤ n) → (l.flatMap f).length ≤ l.length * n
  | [], _ => by simp
  | x :: r, h => by
    have ih := flat_len r fun y hy => h y (List.mem_cons_of_mem _ hy)
    have := h x List.mem_cons_self
    rw [List.flatMap_cons, List.length_append, List.length_cons, Nat.succ_mul]
    omega
theorem p__law_worlds {K : Fg} : ∀ ss μ k, S__law_worlds ss μ k → bodySp N__law_worlds.length P__law_worlds.length (a__law_worlds K S__law_atoms) ss μ k := by
  rintro ss μ k ⟨ts, ds, fs, h1, h2, rfl, h⟩
  have p8 := pow8 h1
  refine ⟨rfl, ?_⟩
  unfold a__law_worlds
  simp [startR, bodySp]
  refine ⟨ts, _, h1, rfl, ?_⟩
  simp [startR, bodySp, intsD]
  let row : Nat → List Wld := fun a => (a, none, a) :: ds.flatMap fun w => (List.range (2 ^ ts.length)).map fun b : Nat => (a, some w, b)
  let M : List Wld → Mu → Mu := fun l η => μ ++ (η ++ [Cell.lst (l.map fun x => .d (wD x))])
  have at_ : ∀ l η, (M l η)[μ.length + η.length]? = some (.lst (l.map fun x => .d (wD x))) := fun l η => by simp [M]
  have set_ : ∀ l η l', (M l η).set (μ.length + η.length) (.lst (l'.map fun x => .d (wD x))) = M l' η := fun l η l' => by simp [M]
  have len_ : ∀ l η, (M l η).length = μ.length + (η ++ [Cell.lst (l.map fun x => .d (wD x))]).length := fun l η => by simp [M]
  have app_ : ∀ l η l', M l η ++ [.lst (l'.map fun x => .d (wD x))] = M l' (η ++ [.lst (l.map fun x => .d (wD x))]) := fun l η l' => by simp [M]
  refine for1 (fun i ρ' μ' => ∃ (η : Mu) (r2 r3 r4 : Option Sl), ρ' = [some (.d (ToldD ts ds fs)), some (.m (μ.length + η.length)), r2, r3, r4] ∧ μ' = M ((List.range i).flatMap row) η) ⟨[], none, none, none, rfl, by simp [M]⟩ ?_ ?_
  · rintro B N i d ρ' μ' eB hN hd ⟨η, r2, r3, r4, rfl, rfl⟩
    rw [List.getElem?_map] at hd
    obtain ⟨a, ha, rfl⟩ := Option.map_eq_some_iff.mp hd
    obtain ⟨hlt, ea⟩ := List.getElem?_eq_some_iff.mp ha
    rw [List.getElem_range] at ea
    subst ea
    rw [List.length_range] at hlt
    have wl := worlds_len (ds := ds) h1 h2 i (by omega)
    subst eB
    simp [startR, bodySp]
    let pre : List Wld := (List.range i).flatMap row ++ [(i, none, i)]
    have plen : ((List.range i).flatMap row).length ≤ i * 33 := wl
    refine ⟨isLst_of (at_ _ _), _, at_ _ _, by rw [List.length_map]; omega, ?_⟩
    have e1 : List.map (fun x => Sl.d (wD x)) ((List.range i).flatMap row) ++ [Sl.d (D.tup [D.int i, D.non, D.int i])] = pre.map fun x => Sl.d (wD x) := by simp [pre, wD, deedD]
    rw [e1, set_]
    let col : Str → List Wld := fun w => (List.range (2 ^ ts.length)).map fun b : Nat => (i, some w, b)
    refine for1 (fun j ρ' μ' => ∃ (η : Mu) (r3 r4 : Option Sl), ρ' = [some (.d (ToldD ts ds fs)), some (.m (μ.length + η.length)), some (.d (.int i)), r3, r4] ∧ μ' = M (pre ++ (ds.take j).flatMap col) η) ⟨η, r3, r4, rfl, by simp⟩ ?_ ?_
    · rintro B N2 j d ρ' μ' eB hN2 hd ⟨η, r3, r4, rfl, rfl⟩
      rw [List.getElem?_map] at hd
      obtain ⟨w, hw, rfl⟩ := Option.map_eq_some_iff.mp hd
      obtain ⟨hlj, ew⟩ := List.getElem?_eq_some_iff.mp hw
      subst eB
      simp [startR, bodySp]
      refine ⟨ts, _, h1, rfl, ?_⟩
      simp [startR, bodySp, intsD]
      refine lc_facts (fun b : Nat => .int b) (fun b : Nat => wD (i, some w, b)) (by rw [sizeLine_val, List.length_range]; omega) (fun b hb K1 K2 k1 => ?_) ?_
      · simp [startR, bodySp]
        exact k1
      · have cl : (col w).length = 2 ^ ts.length := by simp [col]
        have fl : ((ds.take j).flatMap col).length ≤ 4 * 8 := by
          refine Nat.le_trans (flat_len (n := 2 ^ ts.length) _ fun x _ => by simp [col]) ?_
          have : (ds.take j).length ≤ 4 := Nat.le_trans (List.length_take_le' ..) h2
          exact Nat.mul_le_mul this p8
        have rc := rd_cell (a := (pre ++ (ds.take j).flatMap col).map wD) (by rw [List.map_map]; exact at_ (pre ++ (ds.take j).flatMap col) η)
        simp [startR, bodySp]
        refine ⟨_, rc, ?_, ?_⟩
        · have pl : pre.length = ((List.range i).flatMap row).length + 1 := by simp only [pre, List.length_append, List.length_singleton]
          have q : (pre ++ (ds.take j).flatMap col).length = pre.length + ((ds.take j).flatMap col).length := List.length_append
          rw [List.length_map, q, pl]
          omega
        · refine hN2 _ _ ⟨η ++ [Cell.lst ((pre ++ (ds.take j).flatMap col).map fun x => .d (wD x))], some (.d (.str w)), r4, ?_, ?_⟩
          · rw [len_]
          · rw [← app_, List.take_succ_eq_append_getElem hlj, List.flatMap_append, ew]
            have e5 : List.map Sl.d (List.map wD (pre ++ List.flatMap col (List.take j ds))) ++ List.map (Sl.d ∘ fun b : Nat => wD (i, some w, b)) (List.range (2 ^ ts.length)) = (pre ++ (List.flatMap col (List.take j ds) ++ List.flatMap col [w])).map fun x => Sl.d (wD x) := by
              simp [col, List.map_map, Function.comp_def]
            rw [e5]
    · rintro ρ' μ' ⟨η, r3, r4, rfl, rfl⟩
      refine hN _ _ ⟨η, _, _, _, rfl, ?_⟩
      rw [List.length_map, List.take_length, List.range_succ, List.flatMap_append]
      simp [pre, row, col]
  · rintro ρ' μ' ⟨η, r2, r3, r4, rfl, rfl⟩
    simp [startR, bodySp]
    have ac := at_ (worldsL ts ds) η
    have e1 : ((worldsL ts ds).map fun x => Sl.d (wD x)) = ((worldsL ts ds).map wD).map .d := by rw [List.map_map]; rfl
    rw [e1] at ac
    show fzK (bEnds μ k).rt (Sl.m (μ.length + η.length)) (M (worldsL ts ds) η)
    rw [fzK_l ac]
    refine ⟨_, rfl, ?_, ?_⟩
    · have es : (M (worldsL ts ds) η).set (μ.length + η.length) (.frz (.lst ((worldsL ts ds).map wD))) = μ ++ (η ++ [.frz (.lst ((worldsL ts ds).map wD))]) := by simp [M]
      rw [es]
      exact Keep.app _ _
    · have es : ((M (worldsL ts ds) η).set (μ.length + η.length) (.frz (.lst ((worldsL ts ds).map wD)))).take μ.length = μ := by simp [M]
      rw [es]
      exact h
/-- the worlds that keep some facts -/
def keptL (ts ds : List Str) (fs : List Fct) : List Wld := (worldsL ts ds).filter fun x => fs.all fun f => keepsW ts f x
def S__law_kept : ASp := fun ss μ k => ∃ ts ds fs fs', ts.length ≤ 3 ∧ ds.length ≤ 4 ∧ fs'.length ≤ 100 ∧ (∀ f ∈ fs', TOk ts ds f) ∧ ss = [.d (ToldD ts ds fs), .d (.lst (fs'.map Fct.d))] ∧ k (.d (.lst ((keptL ts ds fs').map wD))) μ
theorem worlds_ok {ts ds : List Str} (h1 : ts.length ≤ 3) : ∀ x ∈ worldsL ts ds, WOk ds x := by
  have p8 := pow8 h1
  intro x hx
  obtain ⟨a, ha, hx⟩ := List.mem_flatMap.mp hx
  have ha := List.mem_range.mp ha
  rcases List.mem_cons.mp hx with rfl | hx
  · exact ⟨by show a < 8; omega, by show a < 8; omega, fun w e => nomatch e⟩
  · obtain ⟨w, hw, hx⟩ := List.mem_flatMap.mp hx
    obtain ⟨b, hb, rfl⟩ := List.mem_map.mp hx
    have hb := List.mem_range.mp hb
    exact ⟨by show a < 8; omega, by show b < 8; omega, fun w' e => by cases e; exact hw⟩
def Fct.py : Fct → PyData
  | .never t => .tuple [.str "never", t.py]
  | .refused w t => .tuple [.str "refused", .str w, t.py]
  | .makes w t => .tuple [.str "makes", .str w, t.py]
  | .keeps w t => .tuple [.str "keeps", .str w, t.py]
theorem Fct.toPy (f : Fct) : toPy f.d = some f.py := by cases f <;> simp [Fct.d, Fct.py]
theorem Fct.lay {ts ds : List Str} {f : Fct} (T : TOk ts ds f) : f.py.canLay0 = true ∧ f.py.depth ≤ 63 := by
  have l := Tst.lay T.ok f.t (Fct.over_t T.over)
  have d := Tst.depth f.t
  have s := T.small.1
  cases f with
  | never t => refine ⟨?_, ?_⟩
               · simp [Fct.py, PyData.canLay0, PyData.canLayAll0, lit_ok]; exact l
               · simp [Fct.py, PyData.depth, PyData.depthAll]; simp [Fct.t] at d s; omega
  | refused w t => have := T.okd w T.over.1
                   refine ⟨?_, ?_⟩
                   · simp [Fct.py, PyData.canLay0, PyData.canLayAll0, lit_ok, this]; exact l
                   · simp [Fct.py, PyData.depth, PyData.depthAll]; simp [Fct.t] at d s; omega
  | makes w t => have := T.okd w T.over.1
                 refine ⟨?_, ?_⟩
                 · simp [Fct.py, PyData.canLay0, PyData.canLayAll0, lit_ok, this]; exact l
                 · simp [Fct.py, PyData.depth, PyData.depthAll]; simp [Fct.t] at d s; omega
  | keeps w t => have := T.okd w T.over.1
                 refine ⟨?_, ?_⟩
                 · simp [Fct.py, PyData.canLay0, PyData.canLayAll0, lit_ok, this]; exact l
                 · simp [Fct.py, PyData.depth, PyData.depthAll]; simp [Fct.t] at d s; omega
theorem nil_iff {α : Type} {d : α → D} {p : α → PyData} (hp : ∀ x, toPy (d x) = some (p x)) (l : List α) : toPys (l.map d) = some (l.map p) ∧ PyData.eqv (.list (l.map p)) (.list []) = l.isEmpty := ⟨pys_map hp l, by cases l <;> rfl⟩
@[simp] theorem Fct.nrm (f : Fct) : nrm f.d = f.d := by cases f <;> rfl
theorem p__law_kept {K : Fg} : ∀ ss μ k, S__law_kept ss μ k → bodySp N__law_kept.length P__law_kept.length (a__law_kept K S__law_worlds S__law_keeps) ss μ k := by
  rintro ss μ k ⟨ts, ds, fs, fs', h1, h2, h3, hT, rfl, h⟩
  have p8 := pow8 h1
  simp [startR, bodySp, a__law_kept]
  refine ⟨ts, ds, fs, h1, h2, rfl, ?_⟩
  simp [startR, bodySp]
  have wl : (worldsL ts ds).length < sizeLine := by
    have := worlds_len (ds := ds) h1 h2 (2 ^ ts.length) p8
    show (List.flatMap _ _).length < _
    rw [sizeLine_val]; omega
  refine lc_filt wD wD (fun x => fs'.all fun f => keepsW ts f x) wl (fun x hx K1 K2 k1 k2 => ?_) ?_
  · simp [startR, bodySp]
    refine lc_filt Fct.d Fct.d (fun f => !keepsW ts f x) (by rw [sizeLine_val]; omega) (fun f hf K1 K2 k1 k2 => ?_) ?_
    · simp [startR, bodySp]
      refine ⟨ts, ds, fs, f, x, hT f hf, worlds_ok h1 x hx, rfl, ?_⟩
      cases q : keepsW ts f x
      · simp [startR, bodySp]
        exact k1 (by rw [q]; rfl)
      · simp [startR, bodySp]
        exact k2 (by rw [q]; rfl)
    · obtain ⟨n1, n2⟩ := nil_iff Fct.toPy (fs'.filter fun f => !keepsW ts f x)
      have sh : SeqAt.shaped (.list ((fs'.filter fun f => !keepsW ts f x).map Fct.py)) = true := shaped_list fun f hf => Fct.lay (hT f (List.mem_filter.mp hf).1)
      simp [startR, bodySp, n1, n2, sh]
      split
      · rename_i c
        exact k1 (List.all_eq_true.mpr c)
      · rename_i c
        exact k2 (Bool.eq_false_iff.mpr fun e => c (List.all_eq_true.mp e))
  · simp [startR, bodySp]
    exact h
def S__law_open : ASp := fun ss μ k => ∃ ts ds fs, FOk ts ds fs ∧ ss = [.d (ToldD ts ds fs)] ∧ k (.d (.lst (intsD (openL ts fs)))) μ
theorem p__law_open {K : Fg} : ∀ ss μ k, S__law_open ss μ k → bodySp N__law_open.length P__law_open.length (a__law_open K S__law_atoms (S__law_holds 12)) ss μ k := by
  rintro ss μ k ⟨ts, ds, fs, F, rfl, h⟩
  have p8 := pow8 F.tl
  simp [startR, bodySp, a__law_open]
  refine ⟨ts, _, F.tl, rfl, ?_⟩
  simp [startR, bodySp, intsD]
  refine lc_filt (fun a : Nat => .int a) (fun a : Nat => .int a) (fun a => openA ts fs a) (by rw [sizeLine_val, List.length_range]; omega) (fun a ha K1 K2 k1 k2 => ?_) ?_
  · have ha := List.mem_range.mp ha
    simp [startR, bodySp]
    refine lc_filt Fct.d (fun _ => .int 1) (fun f => f.barsA ts a) (by have := F.fl; rw [sizeLine_val]; omega) (fun f hf K1 K2 k1 k2 => ?_) ?_
    · have T := F.each f hf
      have hd : f.t.deep < 12 := by have := T.small.1; omega
      cases f with
      | never t =>
        simp [startR, bodySp, Fct.d]
        refine ⟨ts, t, a, F.ok, F.tl, by omega, T.over, hd, rfl, ?_⟩
        cases q : t.val ts a
        · simp [startR, bodySp]
          exact k2 q
        · simp [startR, bodySp]
          exact k1 q
      | refused w t => simp [startR, bodySp, Fct.d]; exact k2 rfl
      | makes w t => simp [startR, bodySp, Fct.d]; exact k2 rfl
      | keeps w t => simp [startR, bodySp, Fct.d]; exact k2 rfl
    · obtain ⟨n1, n2⟩ := nil_iff (d := fun _ : Fct => D.int 1) (p := fun _ => PyData.int 1) (fun _ => rfl) (fs.filter fun f => f.barsA ts a)
      have sh : SeqAt.shaped (.list ((fs.filter fun f => f.barsA ts a).map fun _ => PyData.int 1)) = true := shaped_list fun f hf => ⟨rfl, by simp [PyData.depth]⟩
      simp [startR, bodySp, n1, n2, sh]
      split
      · rename_i c
        exact k1 (by
          show (!_) = true
          rw [Bool.not_eq_true', Bool.eq_false_iff]
          intro e
          obtain ⟨f, h1, h2⟩ := List.any_eq_true.mp e
          rw [c f h1] at h2
          cases h2)
      · rename_i c
        exact k2 (by
          show (!_) = false
          rw [Bool.not_eq_false', List.any_eq_true]
          refine Classical.byContradiction fun e => c fun f hf => ?_
          cases q : f.barsA ts a
          · rfl
          · exact absurd ⟨f, hf, q⟩ e)
  · simp [startR, bodySp]
    exact h
end K01
namespace K01
open PySem PySem.Spec PyProof.Rows L2 Ww
/-! k01: drawn tests, words, facts, tongues -/
/-- at most m levels of calls -/
def S__law_test (m : Nat) : ASp := fun ss μ k => ∃ (q : Dq) (ν : Mu) (ts : List Str) (n : Nat), n < m ∧ n ≤ 3 ∧ ts.length ≤ 3 ∧ ss = [.m 1, .d (.lst (ts.map .str)), .d (.int n)] ∧ μ = DM q ν ∧ ∀ (t : Tst) (q' : Dq), t.over ts → t.deep ≤ n → t.size < 2 ^ (n + 1) → k (.d t.d) (DM q' ν)
theorem leaf_ok {ts : List Str} (hl : ts.length ≤ 3) {q q' : Dq} {ν : Mu} {k : Sl → Mu → Prop} {r2 r3 r4 : Option Sl} (h : ∀ (t : Tst) (q' : Dq), t.over ts → t.deep = 0 → t.size = 1 → k (.d t.d) (DM q' ν)) :
    lcK (aGn 4) aYes (aTup (aCons (aC (D.str "is")) (aCons (aVar 4) aNil))) [4] [some (.m 1), some (.d (.lst (ts.map .str))), r2, r3, r4]
    (fun x μ1 => ∃ a, rdD μ1 x = some a ∧ fMul a (D.int 4) (fun x μ1 => ∃ a, rdD μ1 x = some a ∧ fAdd a (D.lst [D.tup [D.str "yes"], D.tup [D.str "no"]])
        (fun x μ1 => S__law_pick [.m 1, x] μ1 fun x μ1 => fzK (bEnds (dr0 q.L :: dr1 q.r q.cs q.t :: ν) k).rt x μ1) μ1) μ1)
    (ts.map D.str) (dr0 q'.L :: dr1 q'.r q'.cs q'.t :: ν) := by
  refine lc_facts D.str (fun w => .tup [.str "is", .str w]) (by rw [sizeLine_val]; omega) (fun w hw K1 K2 k1 => ?_) ?_
  · simp [startR, bodySp]
    exact k1
  · simp [startR, bodySp]
    have e4 : (4 : Int).toNat = 4 := rfl
    let a : List D := ts.map fun w => D.tup [.str "is", .str w]
    let l : List D := a ++ (a ++ (a ++ (a ++ [.tup [.str "yes"], .tup [.str "no"]])))
    have hl2 : l.length = 4 * ts.length + 2 := by simp [l, a]; omega
    refine ⟨by omega, by omega, q', ν, .lst l, l, rfl, ?_, by rw [hl2]; omega, rfl, rfl, fun x hx q2 => ?_⟩
    · intro e; rw [e] at hl2; simp at hl2
    · have hx2 : (∃ w ∈ ts, x = Tst.d (.is w)) ∨ x = Tst.d .yes ∨ x = Tst.d .no := by
        have ina : x ∈ a → ∃ w ∈ ts, x = Tst.d (.is w) := fun hx => by
          obtain ⟨w, hw, rfl⟩ := List.mem_map.mp hx
          exact ⟨w, hw, rfl⟩
        rcases List.mem_append.mp hx with hx | hx
        · exact .inl (ina hx)
        rcases List.mem_append.mp hx with hx | hx
        · exact .inl (ina hx)
        rcases List.mem_append.mp hx with hx | hx
        · exact .inl (ina hx)
        rcases List.mem_append.mp hx with hx | hx
        · exact .inl (ina hx)
        · right; simpa [Tst.d] using hx
      simp [startR, bodySp]
      rcases hx2 with ⟨w, hw, rfl⟩ | rfl | rfl
      · exact ⟨keep_dr, h (.is w) q2 hw rfl rfl⟩
      · exact ⟨keep_dr, h .yes q2 trivial rfl rfl⟩
      · exact ⟨keep_dr, h .no q2 trivial rfl rfl⟩
theorem p__law_test {K : Fg} (m : Nat) : ∀ ss μ k, S__law_test (m + 1) ss μ k → bodySp N__law_test.length P__law_test.length (a__law_test K S__law_take S__law_pick (S__law_test m)) ss μ k := by
  rintro ss μ k ⟨q, ν, ts, n, hm, h3, hl, rfl, rfl, h⟩
  simp [startR, bodySp, a__law_test]
  refine ⟨q, ν, 8, by decide, by decide, rfl, rfl, fun v q' hv => ?_⟩
  have leaf := fun r2 r3 r4 => leaf_ok (r2 := r2) (r3 := r3) (r4 := r4) hl (q := q) (q' := q') (ν := ν) (k := k) fun t q2 h1 h2 h3 => h t q2 h1 (by omega) (by rw [h3]; exact Nat.one_lt_two_pow (by omega))
  cases n with
  | zero =>
    simp [startR, bodySp]
    exact leaf _ _ _
  | succ n =>
    have n0 : ¬ (n : Int) + 1 = 0 := by omega
    have sub : gI (fun i j => i - j) ((n : Int) + 1) 1 = .int n := by
      show D.int ((n : Int) + 1 - 1) = D.int n
      rw [Int.add_sub_cancel]
    simp [startR, bodySp, n0, sub]
    split
    · exact leaf _ _ _
    split
    · refine ⟨q', ν, ts, n, by omega, by omega, hl, rfl, rfl, fun t q2 h1 h2 h3 => ?_⟩
      simp [startR, bodySp]
      refine ⟨keep_dr, h (.nt t) q2 h1 (by simp [Tst.deep]; omega) ?_⟩
      simp [Tst.size, Nat.pow_succ] at h3 ⊢
      omega
    · refine ⟨q', ν, _, _, rfl, by simp, by simp, rfl, rfl, fun x hx q2 => ?_⟩
      refine ⟨q2, ν, ts, n, by omega, by omega, hl, rfl, rfl, fun s q3 s1 s2 s3 => ?_⟩
      refine ⟨q3, ν, ts, n, by omega, by omega, hl, rfl, rfl, fun t q4 t1 t2 t3 => ?_⟩
      have hx : x = .str "and" ∨ x = .str "or" := by simpa using hx
      simp [Nat.pow_succ] at s3 t3
      rcases hx with rfl | rfl
      · simp [startR, bodySp]
        refine ⟨keep_dr, h (.an s t) q4 ⟨s1, t1⟩ (by simp [Tst.deep]; omega) ?_⟩
        simp [Tst.size, Nat.pow_succ]
        omega
      · simp [startR, bodySp]
        refine ⟨keep_dr, h (.orr s t) q4 ⟨s1, t1⟩ (by simp [Tst.deep]; omega) ?_⟩
        simp [Tst.size, Nat.pow_succ]
        omega
def W12 : List Str := ["lit", "warm", "a", "b", "zz", "press", "wait", "go", "call", "do", "some", "abcdefgh"]
theorem w12_plain : ∀ w ∈ W12, Plain w := by
  intro w hw
  have h : w = "lit" ∨ w = "warm" ∨ w = "a" ∨ w = "b" ∨ w = "zz" ∨ w = "press" ∨ w = "wait" ∨ w = "go" ∨ w = "call" ∨ w = "do" ∨ w = "some" ∨ w = "abcdefgh" := by simpa [W12] using hw
  rcases h with e | e | e | e | e | e | e | e | e | e | e | e <;> rw [e] <;> exact ⟨lit_ok _, by decide +kernel, by decide +kernel, by decide +kernel⟩
theorem w12_nodup : W12.Nodup := by decide +kernel
theorem w12_kept : ∀ w ∈ W12, w ∉ KEPT := by decide +kernel
/-- the first words -/
structure Drawn (ws : List Str) : Prop where
  sub : ∀ w ∈ ws, w ∈ W12
  nodup : ws.Nodup
def S__law_words : ASp := fun ss μ k => ∃ (q : Dq) (ν : Mu) (n : Nat), n ≤ 12 ∧ ss = [.m 1, .d (.int n)] ∧ μ = DM q ν ∧ ∀ (ws : List Str) (q' : Dq), Drawn ws → ws.length = n → k (.d (.lst (ws.map .str))) (DM q' ν)
theorem cut_toL {α : Type} (l : List α) {i : Nat} (h : i ≤ l.length) : cut l none (some (i : Int)) = l.take i := by
  unfold cut
  rw [HT.sIx_nat, HT.sIx_none, List.drop_zero, Nat.sub_zero, Nat.min_eq_left (by omega)]
theorem cut_fromL {α : Type} (l : List α) {i : Nat} (h : i ≤ l.length) : cut l (some (i : Int)) none = l.drop i := by
  unfold cut
  rw [HT.sIx_nat, HT.sIx_none, Nat.min_eq_left (by omega)]
  exact List.take_of_length_le (by rw [List.length_drop]; omega)
theorem perm_str : ∀ {l : List D} {ws : List Str}, l.Perm (ws.map D.str) → ∃ vs : List Str, l = vs.map D.str ∧ vs.Perm ws := by
  intro l ws h
  have hall : ∀ x ∈ l, ∃ w, x = D.str w := fun x hx => by
    obtain ⟨w, _, rfl⟩ := List.mem_map.mp (h.subset hx)
    exact ⟨w, rfl⟩
  let f : D → Str := fun d => match d with | .str w => w | _ => ""
  have e : l = (l.map f).map D.str := by
    rw [List.map_map]
    refine (List.map_id l).symm.trans (List.map_congr_left fun x hx => ?_)
    obtain ⟨w, rfl⟩ := hall x hx
    rfl
  refine ⟨l.map f, e, ?_⟩
  have := h.map f
  rw [List.map_map] at this
  have e2 : ws.map (f ∘ D.str) = ws := by
    have : (f ∘ D.str) = id := rfl
    rw [this, List.map_id]
  rwa [e2] at this
theorem p__law_words {K : Fg} : ∀ ss μ k, S__law_words ss μ k → bodySp N__law_words.length P__law_words.length (a__law_words K S__law_shuffled) ss μ k := by
  rintro ss μ k ⟨q, ν, n, hn, rfl, rfl, h⟩
  simp [startR, bodySp, a__law_words]
  refine ⟨q, ν, _, W12.map .str, rfl, by simp [W12], fun x hx => ?_, rfl, rfl, fun l' q' pm => ?_⟩
  · obtain ⟨w, hw, rfl⟩ := List.mem_map.mp hx
    exact ⟨.str w, rfl, (w12_plain w hw).ok, by simp [PyData.depth]⟩
  · obtain ⟨vs, rfl, pv⟩ := perm_str pm
    have lv : vs.length = 12 := by rw [pv.length_eq]; rfl
    have c1 : cut (vs.map D.str) none (some (n : Int)) = (vs.take n).map D.str := by rw [cut_toL _ (by simpa [lv] using hn), List.map_take]
    simp [startR, bodySp, c1]
    refine ⟨keep_dr, ?_⟩
    have := h (vs.take n) q' ⟨fun w hw => pv.subset (List.mem_of_mem_take hw), (pv.nodup_iff.mpr w12_nodup).sublist (List.take_sublist ..)⟩ (by rw [List.length_take, lv]; omega)
    simpa using this
end K01
namespace K01
open PySem PySem.Spec PyProof.Rows L2 Ww
/-! k01: a drawn fact, a drawn tongue -/
structure Small (ts ds : List Str) (f : Fct) : Prop where
  over : f.over ts ds
  deep : f.t.deep ≤ 2
  size : f.t.size < 8
def S__law_fact : ASp := fun ss μ k => ∃ (q : Dq) (ν : Mu) (ts ds : List Str), ts.length ≤ 3 ∧ ds ≠ [] ∧ ds.length ≤ 4 ∧ ss = [.m 1, .d (.lst (ts.map .str)), .d (.lst (ds.map .str))] ∧ μ = DM q ν ∧ ∀ (f : Fct) (q' : Dq), Small ts ds f → k (.d f.d) (DM q' ν)
theorem p__law_fact {K : Fg} : ∀ ss μ k, S__law_fact ss μ k → bodySp N__law_fact.length P__law_fact.length (a__law_fact K S__law_pick (S__law_test 3)) ss μ k := by
  rintro ss μ k ⟨q, ν, ts, ds, hl, hd, hd4, rfl, rfl, h⟩
  simp [startR, bodySp, a__law_fact]
  refine ⟨q, ν, ts, 2, by decide, by decide, hl, rfl, rfl, fun t q1 h1 h2 h3 => ?_⟩
  refine ⟨q1, ν, _, _, rfl, by simp, by simp, rfl, rfl, fun x hx q2 => ?_⟩
  have hx : x = .str "never" ∨ x = .str "refused" ∨ x = .str "makes" ∨ x = .str "keeps" := by simpa using hx
  have tl : (ds.map D.str).length < 2 ^ 30 := by rw [List.length_map]; omega
  have tn : ds.map D.str ≠ [] := by simpa using hd
  rcases hx with rfl | rfl | rfl | rfl
  · simp [startR, bodySp]
    exact ⟨keep_dr, h (.never t) q2 ⟨h1, h2, h3⟩⟩
  · simp [startR, bodySp]
    refine ⟨q2, ν, _, ds.map .str, rfl, tn, tl, rfl, rfl, fun y hy q3 => ?_⟩
    obtain ⟨w, hw, rfl⟩ := List.mem_map.mp hy
    simp [startR, bodySp]
    exact ⟨keep_dr, h (.refused w t) q3 ⟨⟨hw, h1⟩, h2, h3⟩⟩
  · simp [startR, bodySp]
    refine ⟨q2, ν, _, ds.map .str, rfl, tn, tl, rfl, rfl, fun y hy q3 => ?_⟩
    obtain ⟨w, hw, rfl⟩ := List.mem_map.mp hy
    simp [startR, bodySp]
    exact ⟨keep_dr, h (.makes w t) q3 ⟨⟨hw, h1⟩, h2, h3⟩⟩
  · simp [startR, bodySp]
    refine ⟨q2, ν, _, ds.map .str, rfl, tn, tl, rfl, rfl, fun y hy q3 => ?_⟩
    obtain ⟨w, hw, rfl⟩ := List.mem_map.mp hy
    simp [startR, bodySp]
    exact ⟨keep_dr, h (.keeps w t) q3 ⟨⟨hw, h1⟩, h2, h3⟩⟩
/-- drawn: words, few small facts -/
structure TL (n : Nat) (ts ds : List Str) (fs : List Fct) : Prop where
  t : Drawn (ts ++ ds)
  tl : ts.length ≤ 3
  dl : 1 ≤ ds.length ∧ ds.length ≤ 3
  fl : fs.length ≤ n
  each : ∀ f ∈ fs, Small ts ds f
theorem Drawn.words {a b : List Str} (h : Drawn (a ++ b)) : Words a ∧ Words b ∧ (∀ w ∈ b, w ∉ a) ∧ ∀ w ∈ a, w ∉ KEPT := by
  obtain ⟨n1, n2, n3⟩ := List.nodup_append.mp h.nodup
  exact ⟨⟨fun w hw => w12_plain w (h.sub w (List.mem_append_left _ hw)), n1⟩, ⟨fun w hw => w12_plain w (h.sub w (List.mem_append_right _ hw)), n2⟩, fun w hb ha => n3 w ha w hb rfl, fun w hw => w12_kept w (h.sub w (List.mem_append_left _ hw))⟩
theorem Small.tok {ts ds : List Str} {f : Fct} (h : Small ts ds f) (hw : Drawn (ts ++ ds)) (hl : ts.length ≤ 3) : TOk ts ds f := ⟨hw.words.1.ok, hw.words.2.1.ok, hl, h.over, by have := h.deep; omega, by have := h.size; omega⟩
theorem TL.tng {n : Nat} {ts ds : List Str} {fs : List Fct} (h : TL n ts ds fs) (hn : n ≤ 8) : Tng ts ds fs := by
  obtain ⟨w1, w2, w3, w4⟩ := h.t.words
  exact ⟨w1, w2, h.tl, ⟨h.dl.1, by have := h.dl.2; omega⟩, w4, w3, by have := h.fl; omega, fun f hf => (h.each f hf).over, fun f hf => ⟨by have := (h.each f hf).deep; omega, by have := (h.each f hf).size; omega⟩⟩
def notNever : Fct → Bool
  | .never _ => false
  | _ => true
def S__law_told : ASp := fun ss μ k => ∃ (q : Dq) (ν : Mu), ss = [.m 1, .d (.int 3)] ∧ μ = DM q ν ∧ ∀ (ts ds : List Str) (fs : List Fct) (q' : Dq), TL 4 ts ds fs → k (.d (ToldD ts ds fs)) (DM q' ν)
theorem p__law_told {K : Fg} : ∀ ss μ k, S__law_told ss μ k → bodySp N__law_told.length P__law_told.length (a__law_told K S__law_take S__law_pick S__law_words S__law_fact S__law_open) ss μ k := by
  rintro ss μ k ⟨q, ν, rfl, rfl, h⟩
  refine ⟨rfl, ?_⟩
  unfold a__law_told
  refine step1 fun N1 e1 => ?_
  simp [startR, bodySp]
  refine ⟨q, ν, _, _, rfl, by simp, by simp, rfl, rfl, fun x hx q1 => ?_⟩
  obtain ⟨few, rfl, hfew⟩ : ∃ few : Nat, x = .int few ∧ few ≤ 3 := by
    have : x = .int 0 ∨ x = .int 1 ∨ x = .int 2 ∨ x = .int 3 := by simpa using hx
    rcases this with e | e | e | e
    · exact ⟨0, e, by omega⟩
    · exact ⟨1, e, by omega⟩
    · exact ⟨2, e, by omega⟩
    · exact ⟨3, e, by omega⟩
  refine ⟨q1, ν, 3, by decide, by decide, rfl, rfl, fun v q2 hv => ?_⟩
  simp [startR, bodySp]
  rw [e1]
  refine step1 fun N2 e2 => ?_
  have m1 : (if (3 : Int) < (few : Int) then (3 : Int) else few) = few := by rw [if_neg (by omega)]
  simp [startR, bodySp, m1]
  refine ⟨q2, ν, few + (1 + v), by omega, by simp, rfl, fun ws q3 dr hlen => ?_⟩
  simp [startR, bodySp]
  rw [e2]
  refine step1 fun N3 e3 => ?_
  have c1 : cut (ws.map D.str) none (some (few : Int)) = (ws.take few).map D.str := by rw [cut_toL _ (by rw [List.length_map]; omega), List.map_take]
  have c2 : cut (ws.map D.str) (some (few : Int)) none = (ws.drop few).map D.str := by rw [cut_fromL _ (by rw [List.length_map]; omega), List.map_drop]
  simp [startR, bodySp, m1, c1, c2]
  rw [e3]
  obtain ⟨ts, hts⟩ : ∃ ts, ts = ws.take few := ⟨_, rfl⟩
  obtain ⟨ds, hds⟩ : ∃ ds, ds = ws.drop few := ⟨_, rfl⟩
  have etd : ts ++ ds = ws := by rw [hts, hds, List.take_append_drop]
  have tl : ts.length = few := by rw [hts, List.length_take]; omega
  have dl : ds.length = 1 + v := by rw [hds, List.length_drop]; omega
  rw [← List.map_take, ← List.map_drop, ← hts, ← hds]
  refine step1 fun N4 e4 => ?_
  simp [startR, bodySp]
  refine ⟨q3, ν, _, _, rfl, by simp, by simp, rfl, rfl, fun x hx q4 => ?_⟩
  obtain ⟨n, rfl, hn⟩ : ∃ n : Nat, x = .int n ∧ n ≤ 4 := by
    have : x = .int 0 ∨ x = .int 1 ∨ x = .int 2 ∨ x = .int 4 := by simpa using hx
    rcases this with e | e | e | e
    · exact ⟨0, e, by omega⟩
    · exact ⟨1, e, by omega⟩
    · exact ⟨2, e, by omega⟩
    · exact ⟨4, e, by omega⟩
  have dne : ds ≠ [] := fun e => by rw [e] at dl; simp at dl; omega
  simp [startR, bodySp]
  refine ⟨by omega, fun i acc μ' => ∃ (q : Dq) (fs : List Fct), acc = fs.map Fct.d ∧ μ' = DM q ν ∧ fs.length = i ∧ i ≤ n ∧ ∀ f ∈ fs, Small ts ds f, ⟨q4, [], rfl, rfl, rfl, by omega, by simp⟩, ?_, ?_⟩
  · rintro i d acc μ' hd ⟨q, fs, rfl, rfl, hl, hin, hs⟩
    rw [List.getElem?_map] at hd
    obtain ⟨j, hj, rfl⟩ := Option.map_eq_some_iff.mp hd
    have hlt := (List.getElem?_eq_some_iff.mp hj).1
    rw [List.length_range] at hlt
    simp [startR, bodySp, wipeR]
    refine ⟨q, ν, ts, ds, by omega, dne, by omega, rfl, rfl, fun f q' hf => ?_⟩
    simp [startR, bodySp]
    refine ⟨by omega, q', fs ++ [f], by simp, ⟨rfl, rfl⟩, by simp [hl], by omega, fun g hg => ?_⟩
    rcases List.mem_append.mp hg with hg | hg
    · exact hs g hg
    · rw [List.mem_singleton.mp hg]; exact hf
  · rintro acc μ' ⟨q5, fs, rfl, rfl, hl, _, hs⟩
    rw [List.length_map, List.length_range] at hl
    have T : TL 4 ts ds fs := ⟨by rw [etd]; exact dr, by omega, ⟨by omega, by omega⟩, by omega, hs⟩
    rw [e4]
    refine step1 fun N5 e5 => ?_
    simp [startR, bodySp]
    rw [e5]
    have pyl : toPy (.lst (intsD (openL ts fs))) = some (.list (pInts (openL ts fs))) := by
      show (toPys _).map _ = _
      rw [py_ints]; rfl
    have shl : SeqAt.shaped (.list (pInts (openL ts fs))) = true := shaped_list fun x hx => ⟨rfl, by simp [PyData.depth]⟩
    simp [startR, bodySp]
    refine ⟨ts, ds, fs, (T.tng (by omega)).fok, rfl, ?_⟩
    simp [startR, bodySp, pyl, shl]
    have take6 : ∀ k' : Sl → Mu → Prop, (∀ (v : Nat) (q6 : Dq), k' (.d (.int v)) (DM q6 ν)) → S__law_take [Sl.m 1, Sl.d (D.int 6)] (dr0 q5.L :: dr1 q5.r q5.cs q5.t :: ν) k' := fun k' hk' => ⟨q5, ν, 6, by decide, by decide, rfl, rfl, fun v q6 _ => hk' v q6⟩
    have done : ∀ q6 : Dq, k (.d (ToldD ts ds fs)) (DM q6 ν) := fun q6 => h ts ds fs q6 T
    cases ee : PyData.eqvAll (pInts (openL ts fs)) [] with
    | false => exact .inr ⟨rfl, keep_dr, done q5⟩
    | true =>
      refine .inl ⟨rfl, take6 _ fun v q6 => ?_⟩
      have shv : SeqAt.shaped (.int (v : Int)) = true := rfl
      simp [startR, bodySp, shv]
      split
      · exact ⟨keep_dr, done q6⟩
      refine lc_filt Fct.d Fct.d notNever (by rw [sizeLine_val]; have := T.fl; omega) (fun f hf K1 K2 k1 k2 => ?_) ?_
      · cases f with
        | never t => simp [startR, bodySp, Fct.d]; exact k2 rfl
        | refused w t => simp [startR, bodySp, Fct.d]; exact k1 rfl
        | makes w t => simp [startR, bodySp, Fct.d]; exact k1 rfl
        | keeps w t => simp [startR, bodySp, Fct.d]; exact k1 rfl
      · simp [startR, bodySp]
        refine ⟨keep_dr, h ts ds (fs.filter notNever) q6 ⟨T.t, T.tl, T.dl, Nat.le_trans (List.length_filter_le ..) T.fl, fun f hf => T.each f (List.mem_filter.mp hf).1⟩⟩
/-! the draws' beginning -/
def S__law_begun : ASp := fun ss μ k => ∃ xs : List Int, xs.length < 1000 ∧ μ = [] ∧ ss = [.d (.lst (intL xs))] ∧ ∀ q : Dq, k (.m 1) (DM q [])
theorem p__law_begun {K : Fg} : ∀ ss μ k, S__law_begun ss μ k → bodySpC N__law_begun.length P__law_begun.length (a__law_begun K) ss μ k := by
  rintro ss μ k ⟨xs, hl, rfl, rfl, h⟩
  have c10 : CPow 10 18 := ⟨by decide, by decide, by decide⟩
  have g10 : gI (fun i j => i ^ j.toNat) 10 18 = .int 1000000000000000000 := rfl
  let ab : Int → Int := fun i => if i < 0 then -i else i
  refine ⟨rfl, ?_⟩
  simp [startR, bodySp, a__law_begun, cEnds, intL]
  refine lcC_filt D.int (fun i => .int (ab i - 1000000000000000000)) (fun i => decide (1000000000000000000 ≤ ab i)) (by rw [sizeLine_val]; omega) (fun i hi K1 K2 k1 k2 => ?_) ?_
  · simp [startR, bodySp, c10, g10]
    show if 1000000000000000000 ≤ ab i then _ else _
    by_cases c : 1000000000000000000 ≤ ab i
    · rw [if_pos c]; exact k1 (decide_eq_true c)
    · rw [if_neg c]; exact k2 (decide_eq_false c)
  · simp [startR, bodySp]
    refine lc_facts D.int (fun i => .int (ab i)) (by rw [sizeLine_val]; omega) (fun i hi K1 K2 k1 => ?_) ?_
    · simp [startR, bodySp]
      exact k1
    · have := h ⟨((xs.filter fun i => decide (1000000000000000000 ≤ ab i)).map fun i => ab i - 1000000000000000000), 0, xs.map ab, 0⟩
      have e1 : dr0 ((xs.filter fun i => decide (1000000000000000000 ≤ ab i)).map fun i => ab i - 1000000000000000000) = .lst ((xs.filter fun i => decide (1000000000000000000 ≤ ab i)).map (Sl.d ∘ fun i => D.int (ab i - 1000000000000000000))) := by
        unfold dr0
        rw [List.map_map]
        rfl
      have e2 : intL (xs.map ab) = xs.map fun i => D.int (ab i) := by
        unfold intL
        rw [List.map_map]
        rfl
      rw [DM_eq, e1] at this
      unfold dr1 at this
      rw [e2] at this
      exact this
end K01
namespace K01
open PySem PySem.Spec PyProof.Rows L2 Ww
/-! k01: the plain law -/
theorem perm_map {α β : Type} (f : α → β) {x y : List β} (h : x.Perm y) : ∀ l : List α, y = l.map f → ∃ m : List α, m.Perm l ∧ x = m.map f := by
  induction h with
  | nil => intro l e; cases l with
    | nil => exact ⟨[], .refl _, rfl⟩
    | cons _ _ => cases e
  | cons a h ih => intro l e; cases l with
    | nil => cases e
    | cons b r =>
      injection e with e1 e2
      obtain ⟨m, hm, rfl⟩ := ih r e2
      exact ⟨b :: m, hm.cons b, by rw [e1]; rfl⟩
  | swap a b r => intro l e; match l, e with
    | c :: d :: r', e =>
      injection e with e1 e2
      injection e2 with e2 e3
      exact ⟨d :: c :: r', .swap c d r', by rw [e1, e2, e3]; rfl⟩
  | trans h1 h2 i1 i2 =>
    intro l e
    obtain ⟨m, hm, e2⟩ := i2 l e
    obtain ⟨m', hm', e3⟩ := i1 m e2
    exact ⟨m', hm'.trans hm, e3⟩
def deedP : Option Str → PyData
  | some w => .str w
  | none => .none
def wP (x : Wld) : PyData := .tuple [.int x.1, deedP x.2.1, .int x.2.2]
theorem wD_py (x : Wld) : toPy (wD x) = some (wP x) := by
  obtain ⟨a, o, b⟩ := x
  cases o <;> simp [wD, wP, deedD, deedP]
theorem wP_lay {ds : List Str} (hd : OkW ds) {x : Wld} (W : WOk ds x) : (wP x).canLay0 = true ∧ (wP x).depth ≤ 63 := by
  obtain ⟨a, o, b⟩ := x
  cases o with
  | none => exact ⟨by simp [wP, deedP, PyData.canLay0, PyData.canLayAll0], by simp [wP, deedP, PyData.depth, PyData.depthAll]⟩
  | some w => exact ⟨by simp [wP, deedP, PyData.canLay0, PyData.canLayAll0, hd w (W.w w rfl)], by simp [wP, deedP, PyData.depth, PyData.depthAll]⟩
theorem wP_eqv (x y : Wld) : PyData.eqv (wP x) (wP y) = decide (x = y) := by
  obtain ⟨a, o, b⟩ := x
  obtain ⟨c, p, d⟩ := y
  have i1 : ∀ m n : Nat, PyData.eqv (.int (m : Int)) (.int (n : Int)) = decide (m = n) := fun m n => by
    show decide ((m : Int) = (n : Int)) = _
    rw [Bool.eq_iff_iff, decide_eq_true_iff, decide_eq_true_iff]
    omega
  show (PyData.eqv (.int (a : Int)) (.int (c : Int)) && (PyData.eqv (deedP o) (deedP p) && (PyData.eqv (.int (b : Int)) (.int (d : Int)) && true))) = _
  rw [i1, i1]
  have i2 : PyData.eqv (deedP o) (deedP p) = decide (o = p) := by
    cases o with
    | none => cases p <;> rfl
    | some v => cases p with
      | none => rfl
      | some w =>
        show (v == w) = decide (some v = some w)
        rw [Bool.eq_iff_iff, decide_eq_true_iff, beq_iff_eq]
        simp
  rw [i2, Bool.eq_iff_iff]
  simp
theorem any_wP (l : List Wld) (x : Wld) : ((l.map wP).any fun z => PyData.eqv z (wP x)) = decide (x ∈ l) := by
  rw [List.any_map, Bool.eq_iff_iff, List.any_eq_true, decide_eq_true_iff]
  constructor
  · rintro ⟨y, hy, e⟩
    have : PyData.eqv (wP y) (wP x) = true := e
    rw [wP_eqv, decide_eq_true_iff] at this
    rw [← this]; exact hy
  · intro h
    exact ⟨x, h, by show PyData.eqv (wP x) (wP x) = true; rw [wP_eqv]; simp⟩
theorem eqv_wL : ∀ l m : List Wld, PyData.eqvAll (l.map wP) (m.map wP) = decide (l = m)
  | [], [] => rfl
  | [], _ :: _ => rfl
  | _ :: _, [] => rfl
  | x :: l, y :: m => by
    have ih := eqv_wL l m
    show (PyData.eqv (wP x) (wP y) && PyData.eqvAll (l.map wP) (m.map wP)) = _
    rw [ih, wP_eqv]
    by_cases h1 : x = y <;> by_cases h2 : l = m <;> simp [h1, h2]
theorem wP_list {ts ds : List Str} (hd : OkW ds) (h1 : ts.length ≤ 3) (fs : List Fct) : toPys ((keptL ts ds fs).map wD) = some ((keptL ts ds fs).map wP) ∧ SeqAt.shaped (.list ((keptL ts ds fs).map wP)) = true :=
  ⟨pys_map wD_py _, shaped_list fun x hx => wP_lay hd (worlds_ok h1 x (List.mem_filter.mp hx).1)⟩
/-! what a world keeps -/
theorem keeps_stay (ts : List Str) (f : Fct) (a : Nat) : keepsW ts f (a, none, a) = !f.barsA ts a := by
  cases f with
  | never t => show (!t.val ts a && !t.val ts a) = !t.val ts a; rw [Bool.and_self]
  | _ => rfl
theorem keeps_step (ts : List Str) (f : Fct) (a b : Nat) (w : Str) : keepsW ts f (a, some w, b) = !barB ts f a w b := by
  cases f with
  | never t => show (!t.val ts a && !t.val ts b) = !(t.val ts a || t.val ts b || false); cases t.val ts a <;> cases t.val ts b <;> rfl
  | _ => rfl
theorem mem_worlds_stay {ts ds : List Str} {a b : Nat} : ((a, none, b) : Wld) ∈ worldsL ts ds ↔ a < 2 ^ ts.length ∧ b = a := by
  constructor
  · intro h
    obtain ⟨c, hc, h⟩ := List.mem_flatMap.mp h
    rcases List.mem_cons.mp h with e | h
    · cases e; exact ⟨List.mem_range.mp hc, rfl⟩
    · obtain ⟨w, _, h⟩ := List.mem_flatMap.mp h
      obtain ⟨_, _, e⟩ := List.mem_map.mp h
      cases e
  · rintro ⟨h, rfl⟩
    exact List.mem_flatMap.mpr ⟨b, List.mem_range.mpr h, List.mem_cons_self⟩
theorem mem_worlds_step {ts ds : List Str} {a b : Nat} {w : Str} : ((a, some w, b) : Wld) ∈ worldsL ts ds ↔ a < 2 ^ ts.length ∧ b < 2 ^ ts.length ∧ w ∈ ds := by
  constructor
  · intro h
    obtain ⟨c, hc, h⟩ := List.mem_flatMap.mp h
    rcases List.mem_cons.mp h with e | h
    · cases e
    · obtain ⟨v, hv, h⟩ := List.mem_flatMap.mp h
      obtain ⟨d, hd, e⟩ := List.mem_map.mp h
      cases e
      exact ⟨List.mem_range.mp hc, List.mem_range.mp hd, hv⟩
  · rintro ⟨h1, h2, h3⟩
    exact List.mem_flatMap.mpr ⟨a, List.mem_range.mpr h1, List.mem_cons_of_mem _ (List.mem_flatMap.mpr ⟨w, h3, List.mem_map.mpr ⟨b, List.mem_range.mpr h2, rfl⟩⟩)⟩
theorem all_stay (ts : List Str) (fs : List Fct) (a : Nat) : (fs.all fun f => keepsW ts f (a, none, a)) = openA ts fs a := by
  unfold openA
  rw [List.not_any_eq_all_not]
  congr 1
  funext f
  exact keeps_stay ts f a
theorem all_step (ts : List Str) (fs : List Fct) (a b : Nat) (w : Str) : (fs.all fun f => keepsW ts f (a, some w, b)) = (barOf ts fs a w b).isNone := by
  have e : (barOf ts fs a w b).isNone = !(fs.any fun f => barB ts f a w b) := by
    unfold barOf
    rw [← Option.not_isSome, List.findIdx?_isSome]
    rfl
  rw [e, List.not_any_eq_all_not]
  congr 1
  funext f
  exact keeps_step ts f a b w
theorem kept_stay {ts ds : List Str} {fs : List Fct} {a : Nat} : ((a, none, a) : Wld) ∈ keptL ts ds fs ↔ a ∈ openL ts fs := by
  unfold keptL openL
  rw [List.mem_filter, List.mem_filter, mem_worlds_stay, List.mem_range, all_stay]
  simp
theorem kept_step {ts ds : List Str} {fs : List Fct} {a b : Nat} {w : Str} (hw : w ∈ ds) (ha : a < 2 ^ ts.length) : ((a, some w, b) : Wld) ∈ keptL ts ds fs ↔ b ∈ lotL ts fs a w := by
  unfold keptL lotL
  rw [List.mem_filter, List.mem_filter, mem_worlds_step, List.mem_range, all_step]
  simp [hw, ha]
theorem bar_open {ts : List Str} {f : Fct} {a b : Nat} {w : Str} (h : barB ts f a w b = false) : f.barsA ts a = false ∧ f.barsS ts a w b = false := by
  unfold barB at h
  simp at h
  exact ⟨h.1.1, h.2⟩
theorem lot_open {ts ds : List Str} {fs : List Fct} {a b : Nat} {w : Str} (h : (barOf ts fs a w b).isNone = true) : openA ts fs a = true := by
  rw [← all_step, List.all_eq_true] at h
  rw [← all_stay, List.all_eq_true]
  intro f hf
  rw [keeps_stay, (bar_open (b := b) (w := w) (by have := h f hf; rw [keeps_step] at this; simpa using this)).1]
  rfl
/-! the answers -/
theorem law_open_atoms (ts ds : List Str) (fs : List Fct) : ((List.range (2 ^ ts.length)).filter fun a : Nat => decide (((a, none, a) : Wld) ∈ keptL ts ds fs)) = openL ts fs := by
  unfold openL
  refine List.filter_congr fun a ha => ?_
  rw [Bool.eq_iff_iff, decide_eq_true_iff, kept_stay]
  unfold openL
  rw [List.mem_filter]
  simp [List.mem_range.mp ha]
theorem law_open_after {ts ds : List Str} (fs : List Fct) {a : Nat} {w : Str} (hw : w ∈ ds) (ha : a < 2 ^ ts.length) : ((List.range (2 ^ ts.length)).filter fun b : Nat => decide (((a, some w, b) : Wld) ∈ keptL ts ds fs)) = lotL ts fs a w := by
  unfold lotL
  refine List.filter_congr fun b hb => ?_
  rw [Bool.eq_iff_iff, decide_eq_true_iff, kept_step hw ha]
  unfold lotL
  rw [List.mem_filter]
  simp [List.mem_range.mp hb]
/-- the numbers of the facts that bar -/
def brokenL (ts : List Str) (fs : List Fct) (x : Wld) : List Nat := (List.range fs.length).filter fun i => match fs[i]? with
  | some f => !keepsW ts f x
  | none => false
theorem law_barring (ts : List Str) (fs : List Fct) (a b : Nat) (w : Str) : barOf ts fs a w b = (brokenL ts fs (a, some w, b))[0]? := by
  have e : ∀ (i : Nat) (f : Fct), fs[i]? = some f → (!keepsW ts f (a, some w, b)) = (f.barsA ts a || f.barsA ts b || f.barsS ts a w b) := fun i f _ => by
    rw [keeps_step, Bool.not_not]; rfl
  unfold barOf brokenL
  rw [← List.head?_eq_getElem?, List.head?_filter]
  cases q : fs.findIdx? fun f => f.barsA ts a || f.barsA ts b || f.barsS ts a w b with
  | none =>
    symm
    rw [List.find?_eq_none]
    intro i hi
    obtain ⟨f, hf⟩ : ∃ f, fs[i]? = some f := ⟨fs[i]'(List.mem_range.mp hi), by simp [List.mem_range.mp hi]⟩
    have := List.findIdx?_eq_none_iff.mp q f (List.mem_of_getElem? hf)
    rw [hf]
    show ¬ (!keepsW ts f _) = true
    rw [e i f hf, this]
    simp
  | some i =>
    obtain ⟨hi, h1, h2⟩ := List.findIdx?_eq_some_iff_getElem.mp q
    symm
    have hf : fs[i]? = some fs[i] := by simp [hi]
    rw [List.find?_eq_some_iff_append]
    refine ⟨?_, List.range i, (List.range (fs.length - (i + 1))).map (· + (i + 1)), ?_, ?_⟩
    · rw [hf]
      show (!keepsW ts fs[i] _) = true
      rw [e i _ hf]; exact h1
    · have e2 : fs.length = i + (fs.length - (i + 1) + 1) := by omega
      conv => lhs; rw [e2]
      rw [List.range_add, List.range_succ_eq_map]
      simp [List.map_map, Function.comp_def]
      intro x _
      omega
    · intro j hj
      have hj := List.mem_range.mp hj
      have hg : fs[j]? = some (fs[j]'(by omega)) := by simp [show j < fs.length by omega]
      have := h2 j hj
      rw [hg]
      show (!(!keepsW ts _ _)) = true
      rw [e j _ hg]
      simpa using this
theorem lot_openB {ts ds : List Str} {fs : List Fct} {a b : Nat} {w : Str} (h : (barOf ts fs a w b).isNone = true) : openA ts fs b = true := by
  rw [← all_step, List.all_eq_true] at h
  rw [← all_stay, List.all_eq_true]
  intro f hf
  have z : barB ts f a w b = false := by have := h f hf; rw [keeps_step] at this; simpa using this
  unfold barB at z
  simp at z
  rw [keeps_stay, z.1.2]
  rfl
theorem open_mem {ts : List Str} {fs : List Fct} {a : Nat} : a ∈ openL ts fs ↔ a < 2 ^ ts.length ∧ openA ts fs a = true := by
  unfold openL
  rw [List.mem_filter, List.mem_range]
theorem kept_open {ts ds : List Str} {fs : List Fct} {a b : Nat} {w : Str} (h : ((a, some w, b) : Wld) ∈ keptL ts ds fs) : w ∈ ds ∧ a ∈ openL ts fs ∧ b ∈ openL ts fs ∧ b ∈ lotL ts fs a w := by
  have h0 := h
  unfold keptL at h
  rw [List.mem_filter, mem_worlds_step, all_step] at h
  obtain ⟨⟨h1, h2, h3⟩, h4⟩ := h
  exact ⟨h3, open_mem.mpr ⟨h1, lot_open (ds := ds) h4⟩, open_mem.mpr ⟨h2, lot_openB (ds := ds) h4⟩, (kept_step h3 h1).mp h0⟩
theorem follows_step {ts ds : List Str} {fs : List Fct} {f : Fct} {v : Str} (hv : v ∈ ds) (hA : ∀ a : Int, f.barsA ts a = false) (hS : ∀ (a b : Int) (w : Str), w ≠ v → f.barsS ts a w b = false) :
    ((keptL ts ds fs).all fun x => keepsW ts f x) = (openL ts fs).all fun a => !(lotL ts fs a v).any fun b => f.barsS ts a v b := by
  have hB : ∀ (a b : Nat) (w : Str), keepsW ts f (a, some w, b) = !f.barsS ts a w b := fun a b w => by
    rw [keeps_step]; unfold barB; rw [hA, hA]; rfl
  rw [Bool.eq_iff_iff, List.all_eq_true, List.all_eq_true]
  constructor
  · intro h a ha
    rw [Bool.not_eq_true', List.any_eq_false]
    intro b hb
    have := h _ ((kept_step hv (open_mem.mp ha).1).mpr hb)
    rw [hB] at this
    simpa using this
  · rintro h ⟨a, o, b⟩ hx
    cases o with
    | none =>
      have hx' := hx
      unfold keptL at hx
      rw [List.mem_filter, mem_worlds_stay] at hx
      obtain ⟨⟨_, rfl⟩, _⟩ := hx
      rw [keeps_stay, hA]; rfl
    | some w =>
      obtain ⟨h1, h2, h3, h4⟩ := kept_open hx
      rw [hB]
      by_cases e : w = v
      · subst e
        have := h a h2
        rw [Bool.not_eq_true', List.any_eq_false] at this
        have := this b h4
        simpa using this
      · rw [hS _ _ _ e]; rfl
theorem law_follows {ts ds : List Str} {fs : List Fct} {f : Fct} (ho : f.over ts ds) : ((keptL ts ds fs).all fun x => keepsW ts f x) = keptB ts ds fs f := by
  cases f with
  | never t =>
    show _ = !(openL ts fs).any fun a => t.val ts a
    rw [Bool.eq_iff_iff, List.all_eq_true, Bool.not_eq_true', List.any_eq_false]
    constructor
    · intro h a ha
      have := h _ (kept_stay.mpr ha)
      rw [keeps_stay] at this
      simpa [Fct.barsA] using this
    · rintro h ⟨a, o, b⟩ hx
      show (!t.val ts a && !t.val ts b) = true
      have both : a ∈ openL ts fs ∧ b ∈ openL ts fs := by
        cases o with
        | none =>
          have hx' := hx
          unfold keptL at hx
          rw [List.mem_filter, mem_worlds_stay] at hx
          obtain ⟨⟨_, rfl⟩, _⟩ := hx
          exact ⟨kept_stay.mp hx', kept_stay.mp hx'⟩
        | some w => exact ⟨(kept_open hx).2.1, (kept_open hx).2.2.1⟩
      have h1 := h a both.1
      have h2 := h b both.2
      simp at h1 h2
      rw [h1, h2]; rfl
  | refused v t => exact follows_step ho.1 (fun _ => rfl) fun a b w e => by show (v == w && _) = false; rw [beq_eq_false_iff_ne.mpr (Ne.symm e)]; rfl
  | makes v t => exact follows_step ho.1 (fun _ => rfl) fun a b w e => by show (v == w && _) = false; rw [beq_eq_false_iff_ne.mpr (Ne.symm e)]; rfl
  | keeps v t => exact follows_step ho.1 (fun _ => rfl) fun a b w e => by show (v == w && _) = false; rw [beq_eq_false_iff_ne.mpr (Ne.symm e)]; rfl
/-- the worlds of all facts are those of the others, seen by this one -/
theorem kept_less (ts ds : List Str) (fs : List Fct) (i : Nat) (f : Fct) (h : fs[i]? = some f) : keptL ts ds fs = (keptL ts ds (less fs i)).filter fun x => keepsW ts f x := by
  obtain ⟨hi, e⟩ := List.getElem?_eq_some_iff.mp h
  have efs : fs = fs.take i ++ f :: fs.drop (i + 1) := by
    rw [← e]; exact (List.take_append_drop i fs).symm.trans (by rw [List.drop_eq_getElem_cons hi])
  unfold keptL
  rw [List.filter_filter]
  refine List.filter_congr fun x _ => ?_
  conv => lhs; rw [efs]
  rw [List.all_append, List.all_cons]
  unfold less
  rw [List.all_append]
  cases (fs.take i).all fun f => keepsW ts f x <;> cases keepsW ts f x <;> simp
theorem filter_self {α : Type} [DecidableEq α] (l : List α) (p : α → Bool) : decide (l = l.filter p) = l.all p := by
  rw [Bool.eq_iff_iff, decide_eq_true_iff, List.all_eq_true]
  constructor
  · intro h x hx
    rw [h] at hx
    exact (List.mem_filter.mp hx).2
  · intro h
    exact (List.filter_eq_self.mpr h).symm
theorem law_needless {ts ds : List Str} {fs : List Fct} {i : Nat} {f : Fct} (h : fs[i]? = some f) (ho : f.over ts ds) : decide (keptL ts ds (less fs i) = keptL ts ds fs) = keptB ts ds (less fs i) f := by
  rw [kept_less ts ds fs i f h, filter_self, law_follows ho]
theorem law_same (ts ds : List Str) (fs gs : List Fct) : decide (keptL ts ds gs = keptL ts ds fs) = sameB ts ds fs gs := by
  rw [Bool.eq_iff_iff, decide_eq_true_iff]
  unfold sameB
  rw [Bool.and_eq_true, decide_eq_true_iff, List.all_eq_true]
  constructor
  · intro h
    have e1 : openL ts fs = openL ts gs := by
      rw [← law_open_atoms ts ds fs, ← law_open_atoms ts ds gs, h]
    refine ⟨e1, fun a ha => ?_⟩
    rw [List.all_eq_true]
    intro w hw
    rw [decide_eq_true_iff, ← law_open_after fs hw (open_mem.mp ha).1, ← law_open_after gs hw (open_mem.mp ha).1, h]
  · rintro ⟨e1, h⟩
    unfold keptL
    refine List.filter_congr fun x hx => ?_
    obtain ⟨a, o, b⟩ := x
    cases o with
    | none =>
      obtain ⟨_, rfl⟩ := mem_worlds_stay.mp hx
      rw [all_stay, all_stay]
      have q : ∀ fs : List Fct, openA ts fs b = decide (b ∈ openL ts fs) := fun fs => by
        rw [Bool.eq_iff_iff, decide_eq_true_iff, open_mem]
        simp [(mem_worlds_stay.mp hx).1]
      rw [q, q, e1]
    | some w =>
      obtain ⟨h1, h2, h3⟩ := mem_worlds_step.mp hx
      rw [all_step, all_step]
      have q : ∀ fs : List Fct, (barOf ts fs a w b).isNone = decide (b ∈ lotL ts fs a w) := fun fs => by
        rw [Bool.eq_iff_iff, decide_eq_true_iff]
        unfold lotL
        rw [List.mem_filter, List.mem_range]
        simp [h2]
      by_cases ha : a ∈ openL ts fs
      · have z := h a ha
        rw [List.all_eq_true] at z
        have z := z w h3
        rw [decide_eq_true_iff] at z
        rw [q, q, z]
      · have ha2 : a ∉ openL ts gs := by rw [← e1]; exact ha
        have c : ∀ fs : List Fct, a ∉ openL ts fs → (barOf ts fs a w b).isNone = false := fun fs ha => by
          cases z : (barOf ts fs a w b).isNone
          · rfl
          · exact absurd (open_mem.mpr ⟨h1, lot_open (ds := ds) z⟩) ha
        rw [c fs ha, c gs ha2]
end K01
namespace K01
open PySem PySem.Spec PyProof.Rows L2 Ww
/-! k01: the law's heart -/
theorem TL.more {n m : Nat} {ts ds : List Str} {fs gs : List Fct} (h : TL n ts ds fs) (hg : ∀ f ∈ gs, Small ts ds f) (hl : fs.length + gs.length ≤ m) : TL m ts ds (fs ++ gs) :=
  ⟨h.t, h.tl, h.dl, by rw [List.length_append]; exact hl, fun f hf => (List.mem_append.mp hf).elim (h.each f) (hg f)⟩
theorem ok_pair {x : D} {p : PyData} (h : toPy x = some p) (hl : p.canLay0 = true) (hd : p.depth ≤ 62) : okD (.lst [x, x]) := by
  refine ⟨.list [p, p], by simp [h], ?_, ?_⟩
  · simp [PyData.canLay0, PyData.canLayAll0, hl]
  · simp [PyData.depth, PyData.depthAll]; omega
theorem ok_ints (l : List Nat) : okD (.lst [.tup (intsD l), .tup (intsD l)]) :=
  ok_pair (p := .tuple (pInts l)) (by show (toPys _).map _ = _; rw [py_ints]; rfl) (SeqAt.canLay_of_shaped (sh_ints l)) (by
    show PyData.depthAll (pInts l) + 1 ≤ 62
    have := depth_map (p := fun a : Nat => PyData.int (a : Int)) (n := 0) (l := l) fun x _ => by simp [PyData.depth]
    show PyData.depthAll (l.map _) + 1 ≤ 62
    omega)
theorem kinds_intsD : ∀ l : List Nat, (kindsR (intsD l)).length = l.length
  | [] => rfl
  | a :: l => by
    show (kindsR (intsD l) ++ kinds (.int a)).length = _
    rw [List.length_append, kinds_intsD l]
    rfl
theorem kn_ints (l : List Nat) (h : l.length ≤ 1000) : (kinds (.lst [.tup (intsD l), .tup (intsD l)])).length ≤ 100000 := by
  simp [kinds, kindsR, kinds_intsD]
  omega
theorem ok_bl (b : Bool) : okD (.lst [.bl b, .bl b]) := ok_pair (p := .bool b) rfl rfl (by simp [PyData.depth])
theorem kn_bl (b : Bool) : (kinds (.lst [.bl b, .bl b])).length ≤ 100000 := by simp [kinds, kindsR]
theorem ok_opt (o : Option Nat) : okD (.lst [optD o, optD o]) := by
  cases o with
  | none => exact ok_pair (p := .none) rfl rfl (by simp [PyData.depth])
  | some i => exact ok_pair (p := .int i) rfl rfl (by simp [PyData.depth])
theorem kn_opt (o : Option Nat) : (kinds (.lst [optD o, optD o])).length ≤ 100000 := by cases o <;> simp [optD, kinds, kindsR]
theorem in_kept {ts ds : List Str} {fs : List Fct} (hd : OkW ds) (h1 : ts.length ≤ 3) {x : Wld} (W : WOk ds x) {k : Sl → Mu → Prop} {μ : Mu} (h : k (.d (.bl (decide (x ∈ keptL ts ds fs)))) μ) : fIn false (wD x) (.lst ((keptL ts ds fs).map wD)) k μ := by
  obtain ⟨g1, g2⟩ := wP_list hd h1 fs
  refine in_py (wD_py x) g1 ?_ g2 ?_
  · obtain ⟨c1, c2⟩ := wP_lay hd W
    show ((wP x).canLay0 && decide ((wP x).depth ≤ 64)) = true
    rw [c1, decide_eq_true (by omega)]; rfl
  · rw [any_wP]
    exact h
/-- what the law's heart knows of its tongue -/
structure Hrt (ts ds : List Str) (fs : List Fct) : Prop where
  T : TL 8 ts ds fs
def S__law_right : ASp := fun ss μ k => ∃ (q : Dq) (ν : Mu), ss = [.m 1] ∧ μ = DM q ν ∧ ∀ q' : Dq, k (.d (.bl true)) (DM q' ν)
theorem says_ints {l : List Nat} {μ : Mu} {k : Sl → Mu → Prop} (hl : l.length ≤ 1000) (h : k (.d (.bl true)) μ) : S__law_says [.d (.lst [.tup (intsD l), .tup (intsD l)]), .d (.lst [.tup (intsD l), .tup (intsD l)])] μ k := ⟨_, ok_ints l, kn_ints l hl, rfl, h⟩
theorem says_bl {b : Bool} {μ : Mu} {k : Sl → Mu → Prop} (h : k (.d (.bl true)) μ) : S__law_says [.d (.lst [.bl b, .bl b]), .d (.lst [.bl b, .bl b])] μ k := ⟨_, ok_bl b, kn_bl b, rfl, h⟩
theorem says_opt {o : Option Nat} {μ : Mu} {k : Sl → Mu → Prop} (h : k (.d (.bl true)) μ) : S__law_says [.d (.lst [optD o, optD o]), .d (.lst [optD o, optD o])] μ k := ⟨_, ok_opt o, kn_opt o, rfl, h⟩
/-- [.. for at, x in enumerate(l) if ..] -/
def numF {α : Type} (l : List α) (c : Nat → α → Bool) (g : Nat → α → D) (i : Nat) : Option D := match l[i]? with
  | some x => if c i x = true then some (g i x) else none
  | none => none
theorem lc_num {u : AT} {ga : AG} {we : AE} {vs : List Nat} {ρ : Rho} {μ : Mu} {k : Sl → Mu → Prop} {α : Type} {l : List α} (d : α → D) (c : Nat → α → Bool) (g : Nat → α → D) (hl : l.length < sizeLine)
    (ht : ∀ i x, l[i]? = some x → ∀ (K1 : Sl → Mu → Prop) (K2 : Mu → Prop), (c i x = true → K1 (.d (g i x)) μ) → (c i x = false → K2 μ) → ga (.d (.tup [.int i, d x])) (wipeR ρ vs) μ fun ρ2 μ2 => u ρ2 μ2 fun z μ3 => if z = true then aFz we ρ2 μ3 K1 else K2 μ3)
    (hk : k (.d (.lst ((List.range l.length).filterMap (numF l c g)))) μ) : lcK ga u we vs ρ k (numbered (l.map d)) μ := by
  refine ⟨fun i acc μ' => μ' = μ ∧ i ≤ l.length ∧ acc = (List.range i).filterMap (numF l c g), ⟨rfl, Nat.zero_le _, by simp⟩, ?_, ?_⟩
  · rintro i y acc μ' hd ⟨rfl, hi, rfl⟩
    obtain ⟨z, hz, rfl⟩ := numbered_at hd
    rw [List.getElem?_map] at hz
    obtain ⟨x, hx, rfl⟩ := Option.map_eq_some_iff.mp hz
    have hlt := (List.getElem?_eq_some_iff.mp hx).1
    have len : ((List.range i).filterMap (numF l c g)).length < sizeLine := by
      have := List.length_filterMap_le (numF l c g) (List.range i)
      rw [List.length_range] at this
      omega
    have nx : (List.range (i + 1)).filterMap (numF l c g) = (List.range i).filterMap (numF l c g) ++ (if c i x = true then [g i x] else []) := by
      rw [List.range_succ, List.filterMap_append]
      congr 1
      have : numF l c g i = if c i x = true then some (g i x) else none := by unfold numF; rw [hx]
      rw [List.filterMap_cons, this]
      split <;> simp_all
    refine ht i x hx _ _ (fun ct => ⟨g i x, rfl, len, rfl, hlt, by rw [nx, if_pos ct]⟩) fun cf => ⟨rfl, hlt, by rw [nx, if_neg (by rw [cf]; simp), List.append_nil]⟩
  · rintro acc μ' ⟨rfl, _, rfl⟩
    rw [numbered_len, List.length_map]
    exact hk
theorem broken_num (ts : List Str) (fs : List Fct) (x : Wld) : (List.range fs.length).filterMap (numF fs (fun _ f => !keepsW ts f x) fun i _ => .int i) = intsD (brokenL ts fs x) := by
  unfold brokenL
  generalize List.range fs.length = l
  induction l with
  | nil => rfl
  | cons i r ih =>
    rw [List.filterMap_cons, List.filter_cons]
    cases hf : fs[i]? with
    | none => simpa [numF, hf] using ih
    | some f => cases q : keepsW ts f x <;> simp [numF, hf, q, intsD] <;> simpa [intsD] using ih
theorem filt_empty {α : Type} (l : List α) (p : α → Bool) : (l.filter fun x => !p x).isEmpty = l.all p := by
  rw [Bool.eq_iff_iff, List.isEmpty_iff, List.filter_eq_nil_iff, List.all_eq_true]
  simp
theorem num_facts (fs : List Fct) (c : Nat → Fct → Bool) : ∃ gs : List Fct, (List.range fs.length).filterMap (numF fs c fun _ f => f.d) = gs.map Fct.d ∧ (∀ f ∈ gs, f ∈ fs) ∧ gs.length ≤ fs.length := by
  suffices h : ∀ l : List Nat, ∃ gs : List Fct, l.filterMap (numF fs c fun _ f => f.d) = gs.map Fct.d ∧ (∀ f ∈ gs, f ∈ fs) ∧ gs.length ≤ l.length by
    have := h (List.range fs.length)
    rwa [List.length_range] at this
  intro l
  induction l with
  | nil => exact ⟨[], rfl, by simp, Nat.le_refl _⟩
  | cons i r ih =>
    obtain ⟨gs, h1, h2, h3⟩ := ih
    have skip : numF fs c (fun _ f => f.d) i = none → ∃ gs : List Fct, (i :: r).filterMap (numF fs c fun _ f => f.d) = gs.map Fct.d ∧ (∀ f ∈ gs, f ∈ fs) ∧ gs.length ≤ (i :: r).length := fun e =>
      ⟨gs, by rw [List.filterMap_cons, e]; exact h1, h2, by rw [List.length_cons]; omega⟩
    cases hf : fs[i]? with
    | none => exact skip (by unfold numF; rw [hf])
    | some f =>
      by_cases hc : c i f = true
      · refine ⟨f :: gs, ?_, fun g hg => ?_, by simp; exact h3⟩
        · have e : numF fs c (fun _ f => f.d) i = some f.d := by unfold numF; rw [hf]; exact if_pos hc
          rw [List.filterMap_cons, e, List.map_cons, ← h1]
        · rcases List.mem_cons.mp hg with e | hg
          · rw [e]; exact List.mem_of_getElem? hf
          · exact h2 g hg
      · exact skip (by unfold numF; rw [hf]; exact if_neg hc)
theorem cut_toS {α : Type} (l : List α) (i : Nat) : cut l none (some (i : Int)) = l.take i := by
  by_cases h : i ≤ l.length
  · exact cut_toL l h
  · unfold cut
    rw [HT.sIx_nat, HT.sIx_none, List.drop_zero, Nat.sub_zero, Nat.min_eq_right (by omega), List.take_of_length_le (Nat.le_refl _), List.take_of_length_le (by omega)]
theorem ite_t {c P Q : Prop} {inst : Decidable c} (h : c) (p : P) : @ite Prop c inst P Q := by rw [if_pos h]; exact p
theorem ite_f {c P Q : Prop} {inst : Decidable c} (h : ¬ c) (p : Q) : @ite Prop c inst P Q := by rw [if_neg h]; exact p
theorem new_tongue {C : Addr} {ts ds : List Str} {fs : List Fct} {μ0 : Mu} {k : Sl → Mu → Prop} (T : Tng ts ds fs) (h : k (.d (TD C ts ds (.tpl (fs.map Fct.d)))) μ0) :
    S_init C [.m μ0.length, .d (.lst (ts.map .str)), .d (.lst (ds.map .str)), .d (.lst (fs.map Fct.d))] (μ0 ++ [.ins C [] []]) (made μ0 k) :=
  ⟨ts, ds, fs, _, _, _, μ0, T, .inl rfl, .inl rfl, rfl, rfl, rfl, made_ins (l := [.tpl (ts.map .str), .tpl (ds.map .str), .tpl (fs.map Fct.d)]) h⟩
theorem p__law_right {K : Fg} : ∀ ss μ k, S__law_right ss μ k → bodySp N__law_right.length P__law_right.length (a__law_right K S__law_told S__law_pick S__law_fact S__law_kept (S_init (He.ga K "Tongue")) S__law_atoms S__law_says (S_open_atoms (He.ga K "Tongue")) (S_open_after (He.ga K "Tongue")) S__law_keeps (S_barring (He.ga K "Tongue")) (S_follows (He.ga K "Tongue")) (S_needless (He.ga K "Tongue")) S__law_shuffled (S_same_facts (He.ga K "Tongue"))) ss μ k := by
  rintro ss μ k ⟨q, ν, rfl, rfl, h⟩
  refine ⟨rfl, ?_⟩
  unfold a__law_right
  refine step1 fun N1 e1 => ?_
  simp [startR, bodySp]
  refine ⟨q, ν, rfl, rfl, fun ts ds fs0 q1 T0 => ?_⟩
  simp [startR, bodySp]
  rw [e1]
  refine step1 fun N2 e2 => ?_
  simp [startR, bodySp]
  refine ⟨q1, ν, _, _, rfl, by simp, by simp, rfl, rfl, fun x hx q2 => ?_⟩
  obtain ⟨n, rfl, hn⟩ : ∃ n : Nat, x = .int n ∧ n ≤ 4 := by
    have : x = .int 0 ∨ x = .int 1 ∨ x = .int 4 := by simpa using hx
    rcases this with e | e | e
    · exact ⟨0, e, by omega⟩
    · exact ⟨1, e, by omega⟩
    · exact ⟨4, e, by omega⟩
  have dne : ds ≠ [] := fun e => by have := T0.dl.1; rw [e] at this; simp at this
  have h3 := T0.tl
  have h4 := T0.dl.2
  simp [startR, bodySp]
  refine ⟨by omega, fun i acc μ' => ∃ (q : Dq) (fs : List Fct), acc = fs.map Fct.d ∧ μ' = DM q ν ∧ fs.length = i ∧ i ≤ n ∧ ∀ f ∈ fs, Small ts ds f, ⟨q2, [], rfl, rfl, rfl, by omega, by simp⟩, ?_, ?_⟩
  · rintro i d acc μ' hd ⟨q, fs, rfl, rfl, hl, hin, hs⟩
    rw [List.getElem?_map] at hd
    obtain ⟨j, hj, rfl⟩ := Option.map_eq_some_iff.mp hd
    have hlt := (List.getElem?_eq_some_iff.mp hj).1
    rw [List.length_range] at hlt
    simp [startR, bodySp, wipeR]
    refine ⟨q, ν, ts, ds, by omega, dne, by omega, rfl, rfl, fun f q' hf => ?_⟩
    simp [startR, bodySp]
    refine ⟨by omega, q', fs ++ [f], by simp, ⟨rfl, rfl⟩, by simp [hl], by omega, fun g hg => ?_⟩
    rcases List.mem_append.mp hg with hg | hg
    · exact hs g hg
    · rw [List.mem_singleton.mp hg]; exact hf
  rintro acc μ' ⟨q3, fs1, rfl, rfl, hl1, _, hs1⟩
  rw [List.length_map, List.length_range] at hl1
  have T : TL 8 ts ds (fs0 ++ fs1) := T0.more hs1 (by have := T0.fl; omega)
  obtain ⟨fs, hfs⟩ : ∃ fs, fs = fs0 ++ fs1 := ⟨_, rfl⟩
  have el : fs0.map Fct.d ++ fs1.map Fct.d = fs.map Fct.d := by rw [hfs, List.map_append]
  have fl0 := T0.fl
  simp [startR, bodySp, el]
  refine ⟨by omega, ?_⟩
  rw [← hfs] at T
  have fold : D.tup [.lst (ts.map .str), .lst (ds.map .str), .lst (fs.map Fct.d)] = ToldD ts ds fs := rfl
  rw [fold, e2]
  clear el hfs hs1 hl1 hn T0 fl0 e1 e2
  clear fs0 fs1
  refine step1 fun N3 e3 => ?_
  have F := (T.tng (by omega)).fok
  have okd := F.okd
  have h8 := T.fl
  simp [startR, bodySp]
  refine new_tongue (μ0 := DM q3 ν) (T.tng (by omega)) ?_
  refine ⟨ts, ds, fs, fs, h3, by omega, by omega, F.each, rfl, ?_⟩
  simp [startR, bodySp]
  rw [e3]
  have p8 := pow8 h3
  have isT0 : isT (.tpl (fs.map Fct.d)) (fs.map Fct.d) := .inr rfl
  obtain ⟨tg, htg⟩ : ∃ tg, tg = TD (He.ga K "Tongue") ts ds (.tpl (fs.map Fct.d)) := ⟨_, rfl⟩
  obtain ⟨kp, hkp⟩ : ∃ kp, kp = D.lst ((keptL ts ds fs).map wD) := ⟨_, rfl⟩
  rw [← htg, ← hkp]
  have nkp : nrm kp = kp := by rw [hkp]; rfl
  have inK : ∀ {x : Wld} {k : Sl → Mu → Prop} {μ : Mu}, WOk ds x → k (.d (.bl (decide (x ∈ keptL ts ds fs)))) μ → fIn false (wD x) kp k μ := fun W h => by rw [hkp]; exact in_kept okd h3 W h
  have ra : ∀ a : Nat, a < 2 ^ ts.length → a < 8 := fun a ha => by omega
  clear e3
  refine step1 fun N4 e4 => ?_
  simp [startR, bodySp]
  refine ⟨ts, _, h3, rfl, ?_⟩
  simp [startR, bodySp, intsD]
  refine lc_filt (fun a : Nat => .int a) (fun a : Nat => .int a) (fun a : Nat => decide (((a, none, a) : Wld) ∈ keptL ts ds fs)) (by rw [sizeLine_val, List.length_range]; omega) (fun a ha K1 K2 k1 k2 => ?_) ?_
  · have ha := ra a (List.mem_range.mp ha)
    simp [startR, bodySp, nkp]
    refine inK (x := (a, none, a)) ⟨ha, ha, fun w e => nomatch e⟩ ?_
    by_cases c : ((a, none, a) : Wld) ∈ keptL ts ds fs
    · simp [startR, bodySp, c]
      exact k1 (decide_eq_true c)
    · simp [startR, bodySp, c]
      exact k2 (decide_eq_false c)
  rw [law_open_atoms]
  have fi : (openL ts fs).map (fun a : Nat => D.int a) = intsD (openL ts fs) := rfl
  simp [startR, bodySp, fi]
  rw [e4]
  clear e4
  have lo := open_len (fs := fs) h3
  refine step1 fun N5 e5 => ?_
  simp [startR, bodySp, htg]
  refine ⟨ts, ds, _, fs, F, isT0, rfl, ?_⟩
  simp [startR, bodySp]
  refine ⟨ts, ds, _, fs, F, isT0, rfl, ?_⟩
  simp [startR, bodySp]
  refine says_ints (by omega) ?_
  simp [startR, bodySp]
  rw [e5]
  clear e5
  rw [← htg]
  have eD : D.tup (intsD (openL ts fs)) = D.tup (intsD (openL ts fs)) := rfl
  refine step1 fun N6 e6 => ?_
  simp [startR, bodySp]
  refine for1 (fun i ρ' μ' => ∃ (q' : Dq) (r2 r3 r8 r9 r10 r11 r12 r13 r14 r15 r16 : Option Sl), ρ' = [some (.m 1), some (.d (ToldD ts ds fs)), r2, r3, none, none, some (.d tg), some (.d kp), r8, r9, r10, r11, r12, r13, r14, r15, r16] ∧ μ' = DM q' ν) ⟨q3, _, _, _, _, _, _, _, _, _, _, _, rfl, rfl⟩ ?_ ?_
  · rintro B NX i d ρ' μ' eB hN hd ⟨q4, r2, r3, r8, r9, r10, r11, r12, r13, r14, r15, r16, rfl, rfl⟩
    subst eB
    refine step1 fun M1 m1 => ?_
    have dne2 : ds.map D.str ≠ [] := by simpa using dne
    have pickA : ∀ (q : Dq) (k' : Sl → Mu → Prop), (∀ (a : Nat) (q' : Dq), a < 2 ^ ts.length → k' (.d (.int a)) (DM q' ν)) → S__law_pick [.m 1, .d (.lst (intsD (List.range (2 ^ ts.length))))] (DM q ν) k' := by
      intro q k' hk'
      refine ⟨q, ν, _, _, rfl, ?_, ?_, rfl, rfl, fun x hx q' => ?_⟩
      · intro e
        have := congrArg List.length e
        simp [intsD] at this
      · simp [intsD]; omega
      · obtain ⟨a, ha, rfl⟩ := List.mem_map.mp hx
        exact hk' a q' (List.mem_range.mp ha)
    have pickD : ∀ (q : Dq) (k' : Sl → Mu → Prop), (∀ (w : Str) (q' : Dq), w ∈ ds → k' (.d (.str w)) (DM q' ν)) → S__law_pick [.m 1, .d (.lst (ds.map .str))] (DM q ν) k' := by
      intro q k' hk'
      refine ⟨q, ν, _, _, rfl, dne2, by rw [List.length_map]; omega, rfl, rfl, fun x hx q' => ?_⟩
      obtain ⟨w, hw, rfl⟩ := List.mem_map.mp hx
      exact hk' w q' hw
    simp [startR, bodySp]
    refine ⟨ts, _, h3, rfl, pickA _ _ fun a q5 ha => pickD _ _ fun w q6 hw => ⟨ts, _, h3, rfl, pickA _ _ fun b q7 hb => ?_⟩⟩
    simp [startR, bodySp]
    rw [m1]
    clear m1
    have ha8 := ra a ha
    have hb8 := ra b hb
    refine step1 fun M2 m2 => ?_
    simp [startR, bodySp]
    refine ⟨ts, _, h3, rfl, ?_⟩
    simp [startR, bodySp, intsD]
    refine lc_filt (fun a : Nat => .int a) (fun a : Nat => .int a) (fun y : Nat => decide (((a, some w, y) : Wld) ∈ keptL ts ds fs)) (by rw [sizeLine_val, List.length_range]; omega) (fun y hy K1 K2 k1 k2 => ?_) ?_
    · have hy := ra y (List.mem_range.mp hy)
      simp [startR, bodySp, nkp]
      refine inK (x := (a, some w, y)) ⟨ha8, hy, fun v e => by cases e; exact hw⟩ ?_
      by_cases c : ((a, some w, y) : Wld) ∈ keptL ts ds fs
      · simp [startR, bodySp, c]
        exact k1 (decide_eq_true c)
      · simp [startR, bodySp, c]
        exact k2 (decide_eq_false c)
    rw [law_open_after fs hw ha]
    have fi : (lotL ts fs a w).map (fun a : Nat => D.int a) = intsD (lotL ts fs a w) := rfl
    have ll := lot_len (fs := fs) (a := a) (w := w) h3
    simp [startR, bodySp, fi]
    rw [m2]
    clear m2
    refine step1 fun M3 m3 => ?_
    simp [startR, bodySp, htg]
    refine ⟨ts, ds, _, fs, a, w, F, isT0, ha, hw, rfl, ?_⟩
    simp [startR, bodySp]
    refine ⟨ts, ds, _, fs, a, w, F, isT0, ha, hw, rfl, ?_⟩
    simp [startR, bodySp]
    refine says_ints (by omega) ?_
    simp [startR, bodySp]
    rw [m3, ← htg]
    clear m3
    refine step1 fun M4 m4 => ?_
    simp [startR, bodySp]
    refine lc_num Fct.d (fun _ f => !keepsW ts f (a, some w, b)) (fun i _ => .int i) (by rw [sizeLine_val]; omega) (fun i f hf K1 K2 k1 k2 => ?_) ?_
    · simp [startR, bodySp]
      refine ⟨ts, ds, fs, f, (a, some w, b), F.each f (List.mem_of_getElem? hf), ⟨ha8, hb8, fun v e => by cases e; exact hw⟩, rfl, ?_⟩
      cases c : keepsW ts f (a, some w, b)
      · simp [startR, bodySp]
        exact k1 (by rw [c]; rfl)
      · simp [startR, bodySp]
        exact k2 (by rw [c]; rfl)
    rw [broken_num]
    show M4 _ _
    rw [m4]
    clear m4
    refine step1 fun M5 m5 => ?_
    obtain ⟨bl, hbl⟩ : ∃ bl, bl = brokenL ts fs (a, some w, b) := ⟨_, rfl⟩
    have hbar := law_barring ts fs a b w
    rw [← hbl] at hbar ⊢
    have pyl : toPy (.lst (intsD bl)) = some (.list (pInts bl)) := by
      show (toPys _).map _ = _
      rw [py_ints]; rfl
    have shl : SeqAt.shaped (.list (pInts bl)) = true := shaped_list fun x hx => ⟨rfl, by simp [PyData.depth]⟩
    have five : M5 [some (.m 1), some (.d (ToldD ts ds fs)), some (.d (.tup (intsD (lotL ts fs a w)))), some (.d d), none, none, some (.d tg), some (.d kp), some (.d (.lst (intsD bl))), some (.d (optD (barOf ts fs a w b))), r10, r11, some (.d (.int b)), some (.d (.int a)), some (.d (.str w)), r15, r16] (DM q7 ν) := by
      rw [m5]
      simp [startR, bodySp, htg]
      refine ⟨ts, ds, _, fs, a, b, w, F, isT0, ha, hb, hw, rfl, ?_⟩
      simp [startR, bodySp]
      refine ⟨ts, ds, _, fs, a, b, w, F, isT0, ha, hb, hw, rfl, ?_⟩
      simp [startR, bodySp]
      refine says_opt ?_
      simp [startR, bodySp]
      exact hN _ _ ⟨q7, _, _, _, _, _, _, _, _, _, _, _, by rw [htg], rfl⟩
    rw [hbar] at five
    simp [startR, bodySp, pyl, shl]
    cases bl with
    | nil => exact .inl ⟨rfl, five⟩
    | cons i r => exact .inr ⟨rfl, _, ⟨_, rfl, rfl⟩, five⟩
  rintro ρ' μ' ⟨q4, r2, r3, r8, r9, r10, r11, r12, r13, r14, r15, r16, rfl, rfl⟩
  show N6 _ _
  rw [e6]
  clear e6
  refine step1 fun N7 e7 => ?_
  simp [startR, bodySp]
  refine for1 (fun i ρ' μ' => ∃ (q' : Dq) (r2 r3 r8 r9 r10 r11 r12 r13 r14 r15 r16 : Option Sl), ρ' = [some (.m 1), some (.d (ToldD ts ds fs)), r2, r3, none, none, some (.d tg), some (.d kp), r8, r9, r10, r11, r12, r13, r14, r15, r16] ∧ μ' = DM q' ν) ⟨q4, _, _, _, _, _, _, _, _, _, _, _, rfl, rfl⟩ ?_ ?_
  · rintro B NX i d ρ' μ' eB hN hd ⟨q4, r2, r3, r8, r9, r10, r11, r12, r13, r14, r15, r16, rfl, rfl⟩
    subst eB
    refine step1 fun M1 m1 => ?_
    simp [startR, bodySp]
    refine ⟨q4, ν, ts, ds, h3, dne, by omega, rfl, rfl, fun f0 q5 hf0 => ?_⟩
    simp [startR, bodySp]
    refine ⟨by omega, q5, ν, _, (f0 :: fs).map Fct.d, rfl, by simp, by simp; omega, rfl, rfl, fun x hx q6 => ?_⟩
    obtain ⟨f, hf, rfl⟩ := List.mem_map.mp hx
    have Tf : TOk ts ds f := by
      rcases List.mem_cons.mp hf with e | hf
      · rw [e]; exact hf0.tok T.t h3
      · exact F.each f hf
    rw [m1]
    clear m1
    refine step1 fun M2 m2 => ?_
    simp [startR, bodySp, hkp]
    have kl : (keptL ts ds fs).length < sizeLine := by
      have h1 := List.length_filter_le (fun x => fs.all fun f => keepsW ts f x) (worldsL ts ds)
      have h2 := worlds_len (ds := ds) h3 (by omega) (2 ^ ts.length) p8
      have h3 : (worldsL ts ds).length ≤ 2 ^ ts.length * 33 := h2
      show (List.filter _ _).length < _
      rw [sizeLine_val]; omega
    refine lc_filt wD wD (fun x => !keepsW ts f x) kl (fun x hx K1 K2 k1 k2 => ?_) ?_
    · simp [startR, bodySp]
      refine ⟨ts, ds, fs, f, x, Tf, worlds_ok h3 x (List.mem_filter.mp hx).1, rfl, ?_⟩
      cases c : keepsW ts f x
      · simp [startR, bodySp]
        exact k1 (by rw [c]; rfl)
      · simp [startR, bodySp]
        exact k2 (by rw [c]; rfl)
    obtain ⟨n1, n2⟩ := nil_iff wD_py ((keptL ts ds fs).filter fun x => !keepsW ts f x)
    have sh : SeqAt.shaped (.list (((keptL ts ds fs).filter fun x => !keepsW ts f x).map wP)) = true := shaped_list fun x hx => wP_lay okd (worlds_ok h3 x (List.mem_filter.mp (List.mem_filter.mp hx).1).1)
    have due : ((keptL ts ds fs).filter fun x => !keepsW ts f x).isEmpty = keptB ts ds fs f := by
      rw [← law_follows Tf.over, filt_empty]
    simp [startR, bodySp, n1, n2, sh]
    rw [due, m2]
    clear m2
    simp [startR, bodySp, htg]
    refine ⟨ts, ds, _, fs, f, F, isT0, Tf, rfl, ?_⟩
    simp [startR, bodySp]
    refine ⟨ts, ds, _, fs, f, F, isT0, Tf, rfl, ?_⟩
    simp [startR, bodySp]
    refine says_bl ?_
    simp [startR, bodySp]
    exact hN _ _ ⟨q6, _, _, _, _, _, _, _, _, _, _, _, by rw [htg, hkp], rfl⟩
  rintro ρ' μ' ⟨q4, r2, r3, r8, r9, r10, r11, r12, r13, r14, r15, r16, rfl, rfl⟩
  show N7 _ _
  rw [e7]
  clear e7
  refine step1 fun N8 e8 => ?_
  simp [startR, bodySp]
  rw [e8]
  clear e8
  refine step1 fun N9 e9 => ?_
  simp [startR, bodySp]
  let up : Nat → List Nat := fun n => (List.range n).filter fun i => match fs[i]? with
    | some f => keptB ts ds (less fs i) f
    | none => false
  have ups : up fs.length = spare ts ds fs := rfl
  have intsM : ∀ l : List Nat, Cell.lst ((intsD l).map .d) = Cell.lst (l.map fun i : Nat => Sl.d (D.int i)) := fun l => by unfold intsD; rw [List.map_map]; rfl
  refine for1 (fun i ρ' μ' => ∃ (r2 r3 r8 r9 r10 r11 r12 r13 r14 r15 r16 : Option Sl), ρ' = [some (.m 1), some (.d (ToldD ts ds fs)), r2, r3, some (.m (ν.length + 1 + 1)), none, some (.d tg), some (.d kp), r8, r9, r10, r11, r12, r13, r14, r15, r16] ∧ μ' = DM q4 (ν ++ [Cell.lst ((intsD (up i)).map .d)])) ⟨_, _, _, _, _, _, _, _, _, _, _, rfl, rfl⟩ ?_ ?_
  · rintro B NX i d ρ' μ' eB hN hd ⟨r2, r3, r8, r9, r10, r11, r12, r13, r14, r15, r16, rfl, rfl⟩
    obtain ⟨x, hx, rfl⟩ := numbered_at hd
    rw [List.getElem?_map] at hx
    obtain ⟨f, hf2, rfl⟩ := Option.map_eq_some_iff.mp hx
    obtain ⟨hlt, ef⟩ := List.getElem?_eq_some_iff.mp hf2
    subst eB
    have c1 : cut (fs.map Fct.d) none (some (i : Int)) = (fs.take i).map Fct.d := by rw [cut_to _ (by simpa using hlt), List.map_take]
    have c2 : cut (fs.map Fct.d) (some ((i : Int) + 1)) none = (fs.drop (i + 1)).map Fct.d := by rw [cut_from _ (by simpa using hlt), List.map_drop]
    have cl : (fs.take i).map Fct.d ++ (fs.drop (i + 1)).map Fct.d = (less fs i).map Fct.d := by unfold less; rw [List.map_append]
    have cl2 : List.take i (fs.map Fct.d) ++ List.drop (i + 1) (fs.map Fct.d) = (less fs i).map Fct.d := by rw [← List.map_take, ← List.map_drop, cl]
    have ll : (less fs i).length ≤ 8 := by unfold less; rw [List.length_append, List.length_take, List.length_drop]; omega
    have lsub : ∀ g ∈ less fs i, g ∈ fs := fun g hg => (List.mem_append.mp hg).elim List.mem_of_mem_take List.mem_of_mem_drop
    obtain ⟨g1, g2⟩ := wP_list okd h3 fs
    obtain ⟨g3, g4⟩ := wP_list okd h3 (less fs i)
    have pk : toPy (nrm kp) = some (.list ((keptL ts ds fs).map wP)) := by
      rw [hkp]; show (toPys _).map _ = _; rw [g1]; rfl
    have upx : up (i + 1) = up i ++ (if keptB ts ds (less fs i) f = true then [i] else []) := by
      show (List.range (i + 1)).filter _ = (List.range i).filter _ ++ _
      rw [List.range_succ, List.filter_append]
      congr 1
      rw [List.filter_cons, hf2]
      rfl
    have upl : (up i).length ≤ i := by
      have := List.length_filter_le (fun i => match fs[i]? with | some f => keptB ts ds (less fs i) f | none => false) (List.range i)
      rw [List.length_range] at this
      exact this
    simp [startR, bodySp, c1, c2, cl]
    rw [cl2]
    refine ⟨by omega, ts, ds, fs, less fs i, h3, by omega, by omega, fun g hg => F.each g (lsub g hg), rfl, ?_⟩
    simp [startR, bodySp, g3, g4, pk, g2]
    have law := law_needless hf2 (F.each f (List.mem_of_getElem? hf2)).over
    have ev : PyData.eqvAll ((keptL ts ds (less fs i)).map wP) ((keptL ts ds fs).map wP) = keptB ts ds (less fs i) f := by rw [eqv_wL, law]
    have ev2 : (PyData.list ((keptL ts ds (less fs i)).map wP)).eqv (PyData.list ((keptL ts ds fs).map wP)) = keptB ts ds (less fs i) f := ev
    have z1 : ∀ c : Cell, (dr0 q4.L :: dr1 q4.r q4.cs q4.t :: (ν ++ [c]))[ν.length + 1 + 1]? = some c := fun c => by simp
    have z2 : ∀ c c' : Cell, (dr0 q4.L :: dr1 q4.r q4.cs q4.t :: (ν ++ [c])).set (ν.length + 1 + 1) c' = dr0 q4.L :: dr1 q4.r q4.cs q4.t :: (ν ++ [c']) := fun c c' => by simp
    by_cases c : keptB ts ds (less fs i) f = true
    · refine ite_t (ev.trans c) ?_
      refine ⟨isLst_of (z1 _), by unfold intsD; rw [List.length_map]; omega, ?_⟩
      refine hN _ _ ⟨_, _, _, _, _, _, _, _, _, _, _, rfl, ?_⟩
      rw [upx, if_pos c]
      simp [intsD]
    · refine ite_f (fun z => c (ev.symm.trans z)) ?_
      refine hN _ _ ⟨_, _, _, _, _, _, _, _, _, _, _, rfl, ?_⟩
      rw [upx, if_neg c, List.append_nil]
      rfl
  rintro ρ' μ' ⟨r2, r3, r8, r9, r10, r11, r12, r13, r14, r15, r16, rfl, rfl⟩
  rw [numbered_len, List.length_map, ups]
  show N9 _ _
  rw [e9]
  clear e9
  refine step1 fun N10 e10 => ?_
  have rsp : ∀ q : Dq, rdD (dr0 q.L :: dr1 q.r q.cs q.t :: (ν ++ [Cell.lst ((intsD (spare ts ds fs)).map .d)])) (.m (ν.length + 1 + 1)) = some (.lst (intsD (spare ts ds fs))) := fun q => rd_cell (by simp)
  have spl : (spare ts ds fs).length ≤ 8 := by
    have := List.length_filter_le (fun i => match fs[i]? with | some f => keptB ts ds (less fs i) f | none => false) (List.range fs.length)
    rw [List.length_range] at this
    exact Nat.le_trans this h8
  have Tn := T.tng (by omega)
  simp [startR, bodySp, htg]
  refine ⟨ts, ds, _, fs, Tn, isT0, rfl, ?_⟩
  simp [startR, bodySp]
  refine ⟨ts, ds, _, fs, Tn, isT0, rfl, ?_⟩
  simp [startR, bodySp]
  refine ⟨_, rsp q4, ?_⟩
  simp [startR, bodySp]
  refine says_ints (by omega) ?_
  simp [startR, bodySp]
  rw [e10, ← htg]
  clear e10
  refine step1 fun N11 e11 => ?_
  simp [startR, bodySp]
  obtain ⟨cs, hcs⟩ : ∃ cs, cs = Cell.lst ((intsD (spare ts ds fs)).map .d) := ⟨_, rfl⟩
  rw [← hcs] at rsp ⊢
  refine ⟨q4, ν ++ [cs], _, fs.map Fct.d, rfl, by rw [List.length_map]; omega, fun x hx => ?_, rfl, rfl, fun l' q5 pm => ?_⟩
  · obtain ⟨f, hf, rfl⟩ := List.mem_map.mp hx
    exact ⟨f.py, Fct.toPy f, Fct.lay (F.each f hf)⟩
  obtain ⟨f1, hp1, rfl⟩ := perm_map Fct.d pm fs rfl
  obtain ⟨j0, hj0⟩ : ∃ j0 : Nat, (intsD (spare ts ds fs) ++ [D.int 0])[0]? = some (.int j0) := by
    cases spare ts ds fs with
    | nil => exact ⟨0, rfl⟩
    | cons i r => exact ⟨i, rfl⟩
  refine lc_num Fct.d (fun i _ => decide (i ≠ j0)) (fun _ f => f.d) (by rw [sizeLine_val]; omega) (fun i f hf K1 K2 k1 k2 => ?_) ?_
  · simp [startR, bodySp]
    refine ⟨_, rsp q5, ?_⟩
    have sl : (intsD (spare ts ds fs)).length = (spare ts ds fs).length := by unfold intsD; rw [List.length_map]
    have sh1 : ∀ n : Nat, SeqAt.shaped (.int (n : Int)) = true := fun _ => rfl
    obtain ⟨hz, hj1⟩ := List.getElem?_eq_some_iff.mp hj0
    simp [startR, bodySp, hj1]
    refine ⟨by omega, ?_⟩
    by_cases c : i = j0
    · exact .inl ⟨by omega, k2 (by rw [c]; simp)⟩
    · exact .inr ⟨by omega, k1 (by simpa using c)⟩
  obtain ⟨f2, e2, hs2, hl2⟩ := num_facts fs (fun i _ => decide (i ≠ j0))
  rw [e2]
  have c1 : cut (fs.map Fct.d) none (some 1) = (fs.take 1).map Fct.d := by rw [show (1 : Int) = ((1 : Nat) : Int) from rfl, cut_toS, List.map_take]
  have eno : D.tup [D.str "never", D.tup [D.str "no"]] = Fct.d (.never .no) := rfl
  simp [startR, bodySp, c1]
  have h16 : fs.length ≤ 16777215 := by omega
  refine ⟨h16, q5, ν ++ [cs], _, [.lst (f1.map Fct.d), .lst (f2.map Fct.d), .lst (List.take 1 (fs.map Fct.d)), .lst (fs.map Fct.d ++ [D.tup [D.str "never", D.tup [D.str "no"]]])], rfl, by simp, by simp, rfl, rfl, fun x hx q6 => ?_⟩
  obtain ⟨gs, rfl, hgs⟩ : ∃ gs : List Fct, x = .lst (gs.map Fct.d) ∧ ∀ f ∈ gs, Small ts ds f := by
    have hx : x = .lst (f1.map Fct.d) ∨ x = .lst (f2.map Fct.d) ∨ x = .lst (List.take 1 (fs.map Fct.d)) ∨ x = .lst (fs.map Fct.d ++ [D.tup [D.str "never", D.tup [D.str "no"]]]) := by simpa using hx
    rcases hx with e | e | e | e
    · exact ⟨f1, e, fun f hf => T.each f (hp1.subset hf)⟩
    · exact ⟨f2, e, fun f hf => T.each f (hs2 f hf)⟩
    · exact ⟨fs.take 1, by rw [e, List.map_take], fun f hf => T.each f (List.mem_of_mem_take hf)⟩
    · refine ⟨fs ++ [Fct.never .no], by rw [e, List.map_append, eno]; rfl, fun f hf => ?_⟩
      rcases List.mem_append.mp hf with hf | hf
      · exact T.each f hf
      · rw [List.mem_singleton.mp hf]
        exact ⟨trivial, by decide, by decide⟩
  have c8 : cut (gs.map Fct.d) none (some 8) = (gs.take 8).map Fct.d := by rw [show (8 : Int) = ((8 : Nat) : Int) from rfl, cut_toS, List.map_take]
  simp [startR, bodySp, c8]
  rw [← List.map_take, e11]
  clear e11
  obtain ⟨hs, hhs⟩ : ∃ hs, hs = gs.take 8 := ⟨_, rfl⟩
  rw [← hhs]
  have T2 : TL 8 ts ds hs := ⟨T.t, T.tl, T.dl, by rw [hhs, List.length_take]; omega, fun f hf => hgs f (List.mem_of_mem_take (hhs ▸ hf))⟩
  have F2 := (T2.tng (by omega)).fok
  have h82 := T2.fl
  have isT2 : isT (.tpl (hs.map Fct.d)) (hs.map Fct.d) := .inr rfl
  refine step1 fun N12 e12 => ?_
  obtain ⟨g1, g2⟩ := wP_list okd h3 fs
  obtain ⟨g3, g4⟩ := wP_list okd h3 hs
  have pk : toPy (nrm kp) = some (.list ((keptL ts ds fs).map wP)) := by
    rw [hkp]; show (toPys _).map _ = _; rw [g1]; rfl
  simp [startR, bodySp]
  refine ⟨ts, ds, hs, .lst (ts.map .str), .lst (ds.map .str), .lst (hs.map Fct.d), DM q6 (ν ++ [cs]), T2.tng (by omega), .inl rfl, .inl rfl, rfl, by simp, by simp, ?_⟩
  refine made_ins (l := [.tpl (ts.map .str), .tpl (ds.map .str), .tpl (hs.map Fct.d)]) ?_
  refine ⟨ts, ds, fs, hs, h3, by omega, by omega, F2.each, rfl, ?_⟩
  simp [startR, bodySp, g3, g4, pk, g2]
  have law := law_same ts ds fs hs
  have ev : PyData.eqvAll ((keptL ts ds hs).map wP) ((keptL ts ds fs).map wP) = sameB ts ds fs hs := by rw [eqv_wL, law]
  have ev2 : (PyData.list ((keptL ts ds hs).map wP)).eqv (PyData.list ((keptL ts ds fs).map wP)) = sameB ts ds fs hs := ev
  have law2 : sameB ts ds hs fs = sameB ts ds fs hs := by
    rw [← law, ← law_same ts ds hs fs]
    rw [Bool.eq_iff_iff, decide_eq_true_iff, decide_eq_true_iff]
    exact eq_comm
  have fo : D.ins (He.ga K "Tongue") ["t_tests", "t_deeds", "t_facts"] [.tpl (ts.map .str), .tpl (ds.map .str), .tpl (hs.map Fct.d)] = TD (He.ga K "Tongue") ts ds (.tpl (hs.map Fct.d)) := rfl
  rw [ev, e12, fo]
  clear e12
  have nd := T.t.words.2.1.nodup
  simp [startR, bodySp, htg]
  refine ⟨ts, ds, _, _, fs, hs, ⟨F, F2, nd, isT0, isT2⟩, rfl, ?_⟩
  simp [startR, bodySp]
  refine ⟨ts, ds, _, _, hs, fs, ⟨F2, F, nd, isT2, isT0⟩, rfl, ?_⟩
  rw [law2]
  simp [startR, bodySp]
  refine says_bl ?_
  simp [startR, bodySp]
  have fin := h q6
  exact ⟨keep_drA, fin⟩
end K01
namespace K01
open PySem PySem.Spec PyProof.Rows L2 Ww
/-! k01: same_facts that raises -/
structure TopX (K : Fg) (mg : Str → Option Value) : Prop where
  g_WorldError : mg "WorldError" = some (.ref (He.ga K "WorldError"))
  g_OtherWords : mg "OtherWords" = some (.ref (He.ga K "OtherWords"))
  x_OtherWords : PySem.W.excIn K (He.ga K "OtherWords") He.veBase "ValueError.__new__" = true ∧ PySem.W.keepIn K (.ref (He.ga K "OtherWords")) = true ∧ PySem.W.subIn K (.ref (He.ga K "OtherWords")) (.type "BaseException") = some true ∧
    PySem.W.typeIn K (.ref (He.ga K "OtherWords")) = some (.type "type")
  k_OtherWords : ExK K (He.ga K "OtherWords")
  em : PySem.W.exmOne K (.ref (He.ga K "OtherWords")) (.ref (He.ga K "WorldError")) = some true
abbrev OW (K : Fg) : Addr := He.ga K "OtherWords"
theorem use_S {K : Fg} {t : TS} {a : AS} (h : SndS K t a) (A : AEnds) {F H : Hp} {σ : L2.St} {ρ : Rho} {μ : Mu} {as : List Addr} {D : Ends} (M : Mem K F H μ as) (E : EnvR K F as σ ρ) (x : a A ρ μ) (e : EndsOk K F H as A D) : t D σ H := h M E x e
theorem use_E {K : Fg} {t : TE} {a : AE} (h : SndE K t a) (k : Sl → Mu → Prop) {F H : Hp} {σ : L2.St} {ρ : Rho} {μ : Mu} {as : List Addr} {Q : VK} (M : Mem K F H μ as) (E : EnvR K F as σ ρ) (x : a ρ μ k) (e : ∀ F' H' μ' as' s v, Later F H as F' H' as' → Mem K F' H' μ' as' → RepS K F' as' s v → k s μ' → Q v H') : t σ H Q := h M E x e
theorem use_T {K : Fg} {t : TT} {a : AT} (h : SndT K t a) (k : Bool → Mu → Prop) {F H : Hp} {σ : L2.St} {ρ : Rho} {μ : Mu} {as : List Addr} {Q : Bool → Hp → Prop} (M : Mem K F H μ as) (E : EnvR K F as σ ρ) (x : a ρ μ k) (e : ∀ F' H' μ' as' b, Later F H as F' H' as' → Mem K F' H' μ' as' → k b μ' → Q b H') : t σ H Q := h M E x e
theorem use_A {K : Fg} {t : TA} {a : AA} (h : SndA K t a) (k : List Sl → Mu → Prop) {F H : Hp} {σ : L2.St} {ρ : Rho} {μ : Mu} {as : List Addr} {Q : List V → Hp → Prop} (M : Mem K F H μ as) (E : EnvR K F as σ ρ) (x : a ρ μ k) (e : ∀ F' H' μ' as' ss vs, Later F H as F' H' as' → Mem K F' H' μ' as' → RepSs K F' as' ss vs → k ss μ' → Q vs H') : t σ H Q := h M E x e
theorem jx_if {X : Cx} {e : Expr} {tt : TT} {u : AT} {sts sts2 : List Stmt} {ts us : TS} {pos : Pos} (hc : JT X e tt u) (h1 : PSs X sts ts) (h2 : PSs X sts2 us) : PS X (.If e sts sts2 pos) (tIfS tt ts us) ∧ SndT X.K tt u := ⟨ps_if hc.pt h1 h2, hc.snd⟩
/-- two tongues with unlike words -/
def Unl (C : Addr) : List Sl → Prop := fun ss => ∃ ff ff', ss = [.d (TD C ["lit"] ["press", "wait"] ff), .d (TD C ["lit"] ["wait", "press"] ff')]
theorem x_same_facts {P : Program} {w : World} {K : Fg} {mg : Str → Option Value} {base : Heap} {fd : FuncData} {f : Addr} {n : Nat} (T : Top K mg) (TX : TopX K mg) (kf : KindF K (He.ga K "Tongue"))
    (F : FunD K d_same_facts.name d_same_facts.qual d_same_facts.params d_same_facts.body d_same_facts.scope (d_same_facts.dvs K) (d_same_facts.kws K) f fd)
    {n1 n2 : Nat} (c_Tongue_tests : Cal P w K mg base d_Tongue_tests (ad_Tongue_tests K) n1 P_Tongue_tests (S_Tongue_tests (He.ga K "Tongue"))) (h_Tongue_tests : n1 + 1 ≤ n) (c_Tongue_deeds : Cal P w K mg base d_Tongue_deeds (ad_Tongue_deeds K) n2 P_Tongue_deeds (S_Tongue_deeds (He.ga K "Tongue"))) (h_Tongue_deeds : n2 + 1 ≤ n) :
    FnOk P w K mg base (L2.CX P w) (n + 1) f fd P_same_facts (spX K (OW K) (Unl (He.ga K "Tongue"))) := by
  refine F.ok sc_same_facts (fun vs H Q E h => ?_) fun cdv A outer s H vs Q E hr h => ?_
  · obtain ⟨F, ss, _, r, ⟨ff, ff', rfl⟩, _⟩ := h
    exact (paired_len r).symm
  · obtain ⟨F, ss, M, r, ⟨ff, ff', rfl⟩, hE⟩ := h
    have hu64 := hu64_of hr
    have tk : Takes (xX P w K mg base N_same_facts "same_facts" (defScope (top 53)) f cdv A outer s H E) (fun cls d _ H => E cls d H) := takes_of rfl rfl rfl rfl
    have J1 : JS (xX P w K mg base N_same_facts "same_facts" (defScope (top 53)) f cdv A outer s H E) ((defBody (top 53)).getD 0 (.Pass ⟨0,0,0,0⟩)) _ _ :=
      (js_if (jt_not (jt_val (j_callB c_isi rfl T.b_isinstance (by boot_by_name) (ja_cons (jv 0) (ja_cons (j_cls rfl T.g_Tongue) ja_nil))))) (jss_one js_never) jss_nil)
    have J2 : JS (xX P w K mg base N_same_facts "same_facts" (defScope (top 53)) f cdv A outer s H E) ((defBody (top 53)).getD 1 (.Pass ⟨0,0,0,0⟩)) _ _ :=
      (js_if (jt_not (jt_val (j_callB c_isi rfl T.b_isinstance (by boot_by_name) (ja_cons (jv 1) (ja_cons (j_cls rfl T.g_Tongue) ja_nil))))) (jss_one js_never) jss_nil)
    have J3 : PS (xX P w K mg base N_same_facts "same_facts" (defScope (top 53)) f cdv A outer s H E) ((defBody (top 53)).getD 2 (.Pass ⟨0,0,0,0⟩)) _ ∧ SndT K _ _ :=
      jx_if (X := xX P w K mg base N_same_facts "same_facts" (defScope (top 53)) f cdv A outer s H E) (JW.jt (jw_or (jt_cmp (c_ne hu64) (j_propC c_Tongue_tests T.cls_Tongue b_Tongue_tests T.p_Tongue_tests hr h_Tongue_tests (jv 0)) (j_propC c_Tongue_tests T.cls_Tongue b_Tongue_tests T.p_Tongue_tests hr h_Tongue_tests (jv 1))) (jw_or1 (jt_cmp (c_ne hu64) (j_propC c_Tongue_deeds T.cls_Tongue b_Tongue_deeds T.p_Tongue_deeds hr h_Tongue_deeds (jv 0)) (j_propC c_Tongue_deeds T.cls_Tongue b_Tongue_deeds T.p_Tongue_deeds hr h_Tongue_deeds (jv 1)))))) (pss_one (ps_raise rfl tk (pmk_own (PySem.F.excBase_ValueError) TX.x_OtherWords.1 TX.g_OtherWords TX.x_OtherWords.2.1 (raises_own TX.x_OtherWords.2.2.1 TX.x_OtherWords.2.2.2) rfl))) pss_nil
    refine ⟨_, pss_cons J1.ps (pss_cons J2.ps (pss_cons J3.1 jss_never.pss)), ?_⟩
    refine use_S (snd_seq J1.snd J2.snd) ⟨fun ρ μ => ρ = startR 2 [.d (TD (He.ga K "Tongue") ["lit"] ["press", "wait"] ff), .d (TD (He.ga K "Tongue") ["lit"] ["wait", "press"] ff')] ∧ μ = [], fun _ _ => False, fun _ _ => False, fun _ _ => False⟩ M (env_start r) ?_ ⟨fun F' H' σ' ρ' μ' as' L M' E' q => ?_, fun _ _ _ _ _ _ _ _ _ q => q.elim, fun _ _ _ _ _ _ _ _ _ q => q.elim, fun _ _ _ _ _ _ _ _ _ q => q.elim⟩
    · simp [startR, TD]
      exact kf
    · obtain ⟨rfl, rfl⟩ := q
      refine use_T J3.2 (fun b _ => b = true) M' E' ?_ fun F2 H2 μ2 as2 b L2 M2 e => ?_
      · have w1 : OkW ["lit"] := by unfold OkW; decide +kernel
        have w2 : OkW ["press", "wait"] := by unfold OkW; decide +kernel
        have w3 : OkW ["wait", "press"] := by unfold OkW; decide +kernel
        have s1 := sh_strs w1
        have s2 := sh_strs w2
        have s3 := sh_strs w3
        have q1 := eqv_strs w1
        simp [startR, TD]
        refine ⟨["lit"], ["press", "wait"], ff, rfl, ["lit"], ["wait", "press"], ff', rfl, ?_⟩
        simp [startR, s1, q1]
        refine ⟨s1, ["lit"], ["press", "wait"], ff, rfl, ["lit"], ["wait", "press"], ff', rfl, ?_⟩
        simp [startR, s2, s3]
        decide +kernel
      · subst e
        exact hE H2 fun a o z => (L.trans L2).others a o z (by simp)
end K01
namespace K01
open PySem PySem.Spec PyProof.Rows L2 Ww
/-! k01: the law's def: what it does over data -/
def lampF : List Fct := [.keeps "wait" (.is "lit")]
def lampD (C : Addr) : D := TD C ["lit"] ["press", "wait"] (.tpl (lampF.map Fct.d))
def a_l0 : AS := (aAsg (aCall S__law_begun (aCons (aVar 0) aNil)) (aGn 1))
def a_l1 : AS := (aFor (aRng1 (aCons (aOp (rd2 fAdd) (aC (.int 3)) (aCB (on2 fMin) (aCons (aCB (on1 fLen) (aCons (aVar 0) aNil)) (aCons (aC (.int 6)) aNil)))) aNil)) (aGn 2) (aIfS (aNot (aT (aCall S__law_right (aCons (aVar 1) aNil)))) (aRet (aC (.bl false))) aNext))
def a_l2 (K : Fg) : AS := (aAsg (aMakeD (S_init (He.ga K "Tongue")) (He.ga K "Tongue") [] (aCons (aLst (aCons (aC (.str "lit")) aNil)) (aCons (aLst (aCons (aC (.str "press")) (aCons (aC (.str "wait")) aNil))) (aCons (aLst (aCons (aTup (aCons (aC (.str "keeps")) (aCons (aC (.str "wait")) (aCons (aTup (aCons (aC (.str "is")) (aCons (aC (.str "lit")) aNil))) aNil)))) aNil)) aNil)))) (aGn 3))
def a_pre (K : Fg) : AS := aSeq a_l0 (aSeq a_l1 (a_l2 K))
def a_say (K : Fg) : AE := (aCall S__law_says (aCons (aLst (aCons (aCall (S_open_after (He.ga K "Tongue")) (aCons (aVar 3) (aCons (aC (.int 0)) (aCons (aC (.str "wait")) aNil)))) (aCons (aCall (S_open_after (He.ga K "Tongue")) (aCons (aVar 3) (aCons (aC (.int 0)) (aCons (aC (.str "press")) aNil)))) (aCons (aCall (S_barring (He.ga K "Tongue")) (aCons (aVar 3) (aCons (aC (.int 0)) (aCons (aC (.str "wait")) (aCons (aC (.int 1)) aNil))))) aNil)))) (aCons (aLst (aCons (aTup (aCons (aC (.int 0)) aNil)) (aCons (aTup (aCons (aC (.int 0)) (aCons (aC (.int 1)) aNil))) (aCons (aC (.int 0)) aNil)))) aNil)))
def a_uns (K : Fg) : AA := (aCons (aVar 3) (aCons (aMakeD (S_init (He.ga K "Tongue")) (He.ga K "Tongue") [.tup []] (aCons (aLst (aCons (aC (.str "lit")) aNil)) (aCons (aLst (aCons (aC (.str "wait")) (aCons (aC (.str "press")) aNil))) aNil))) aNil))
theorem lamp_tl : TL 8 ["lit"] ["press", "wait"] lampF := by
  refine ⟨⟨by decide +kernel, by decide +kernel⟩, by decide, by decide, by decide, fun f hf => ?_⟩
  obtain rfl : f = .keeps "wait" (.is "lit") := by simpa [lampF] using hf
  refine ⟨⟨by simp, by simp [Tst.over]⟩, by simp [Fct.t, Tst.deep], by simp [Fct.t, Tst.size]⟩
theorem uns_tl : TL 8 ["lit"] ["wait", "press"] [] := ⟨⟨by decide +kernel, by decide +kernel⟩, by decide, by decide, by decide, fun f hf => absurd hf (by simp)⟩
theorem pre_ok {K : Fg} (xs : List Int) (hx : xs.length ≤ 63) : a_pre K ⟨fun ρ _ => ρ.length = 5 ∧ ρ[3]? = some (some (.d (lampD (He.ga K "Tongue")))), fun _ _ => False, fun _ _ => False, fun _ _ => False⟩ (startR N_law.length [.d (.lst (intL xs))]) [] := by
  unfold a_pre a_l0 a_l1 a_l2
  refine step1 fun N1 e1 => ?_
  simp [startR, bodySp]
  refine ⟨xs, by omega, rfl, rfl, fun q => ?_⟩
  simp [startR, bodySp]
  rw [e1]
  clear e1
  refine step1 fun N2 e2 => ?_
  simp [startR, bodySp, intL]
  refine ⟨by split <;> omega, for1 (fun _ ρ μ => ∃ (q : Dq) (x : Option Sl), ρ = [some (Sl.d (D.lst (List.map D.int xs))), some (Sl.m 1), x, none, none] ∧ μ = DM q []) ⟨q, none, rfl, rfl⟩ ?_ ?_⟩
  · rintro B N i d ρ μ rfl hN hd ⟨q, x, rfl, rfl⟩
    simp [startR, bodySp]
    refine ⟨q, [], rfl, rfl, fun q' => ?_⟩
    simp [startR, bodySp]
    exact hN _ _ ⟨q', _, rfl, rfl⟩
  · rintro ρ μ ⟨q, x, rfl, rfl⟩
    show N2 _ _
    rw [e2]
    clear e2
    simp [startR, bodySp]
    have z := new_tongue (C := He.ga K "Tongue") (μ0 := DM q []) (k := fun s _ => s = Sl.d (lampD (He.ga K "Tongue"))) (lamp_tl.tng (by omega)) rfl
    exact z
theorem say_ok {K : Fg} {ρ : Rho} (h : ρ[3]? = some (some (.d (lampD (He.ga K "Tongue"))))) : a_say K ρ [] fun s _ => s = .d (.bl true) := by
  unfold a_say
  have F : FOk ["lit"] ["press", "wait"] lampF := ⟨lamp_tl.t.words.1.ok, lamp_tl.t.words.2.1.ok, by decide, by decide, by decide, fun f hf => (lamp_tl.each f hf).tok lamp_tl.t (by decide)⟩
  have l1 : lotL ["lit"] lampF 0 "wait" = [0] := by decide +kernel
  have l2 : lotL ["lit"] lampF 0 "press" = [0, 1] := by decide +kernel
  have l3 : barOf ["lit"] lampF (0 : Nat) "wait" (1 : Nat) = some 0 := by decide +kernel
  simp [startR, bodySp, h]
  refine ⟨_, _, _, lampF, 0, "wait", F, .inr rfl, by simp, by simp, rfl, ⟨_, _, _, lampF, 0, "press", F, .inr rfl, by simp, by simp, rfl, ⟨_, _, _, lampF, 0, 1, "wait", F, .inr rfl, by simp, by simp, by simp, rfl, ?_⟩⟩⟩
  rw [l1, l2, l3]
  simp [startR, bodySp, optD, intsD]
  refine ⟨_, ⟨.list [.tuple [.int 0], .tuple [.int 0, .int 1], .int 0], ?_, ?_, ?_⟩, ?_, rfl, rfl⟩
  · simp
  · simp [PyData.canLay0, PyData.canLayAll0]
  · simp [PyData.depth, PyData.depthAll]
  · simp [kinds, kindsR]
theorem uns_ok {K : Fg} {ρ : Rho} (h : ρ[3]? = some (some (.d (lampD (He.ga K "Tongue"))))) : a_uns K ρ [] fun ss _ => Unl (He.ga K "Tongue") ss := by
  unfold a_uns
  simp [startR, bodySp, h]
  have T := uns_tl.tng (by omega)
  refine ⟨_, _, [], _, _, _, [], T, .inl rfl, .inl rfl, rfl, rfl, rfl, ?_⟩
  exact made_ins (l := [.tpl [.str "lit"], .tpl [.str "wait", .str "press"], .tup []]) ⟨_, _, rfl⟩
end K01
namespace K01
open PySem PySem.Spec PyProof.Rows L2 Ww
/-! k01: law -/
theorem sc_law : FnScope N_law P_law (defScope (top 75)) := ⟨rfl, rfl, rfl, by decide +kernel, rfl, by decide +kernel, by decide +kernel⟩
theorem sc__law_caught : FnScope N__law_caught P__law_caught (defScope (top 60)) := ⟨rfl, rfl, rfl, by decide +kernel, rfl, by decide +kernel, by decide +kernel⟩
def spLaw (tb : Addr) : Sp := fun vs H Q _ => ∃ (a : Addr) (ns : List Int), vs = [.ref a] ∧ ns.length ≤ 63 ∧ Rd H a (.lst (ns.map .int)) ∧ H tb = some (.tbl #[]) ∧ ∀ H', Q (.bl true) H'
def scope_of : Stmt → Scope
  | .Assign _ (.Call _ [.Lambda _ _ sc _] _ _) _ => sc
  | _ => default
def args_of : Stmt → List Expr
  | .Assign _ (.Call _ [.Lambda _ (.Call _ es _ _) _ _] _ _) _ => es
  | _ => []
def t_uns (K : Fg) : TA := (tCons (tVar 3) (tCons (tMake (He.ga K "Tongue") (spOf K (S_init (He.ga K "Tongue"))) [.ref (He.dflAt ("Tongue", some "__init__") 0 K)] E0 (tCons (tLst (tCons (tC (.str "lit")) tNil)) (tCons (tLst (tCons (tC (.str "wait")) (tCons (tC (.str "press")) tNil))) tNil))) tNil))
theorem jx_ret {X : Cx} {a b : Expr} {t tb : TE} {w : AE} {p pos : Pos} (h : JE X a t w) (hb : PE X (.BoolOp .And [b] pos) tb) : PS X (.Return (some (.BoolOp .And [a, b] pos)) p) (tRet (tAndV t tb)) ∧ SndE X.K t w := ⟨ps_ret (pe_and h.pe hb), h.snd⟩
theorem use_S3 {X : Cx} {s0 s1 s2 : Stmt} {t0 t1 t2 u : TS} {a0 a1 a2 : AS} (h0 : JS X s0 t0 a0) (h1 : JS X s1 t1 a1) (h2 : JS X s2 t2 a2) (q : Rho → Mu → Prop) {F H : Hp} {σ : L2.St} {ρ : Rho} {μ : Mu} {as : List Addr} {D : Ends} (M : Mem X.K F H μ as) (E : EnvR X.K F as σ ρ)
    (x : aSeq a0 (aSeq a1 a2) ⟨q, fun _ _ => False, fun _ _ => False, fun _ _ => False⟩ ρ μ) (e : ∀ F' H' σ' ρ' μ' as', Later F H as F' H' as' → Mem X.K F' H' μ' as' → EnvR X.K F' as' σ' ρ' → q ρ' μ' → u D σ' H') : tSeq t0 (tSeq t1 (tSeq t2 u)) D σ H := by
  show tSeq t0 (tSeq t1 t2) { D with nx := u D } σ H
  exact use_S (snd_seq h0.snd (snd_seq h1.snd h2.snd)) _ M E x ⟨e, fun _ _ _ _ _ _ _ _ _ q => q.elim, fun _ _ _ _ _ _ _ _ _ q => q.elim, fun _ _ _ _ _ _ _ _ _ q => q.elim⟩
theorem rep_ints {K : Fg} {F : Hp} : ∀ ns : List Int, RepL K F (intL ns) (ns.map .int)
  | [] => rfl
  | n :: r => ⟨.int n, r.map .int, rfl, rfl, rep_ints r⟩
theorem extN_rd {F F' : Hp} (e : LamX.ExtN F F') {a : Addr} {u : HO} (hu : ∀ ps, u ≠ .tbl ps) (h : Rd F a u) : Rd F' a u :=
  h.elim (fun z => .inl (e a _ z hu)) fun ⟨o, z⟩ => .inr ⟨o, e a _ z (fun ps q => by cases q)⟩
mutual
theorem Rep.extN {K : Fg} {F F' : Hp} (e : LamX.ExtN F F') : ∀ (d : D) (v : V), Rep K F d v → Rep K F' d v
  | .non, _, h => h
  | .bl _, _, h => h
  | .int _, _, h => h
  | .str _, _, h => h
  | .tup l, v, ⟨a, vs, h1, h2, h3⟩ => ⟨a, vs, h1, h2.elim (fun z => .inl (extN_rd e (fun ps q => by cases q) z)) .inr, RepL.extN e l vs h3⟩
  | .tpl l, v, ⟨a, vs, o, h1, h2, h4, h3⟩ => ⟨a, vs, o, h1, e _ _ h2 (fun ps q => by cases q), h4, RepL.extN e l vs h3⟩
  | .lst l, v, ⟨a, vs, h1, h2, h3⟩ => ⟨a, vs, h1, extN_rd e (fun ps q => by cases q) h2, RepL.extN e l vs h3⟩
  | .dic ks ds, v, ⟨a, h1, h2⟩ => ⟨a, h1, by
      rcases h2 with ⟨kvs, g1, g2, g3⟩ | ⟨kvs, g1, g2, g3⟩
      · exact .inl ⟨kvs, e _ _ g1 (fun ps q => by cases q), g2, RepL.extN e ds _ g3⟩
      · exact .inr ⟨kvs, e _ _ g1 (fun ps q => by cases q), g2, RepL.extN e ds _ g3⟩⟩
  | .ins C ns ds, v, ⟨a, dx, fs, h1, h2, h3, h4⟩ => ⟨a, dx, fs, h1, e _ _ h2 (fun ps q => by cases q), h3, RepL.extN e ds _ h4⟩
  | .ty _, _, h => h
  | .cls _, _, h => h
theorem RepL.extN {K : Fg} {F F' : Hp} (e : LamX.ExtN F F') : ∀ (ds : List D) (vs : List V), RepL K F ds vs → RepL K F' ds vs
  | [], _, h => h
  | d :: ds, vs, ⟨v, r, h1, h2, h3⟩ => ⟨v, r, h1, Rep.extN e d v h2, RepL.extN e ds r h3⟩
end
theorem mem_all {K : Fg} (H : Hp) : Mem K H H [] [] := ⟨Sub.refl H, rfl, .nil, fun a h => absurd h (by simp), fun k c a h1 _ => by simp at h1⟩
theorem law_ok {P : Program} {w : World} {K : Fg} {mg : Str → Option Value} {base : Heap} {fd fdC fdS : FuncData} {lv m : Nat} (T : Top K mg) (TX : TopX K mg)
    (F : FunD K d_law.name d_law.qual d_law.params d_law.body d_law.scope (d_law.dvs K) (d_law.kws K) (ad_law K) fd)
    (FC : FunD K d__law_caught.name d__law_caught.qual d__law_caught.params d__law_caught.body d__law_caught.scope (d__law_caught.dvs K) (d__law_caught.kws K) (ad__law_caught K) fdC)
    (FS : FunD K d_same_facts.name d_same_facts.qual d_same_facts.params d_same_facts.body d_same_facts.scope (d_same_facts.dvs K) (d_same_facts.kws K) (ad_same_facts K) fdS)
    (TB : LamX.TabB base mg (He.cT K ("law", none)).1 (He.cT K ("law", none)).2)
    {n1 n2 n3 n4 n5 n6 : Nat} (c__law_begun : Cal P w K mg base d__law_begun (ad__law_begun K) n1 P__law_begun S__law_begun) (h__law_begun : n1 ≤ lv)
    (c__law_right : Cal P w K mg base d__law_right (ad__law_right K) n2 P__law_right S__law_right) (h__law_right : n2 ≤ lv)
    (c_Tongue___init__ : Cal P w K mg base d_Tongue___init__ (ad_Tongue___init__ K) n3 P_Tongue___init__ (S_init (He.ga K "Tongue"))) (h_Tongue___init__ : n3 + 1 ≤ m) 
    (c__law_says : Cal P w K mg base d__law_says (ad__law_says K) n4 P__law_says S__law_says) (h__law_says : n4 ≤ lv)
    (c_open_after : Cal P w K mg base d_open_after (ad_open_after K) n5 P_open_after (S_open_after (He.ga K "Tongue"))) (h_open_after : n5 ≤ lv)
    (c_barring : Cal P w K mg base d_barring (ad_barring K) n6 P_barring (S_barring (He.ga K "Tongue"))) (h_barring : n6 ≤ lv)
    (GX : FnOk P w K mg base (L2.CX P w) m (ad_same_facts K) fdS P_same_facts (spX K (OW K) (Unl (He.ga K "Tongue")))) (hm : m + 2 ≤ lv) :
    FnOk P w K mg base CX0 (lv + 1) (ad_law K) fd P_law (spLaw (He.cT K ("law", none)).2) := by
  obtain ⟨oc, od, dV, kV, doc, pm, an, cdv, ct, osl, rfl, lk, hcd, _, _⟩ := F.ex
  obtain ⟨c, rfl⟩ := He.codeIn_ref hcd
  have ec : (He.cT K ("law", none)).1 = c := He.codeOf_eq lk rfl
  refine fn_of lk hcd sc_law (fun vs H Q E h => ?_) fun A outer s H vs Q E hr h => ?_
  · obtain ⟨a, ns, rfl, _⟩ := h
    rfl
  obtain ⟨a, ns, rfl, hl, hS, hT, hQ⟩ := h
  have nd := sc_law.nd
  have hu1 := hu1_of hr
  have hu64 := hu64_of hr
  have hu65 := hu65_of hr
  have h_init : n3 + 1 ≤ lv := by omega
  have J0 : JS (bX P w K mg base N_law "law" (defScope (top 75)) (ad_law K) (.ref c) A outer s H E) ((defBody (top 75)).getD 0 (.Pass ⟨0,0,0,0⟩)) _ a_l0 :=
    (js_set 1 nd (j_callC c__law_begun T.g__law_begun b__law_begun hr h__law_begun rfl (ja_cons (jv 0) ja_nil)))
  have J1 : JS (bX P w K mg base N_law "law" (defScope (top 75)) (ad_law K) (.ref c) A outer s H E) ((defBody (top 75)).getD 1 (.Pass ⟨0,0,0,0⟩)) _ a_l1 :=
    (js_for PassesOwn.never rfl (ji_range1 rfl T.b_range (ja_cons (j_add j_int (j_callB (c_min rfl) rfl T.b_min (by boot_by_name) (ja_cons (j_callB c_len rfl T.b_len (by boot_by_name) (ja_cons (jv 0) ja_nil)) (ja_cons j_int ja_nil)))) ja_nil)) (jg_name 2 nd) (jss_one (js_if (jt_not (jt_val (j_callC c__law_right T.g__law_right b__law_right hr h__law_right rfl (ja_cons (jv 1) ja_nil)))) (jss_one (js_ret j_bl)) jss_nil)))
  have J2 : JS (bX P w K mg base N_law "law" (defScope (top 75)) (ad_law K) (.ref c) A outer s H E) ((defBody (top 75)).getD 2 (.Pass ⟨0,0,0,0⟩)) _ (a_l2 K) :=
    (js_set 3 nd (j_makeD (dd := []) c_Tongue___init__ (bm0_Tongue T) (fun _ => rfl) T.mk_Tongue T.g_Tongue hr h_init rfl (ja_cons (j_lst (ja_cons j_str ja_nil)) (ja_cons (j_lst (ja_cons j_str (ja_cons j_str ja_nil))) (ja_cons (j_lst (ja_cons (j_tup (ja_cons j_str (ja_cons j_str (ja_cons (j_tup (ja_cons j_str (ja_cons j_str ja_nil))) ja_nil)))) ja_nil)) ja_nil)))))
  -- the lambda
  obtain ⟨oc2, od2, dV2, kV2, doc2, pm2, an2, cdv2, ct2, osl2, rfl, lk2, hcd2, hD2, _⟩ := id FC.ex
  have kC := FC.kp
  have bC := b__law_caught.binds FC
  have lamS : LamX.LamS (defScope (top 75)) (scope_of ((defBody (top 75)).getD 3 (.Pass ⟨0,0,0,0⟩))) := LamX.lamS_by (by decide +kernel)
  have JU : JA (bX P w K mg base N_law "law" (defScope (top 75)) (ad_law K) (.ref c) A outer s H E) (args_of ((defBody (top 75)).getD 3 (.Pass ⟨0,0,0,0⟩))) (t_uns K) (a_uns K) :=
    (ja_cons (jv 3) (ja_cons (j_makeD c_Tongue___init__ (bm1_Tongue T) (dd_Tongue T) T.mk_Tongue T.g_Tongue hr h_init rfl (ja_cons (j_lst (ja_cons j_str ja_nil)) (ja_cons (j_lst (ja_cons j_str (ja_cons j_str ja_nil))) ja_nil))) ja_nil))
  have J3 : PS (bX P w K mg base N_law "law" (defScope (top 75)) (ad_law K) (.ref c) A outer s H E) ((defBody (top 75)).getD 3 (.Pass ⟨0,0,0,0⟩)) _ :=
    ps_set (i := 4) nd rfl (.inl rfl) (LamX.pe_lamcall (T := [((He.cT K ("law", none)).2, (bX P w K mg base N_law "law" (defScope (top 75)) (ad_law K) (.ref c) A outer s H E).env.qual ++ "<lambda>")]) (TT := TKeep K (He.ga K "WorldError")) (t := fun E => tCallS (spX K (OW K) (Unl (He.ga K "Tongue"))) (fun _ => E) (t_uns K)) (k := m) rfl T.g__law_caught kC lk2 hcd2 bC sc__law_caught rfl (.inl rfl)
      (keep_gives sc__law_caught rfl TX.g_WorldError (by decide) rfl rfl (by decide) (by decide) (by decide) (by decide)) (ec ▸ TB) rfl (List.mem_singleton.mpr rfl) (fun p hp _ => by rw [List.mem_singleton.mp hp]) (hr.mono hm) lamS rfl (fun _ _ _ _ _ => rfl) 
      (fun A2 outer2 s2 H2 E2 f2 c2 hr2 => pe_callS GX hr2 rfl T.g_same_facts FS.kp (b_same_facts.binds FS) (passAt (takes_of rfl rfl rfl rfl)) (show JA (LamX.lamCx (bX P w K mg base N_law "law" (defScope (top 75)) (ad_law K) (.ref c) A outer s H E) A2 outer2 s2 H2 E2 (scope_of ((defBody (top 75)).getD 3 (.Pass ⟨0,0,0,0⟩))) f2 c2) (args_of ((defBody (top 75)).getD 3 (.Pass ⟨0,0,0,0⟩))) (t_uns K) (a_uns K) from ja_cons (jv 3) (ja_cons (j_makeD c_Tongue___init__ (bm1_Tongue T) (dd_Tongue T) T.mk_Tongue T.g_Tongue hr2 h_Tongue___init__ rfl (ja_cons (j_lst (ja_cons j_str ja_nil)) (ja_cons (j_lst (ja_cons j_str (ja_cons j_str ja_nil))) ja_nil))) ja_nil)).pa))
  have J4 : PS (bX P w K mg base N_law "law" (defScope (top 75)) (ad_law K) (.ref c) A outer s H E) ((defBody (top 75)).getD 4 (.Pass ⟨0,0,0,0⟩)) _ ∧ SndE K _ (a_say K) :=
    jx_ret (X := bX P w K mg base N_law "law" (defScope (top 75)) (ad_law K) (.ref c) A outer s H E) (j_callC c__law_says T.g__law_says b__law_says hr h__law_says rfl (ja_cons (j_lst (ja_cons (j_callC c_open_after T.g_open_after b_open_after hr h_open_after rfl (ja_cons (jv 3) (ja_cons j_int (ja_cons j_str ja_nil)))) (ja_cons (j_callC c_open_after T.g_open_after b_open_after hr h_open_after rfl (ja_cons (jv 3) (ja_cons j_int (ja_cons j_str ja_nil)))) (ja_cons (j_callC c_barring T.g_barring b_barring hr h_barring rfl (ja_cons (jv 3) (ja_cons j_int (ja_cons j_str (ja_cons j_int ja_nil))))) ja_nil)))) (ja_cons (j_lst (ja_cons (j_tup (ja_cons j_int ja_nil)) (ja_cons (j_tup (ja_cons j_int (ja_cons j_int ja_nil))) (ja_cons j_int ja_nil)))) ja_nil)))
      (tb := tCB (rIsiC (OW K)) (tCons (tVar 4) (tCons (tC (.ref (OW K))) tNil)))
      (pe_one (pe_callB (call_isiC TX.k_OtherWords) rfl T.b_isinstance (by boot_by_name) (show JA (bX P w K mg base N_law "law" (defScope (top 75)) (ad_law K) (.ref c) A outer s H E) _ _ _ from ja_cons (jv 4 (x := "error")) (ja_cons (j_cls (x := "OtherWords") rfl TX.g_OtherWords) ja_nil)).pa))
  refine ⟨_, (pss_cons J0.ps (pss_cons J1.ps (pss_cons J2.ps (pss_cons J3 (pss_one J4.1))))).nox, ?_⟩
  have r0 : RepSs K H [] [.d (.lst (intL ns))] [V.ref a] := .cons ⟨a, ns.map .int, rfl, hS, rep_ints ns⟩ .nil
  have pre := pre_ok (K := K) ns hl
  have pre : aSeq a_l0 (aSeq a_l1 (a_l2 K)) _ _ _ := pre
  refine use_S3 J0 J1 J2 (fun ρ _ => ρ.length = 5 ∧ ρ[3]? = some (some (.d (lampD (He.ga K "Tongue"))))) (mem_all H) (env_start (N := N_law) r0) ?_ ?_
  · exact pre
  intro F' H' σ' ρ' μ' as' L M' E' q
  obtain ⟨q5, q3⟩ := q
  have s5 : σ'.length = 5 := by rw [← E'.1]; exact q5
  obtain ⟨v3, e3, r3'⟩ := E'.2 3 _ q3
  have r3 : Rep K H' (lampD (He.ga K "Tongue")) v3 := Rep.mono M'.sub _ _ r3'
  have hT' := L.others _ _ hT (by simp)
  have T0 : LamX.Tabs [((He.cT K ("law", none)).2, (bX P w K mg base N_law "law" (defScope (top 75)) (ad_law K) (.ref c) A outer s H E).env.qual ++ "<lambda>")] H' := fun p hp => by
    rw [List.mem_singleton.mp hp]
    exact LamX.TabS.nil hT'
  refine ⟨T0, fun H1 eN _ => ?_⟩
  have r31 : Rep K H1 (lampD (He.ga K "Tongue")) v3 := Rep.extN eN _ _ r3
  have E1 : EnvR K H1 [] σ' [none, none, none, some (.d (lampD (He.ga K "Tongue"))), none] := ⟨by rw [s5]; rfl, fun i s e => by
    match i, e with
    | 0, e => cases e
    | 1, e => cases e
    | 2, e => cases e
    | 3, e => cases e; exact ⟨v3, e3, r31⟩
    | 4, e => cases e
    | i + 5, e => simp at e⟩
  show t_uns K σ' H1 (fun vs H2 => spX K (OW K) (Unl (He.ga K "Tongue")) vs H2 _ _)
  refine use_A JU.snd (fun ss _ => Unl (He.ga K "Tongue") ss) (mem_all H1) E1 (uns_ok rfl) fun F2 H2 μ2 as2 ss vs L2 M2 rs un => ?_
  have rs2 : RepSs K H2 [] ss vs := by
    obtain ⟨ff, ff', rfl⟩ := un
    cases rs with
    | cons r1 t1 => cases t1 with
      | cons r2 t2 => cases t2; exact .cons (Rep.mono M2.sub _ _ r1) (.cons (Rep.mono M2.sub _ _ r2) .nil)
  refine ⟨H2, ss, mem_all H2, rs2, un, fun H3 sb => ?_⟩
  refine ⟨OW K, rfl, rfl, TX.em, fun x hx => ?_⟩
  have sub3 : Sub H1 (upd H3 x (ExC (OW K) x)) := fun b o e => by
    have e3 := sb b o (L2.others b o e (by simp))
    rw [upd_ne (ne_of_none e3 hx)]
    exact e3
  have r34 : Rep K (upd H3 x (ExC (OW K) x)) (lampD (He.ga K "Tongue")) v3 := Rep.mono sub3 _ _ r31
  have E4 : EnvR K (upd H3 x (ExC (OW K) x)) [] (σ'.set 4 (some (.ref x))) [none, none, none, some (.d (lampD (He.ga K "Tongue"))), none] := ⟨by rw [List.length_set, s5]; rfl, fun i s e => by
    match i, e with
    | 0, e => cases e
    | 1, e => cases e
    | 2, e => cases e
    | 3, e => cases e; exact ⟨v3, by rw [List.getElem?_set_ne (by decide)]; exact e3, r34⟩
    | 4, e => cases e
    | i + 5, e => simp at e⟩
  refine use_E J4.2 (fun s _ => s = .d (.bl true)) (mem_all _) E4 (say_ok rfl) fun F5 H5 μ5 as5 s v L5 M5 r5 q5' => ?_
  subst q5'
  have r5 : v = .bl true := r5
  refine ⟨true, r5, ?_⟩
  rw [if_pos rfl]
  refine ⟨.ref x, List.getElem?_set_self (by rw [s5]; decide), ?_⟩
  exact ⟨x, rfl, L5.others x _ upd_same (by simp), hQ _⟩
end K01
namespace K01
open PySem PySem.Spec PyProof.Rows L2 Ww
/-! k01: all defs keep their promises -/
abbrev IsF (K : Fg) (d : He.DefD) (f : Addr) : Prop := ∃ fd, FunD K d.name d.qual d.params d.body d.scope (d.dvs K) (d.kws K) f fd
structure Fds (K : Fg) : Prop where
  F_inner_tests : IsF K d_inner_tests (ad_inner_tests K)
  F_is_test_of : IsF K d_is_test_of (ad_is_test_of K)
  F_holds_by : IsF K d_holds_by (ad_holds_by K)
  F_is_number : IsF K d_is_number (ad_is_number K)
  F_is_between : IsF K d_is_between (ad_is_between K)
  F_is_list : IsF K d_is_list (ad_is_list K)
  F_is_plain_word : IsF K d_is_plain_word (ad_is_plain_word K)
  F_are_unlike_words : IsF K d_are_unlike_words (ad_are_unlike_words K)
  F_is_fact_of : IsF K d_is_fact_of (ad_is_fact_of K)
  F_Tongue___init__ : IsF K d_Tongue___init__ (ad_Tongue___init__ K)
  F_Tongue_tests : IsF K d_Tongue_tests (ad_Tongue_tests K)
  F_Tongue_deeds : IsF K d_Tongue_deeds (ad_Tongue_deeds K)
  F_Tongue_facts : IsF K d_Tongue_facts (ad_Tongue_facts K)
  F_need_tongue : IsF K d_need_tongue (ad_need_tongue K)
  F_many_atoms : IsF K d_many_atoms (ad_many_atoms K)
  F_is_atom : IsF K d_is_atom (ad_is_atom K)
  F_need_atom : IsF K d_need_atom (ad_need_atom K)
  F_is_deed : IsF K d_is_deed (ad_is_deed K)
  F_need_deed : IsF K d_need_deed (ad_need_deed K)
  F_bars_atom : IsF K d_bars_atom (ad_bars_atom K)
  F_bars_step : IsF K d_bars_step (ad_bars_step K)
  F_is_open : IsF K d_is_open (ad_is_open K)
  F_bar_of : IsF K d_bar_of (ad_bar_of K)
  F_open_lot : IsF K d_open_lot (ad_open_lot K)
  F_lot_after : IsF K d_lot_after (ad_lot_after K)
  F_is_kept : IsF K d_is_kept (ad_is_kept K)
  F_open_atoms : IsF K d_open_atoms (ad_open_atoms K)
  F_open_after : IsF K d_open_after (ad_open_after K)
  F_barring : IsF K d_barring (ad_barring K)
  F_follows : IsF K d_follows (ad_follows K)
  F_needless : IsF K d_needless (ad_needless K)
  F__law_mixed : IsF K d__law_mixed (ad__law_mixed K)
  F__law_take : IsF K d__law_take (ad__law_take K)
  F__law_pick : IsF K d__law_pick (ad__law_pick K)
  F__law_shuffled : IsF K d__law_shuffled (ad__law_shuffled K)
  F__law_kinds : IsF K d__law_kinds (ad__law_kinds K)
  F__law_says : IsF K d__law_says (ad__law_says K)
  F__law_holds : IsF K d__law_holds (ad__law_holds K)
  F__law_atoms : IsF K d__law_atoms (ad__law_atoms K)
  F__law_bars : IsF K d__law_bars (ad__law_bars K)
  F__law_open : IsF K d__law_open (ad__law_open K)
  F__law_test : IsF K d__law_test (ad__law_test K)
  F__law_words : IsF K d__law_words (ad__law_words K)
  F__law_fact : IsF K d__law_fact (ad__law_fact K)
  F__law_told : IsF K d__law_told (ad__law_told K)
  F__law_worlds : IsF K d__law_worlds (ad__law_worlds K)
  F__law_keeps : IsF K d__law_keeps (ad__law_keeps K)
  F__law_kept : IsF K d__law_kept (ad__law_kept K)
  F__law_right : IsF K d__law_right (ad__law_right K)
  F_open_table : IsF K d_open_table (ad_open_table K)
  F__law_begun : IsF K d__law_begun (ad__law_begun K)
  F_same_facts : IsF K d_same_facts (ad_same_facts K)
  F__law_caught : IsF K d__law_caught (ad__law_caught K)
  F_law : IsF K d_law (ad_law K)
theorem fnOk_no {P : Program} {w : World} {K : Fg} {mg : Str → Option Value} {base : Heap} {n : Nat} {f : Addr} {fd : FuncData} {ps : List Str} {S : ASp} (h : ∀ ss μ k, ¬ S ss μ k) : FnOk P w K mg base CX0 n f fd ps (spOf K S) :=
  ⟨fun _ _ _ _ ⟨_, _, _, _, _, _, _, z, _⟩ => (h _ _ _ z).elim, fun _ _ _ _ _ _ _ _ _ _ _ _ _ ⟨_, _, _, _, _, _, _, z, _⟩ => (h _ _ _ z).elim⟩
section
variable {P : Program} {w : World} {K : Fg} {mg : Str → Option Value} {base : Heap} (T : Top K mg) (D : Fds K)
include T D
theorem cal_inner_tests : Cal P w K mg base d_inner_tests (ad_inner_tests K) 1 P_inner_tests (S_inner_tests) :=
  let ⟨fd, F⟩ := D.F_inner_tests; ⟨fd, F, fn_ok (k := 0) F sc_inner_tests (fun cdv A outer s H E hr => jf_inner_tests T hr ) (p_inner_tests)⟩
theorem cal_is_test_of : Cal P w K mg base d_is_test_of (ad_is_test_of K) 2 P_is_test_of (S_is_test_of) :=
  let ⟨fd, F⟩ := D.F_is_test_of; ⟨fd, F, fn_ok (k := 1) F sc_is_test_of (fun cdv A outer s H E hr => jf_is_test_of T hr (cal_inner_tests T D) (by decide)) (p_is_test_of)⟩
theorem cal_holds_by : ∀ n, Cal P w K mg base d_holds_by (ad_holds_by K) (n + 1) P_holds_by (S_holds_by n)
  | 0 => let ⟨fd, F⟩ := D.F_holds_by; ⟨fd, F, fnOk_no fun ss μ k z => by unfold S_holds_by at z; simp at z⟩
  | n + 1 => let ⟨fd, F⟩ := D.F_holds_by; ⟨fd, F, fn_ok (k := n + 1) F sc_holds_by (fun cdv A outer s H E hr => jf_holds_by T hr (cal_holds_by n) (by omega)) (p_holds_by n)⟩
theorem cal_is_number : Cal P w K mg base d_is_number (ad_is_number K) 1 P_is_number (S_is_number) :=
  let ⟨fd, F⟩ := D.F_is_number; ⟨fd, F, fn_ok (k := 0) F sc_is_number (fun cdv A outer s H E hr => jf_is_number T hr ) (p_is_number)⟩
theorem cal_is_between : Cal P w K mg base d_is_between (ad_is_between K) 2 P_is_between (S_is_between) :=
  let ⟨fd, F⟩ := D.F_is_between; ⟨fd, F, fn_ok (k := 1) F sc_is_between (fun cdv A outer s H E hr => jf_is_between T hr (cal_is_number T D) (by decide)) (p_is_between)⟩
theorem cal_is_list : Cal P w K mg base d_is_list (ad_is_list K) 1 P_is_list (S_is_list) :=
  let ⟨fd, F⟩ := D.F_is_list; ⟨fd, F, fn_ok (k := 0) F sc_is_list (fun cdv A outer s H E hr => jf_is_list T hr ) (p_is_list)⟩
theorem cal_is_plain_word : Cal P w K mg base d_is_plain_word (ad_is_plain_word K) 1 P_is_plain_word (S_is_plain_word) :=
  let ⟨fd, F⟩ := D.F_is_plain_word; ⟨fd, F, fn_ok (k := 0) F sc_is_plain_word (fun cdv A outer s H E hr => jf_is_plain_word T hr ) (p_is_plain_word)⟩
theorem cal_are_unlike_words : Cal P w K mg base d_are_unlike_words (ad_are_unlike_words K) 2 P_are_unlike_words (S_are_unlike_words) :=
  let ⟨fd, F⟩ := D.F_are_unlike_words; ⟨fd, F, fn_ok (k := 1) F sc_are_unlike_words (fun cdv A outer s H E hr => jf_are_unlike_words T hr (cal_is_list T D) (by decide) (cal_is_plain_word T D) (by decide)) (p_are_unlike_words)⟩
theorem cal_is_fact_of : Cal P w K mg base d_is_fact_of (ad_is_fact_of K) 3 P_is_fact_of (S_is_fact_of) :=
  let ⟨fd, F⟩ := D.F_is_fact_of; ⟨fd, F, fn_ok (k := 2) F sc_is_fact_of (fun cdv A outer s H E hr => jf_is_fact_of T hr (cal_is_test_of T D) (by decide)) (p_is_fact_of)⟩
theorem cal_Tongue___init__ : Cal P w K mg base d_Tongue___init__ (ad_Tongue___init__ K) 4 P_Tongue___init__ (S_init (He.ga K "Tongue")) :=
  let ⟨fd, F⟩ := D.F_Tongue___init__; ⟨fd, F, fn_ok (k := 3) F sc_Tongue___init__ (fun cdv A outer s H E hr => jf_Tongue___init__ T hr (cal_are_unlike_words T D) (by decide) (cal_is_list T D) (by decide) (cal_is_fact_of T D) (by decide)) (p_init)⟩
theorem cal_Tongue_tests : Cal P w K mg base d_Tongue_tests (ad_Tongue_tests K) 1 P_Tongue_tests (S_Tongue_tests (He.ga K "Tongue")) :=
  let ⟨fd, F⟩ := D.F_Tongue_tests; ⟨fd, F, fn_ok (k := 0) F sc_Tongue_tests (fun cdv A outer s H E hr => jf_Tongue_tests T hr ) (p_Tongue_tests)⟩
theorem cal_Tongue_deeds : Cal P w K mg base d_Tongue_deeds (ad_Tongue_deeds K) 1 P_Tongue_deeds (S_Tongue_deeds (He.ga K "Tongue")) :=
  let ⟨fd, F⟩ := D.F_Tongue_deeds; ⟨fd, F, fn_ok (k := 0) F sc_Tongue_deeds (fun cdv A outer s H E hr => jf_Tongue_deeds T hr ) (p_Tongue_deeds)⟩
theorem cal_Tongue_facts : Cal P w K mg base d_Tongue_facts (ad_Tongue_facts K) 1 P_Tongue_facts (S_Tongue_facts (He.ga K "Tongue")) :=
  let ⟨fd, F⟩ := D.F_Tongue_facts; ⟨fd, F, fn_ok (k := 0) F sc_Tongue_facts (fun cdv A outer s H E hr => jf_Tongue_facts T hr ) (p_Tongue_facts)⟩
theorem cal_need_tongue : Cal P w K mg base d_need_tongue (ad_need_tongue K) 1 P_need_tongue (S_need_tongue (He.ga K "Tongue")) :=
  let ⟨fd, F⟩ := D.F_need_tongue; ⟨fd, F, fn_ok (k := 0) F sc_need_tongue (fun cdv A outer s H E hr => jf_need_tongue T hr ) (p_need_tongue T.kf_Tongue)⟩
theorem cal_many_atoms : Cal P w K mg base d_many_atoms (ad_many_atoms K) 3 P_many_atoms (S_many_atoms (He.ga K "Tongue")) :=
  let ⟨fd, F⟩ := D.F_many_atoms; ⟨fd, F, fn_ok (k := 2) F sc_many_atoms (fun cdv A outer s H E hr => jf_many_atoms T hr (cal_Tongue_tests T D) (by decide)) (p_many_atoms)⟩
theorem cal_is_atom : Cal P w K mg base d_is_atom (ad_is_atom K) 4 P_is_atom (S_is_atom (He.ga K "Tongue")) :=
  let ⟨fd, F⟩ := D.F_is_atom; ⟨fd, F, fn_ok (k := 3) F sc_is_atom (fun cdv A outer s H E hr => jf_is_atom T hr (cal_is_between T D) (by decide) (cal_many_atoms T D) (by decide)) (p_is_atom)⟩
theorem cal_need_atom : Cal P w K mg base d_need_atom (ad_need_atom K) 5 P_need_atom (S_need_atom (He.ga K "Tongue")) :=
  let ⟨fd, F⟩ := D.F_need_atom; ⟨fd, F, fn_ok (k := 4) F sc_need_atom (fun cdv A outer s H E hr => jf_need_atom T hr (cal_is_atom T D) (by decide)) (p_need_atom)⟩
theorem cal_is_deed : Cal P w K mg base d_is_deed (ad_is_deed K) 3 P_is_deed (S_is_deed (He.ga K "Tongue")) :=
  let ⟨fd, F⟩ := D.F_is_deed; ⟨fd, F, fn_ok (k := 2) F sc_is_deed (fun cdv A outer s H E hr => jf_is_deed T hr (cal_Tongue_deeds T D) (by decide)) (p_is_deed)⟩
theorem cal_need_deed : Cal P w K mg base d_need_deed (ad_need_deed K) 4 P_need_deed (S_need_deed (He.ga K "Tongue")) :=
  let ⟨fd, F⟩ := D.F_need_deed; ⟨fd, F, fn_ok (k := 3) F sc_need_deed (fun cdv A outer s H E hr => jf_need_deed T hr (cal_is_deed T D) (by decide)) (p_need_deed)⟩
theorem cal_bars_atom : Cal P w K mg base d_bars_atom (ad_bars_atom K) 14 P_bars_atom (S_bars_atom (He.ga K "Tongue")) :=
  let ⟨fd, F⟩ := D.F_bars_atom; ⟨fd, F, fn_ok (k := 13) F sc_bars_atom (fun cdv A outer s H E hr => jf_bars_atom T hr (cal_holds_by T D 12) (by decide) (cal_Tongue_tests T D) (by decide)) (p_bars_atom)⟩
theorem cal_bars_step : Cal P w K mg base d_bars_step (ad_bars_step K) 14 P_bars_step (S_bars_step (He.ga K "Tongue")) :=
  let ⟨fd, F⟩ := D.F_bars_step; ⟨fd, F, fn_ok (k := 13) F sc_bars_step (fun cdv A outer s H E hr => jf_bars_step T hr (cal_holds_by T D 12) (by decide) (cal_Tongue_tests T D) (by decide)) (p_bars_step)⟩
theorem cal_is_open : Cal P w K mg base d_is_open (ad_is_open K) 15 P_is_open (S_is_open (He.ga K "Tongue")) :=
  let ⟨fd, F⟩ := D.F_is_open; ⟨fd, F, fn_ok (k := 14) F sc_is_open (fun cdv A outer s H E hr => jf_is_open T hr (cal_Tongue_facts T D) (by decide) (cal_bars_atom T D) (by decide)) (p_is_open)⟩
theorem cal_bar_of : Cal P w K mg base d_bar_of (ad_bar_of K) 15 P_bar_of (S_bar_of (He.ga K "Tongue")) :=
  let ⟨fd, F⟩ := D.F_bar_of; ⟨fd, F, fn_ok (k := 14) F sc_bar_of (fun cdv A outer s H E hr => jf_bar_of T hr (cal_Tongue_facts T D) (by decide) (cal_bars_atom T D) (by decide) (cal_bars_step T D) (by decide)) (p_bar_of)⟩
theorem cal_open_lot : Cal P w K mg base d_open_lot (ad_open_lot K) 16 P_open_lot (S_open_lot (He.ga K "Tongue")) :=
  let ⟨fd, F⟩ := D.F_open_lot; ⟨fd, F, fn_ok (k := 15) F sc_open_lot (fun cdv A outer s H E hr => jf_open_lot T hr (cal_many_atoms T D) (by decide) (cal_is_open T D) (by decide)) (p_open_lot)⟩
theorem cal_lot_after : Cal P w K mg base d_lot_after (ad_lot_after K) 16 P_lot_after (S_lot_after (He.ga K "Tongue")) :=
  let ⟨fd, F⟩ := D.F_lot_after; ⟨fd, F, fn_ok (k := 15) F sc_lot_after (fun cdv A outer s H E hr => jf_lot_after T hr (cal_many_atoms T D) (by decide) (cal_bar_of T D) (by decide)) (p_lot_after)⟩
theorem cal_is_kept : Cal P w K mg base d_is_kept (ad_is_kept K) 17 P_is_kept (S_is_kept (He.ga K "Tongue")) :=
  let ⟨fd, F⟩ := D.F_is_kept; ⟨fd, F, fn_ok (k := 16) F sc_is_kept (fun cdv A outer s H E hr => jf_is_kept T hr (cal_open_lot T D) (by decide) (cal_bars_atom T D) (by decide) (cal_lot_after T D) (by decide) (cal_bars_step T D) (by decide)) (p_is_kept)⟩
theorem cal_open_atoms : Cal P w K mg base d_open_atoms (ad_open_atoms K) 17 P_open_atoms (S_open_atoms (He.ga K "Tongue")) :=
  let ⟨fd, F⟩ := D.F_open_atoms; ⟨fd, F, fn_ok (k := 16) F sc_open_atoms (fun cdv A outer s H E hr => jf_open_atoms T hr (cal_need_tongue T D) (by decide) (cal_open_lot T D) (by decide)) (p_open_atoms)⟩
theorem cal_open_after : Cal P w K mg base d_open_after (ad_open_after K) 17 P_open_after (S_open_after (He.ga K "Tongue")) :=
  let ⟨fd, F⟩ := D.F_open_after; ⟨fd, F, fn_ok (k := 16) F sc_open_after (fun cdv A outer s H E hr => jf_open_after T hr (cal_need_tongue T D) (by decide) (cal_need_atom T D) (by decide) (cal_need_deed T D) (by decide) (cal_lot_after T D) (by decide)) (p_open_after)⟩
theorem cal_barring : Cal P w K mg base d_barring (ad_barring K) 16 P_barring (S_barring (He.ga K "Tongue")) :=
  let ⟨fd, F⟩ := D.F_barring; ⟨fd, F, fn_ok (k := 15) F sc_barring (fun cdv A outer s H E hr => jf_barring T hr (cal_need_tongue T D) (by decide) (cal_need_atom T D) (by decide) (cal_need_deed T D) (by decide) (cal_is_atom T D) (by decide) (cal_bar_of T D) (by decide)) (p_barring)⟩
theorem cal_follows : Cal P w K mg base d_follows (ad_follows K) 18 P_follows (S_follows (He.ga K "Tongue")) :=
  let ⟨fd, F⟩ := D.F_follows; ⟨fd, F, fn_ok (k := 17) F sc_follows (fun cdv A outer s H E hr => jf_follows T hr (cal_need_tongue T D) (by decide) (cal_is_fact_of T D) (by decide) (cal_Tongue_deeds T D) (by decide) (cal_Tongue_tests T D) (by decide) (cal_is_kept T D) (by decide)) (p_follows)⟩
theorem cal_needless : Cal P w K mg base d_needless (ad_needless K) 18 P_needless (S_needless (He.ga K "Tongue")) :=
  let ⟨fd, F⟩ := D.F_needless; ⟨fd, F, fn_ok (k := 17) F sc_needless (fun cdv A outer s H E hr => jf_needless T hr (cal_need_tongue T D) (by decide) (cal_Tongue_facts T D) (by decide) (cal_Tongue___init__ T D) (by decide) (cal_Tongue_deeds T D) (by decide) (cal_Tongue_tests T D) (by decide) (cal_is_kept T D) (by decide)) (p_needless)⟩
theorem cal__law_mixed : Cal P w K mg base d__law_mixed (ad__law_mixed K) 1 P__law_mixed (S__law_mixed) :=
  let ⟨fd, F⟩ := D.F__law_mixed; ⟨fd, F, fn_ok (k := 0) F sc__law_mixed (fun cdv A outer s H E hr => jf__law_mixed T hr ) (p__law_mixed)⟩
theorem cal__law_take : Cal P w K mg base d__law_take (ad__law_take K) 2 P__law_take (S__law_take) :=
  let ⟨fd, F⟩ := D.F__law_take; ⟨fd, F, fn_ok (k := 1) F sc__law_take (fun cdv A outer s H E hr => jf__law_take T hr (cal__law_mixed T D) (by decide)) (p__law_take)⟩
theorem cal__law_pick : Cal P w K mg base d__law_pick (ad__law_pick K) 3 P__law_pick (S__law_pick) :=
  let ⟨fd, F⟩ := D.F__law_pick; ⟨fd, F, fn_ok (k := 2) F sc__law_pick (fun cdv A outer s H E hr => jf__law_pick T hr (cal__law_take T D) (by decide)) (p__law_pick)⟩
theorem cal__law_shuffled : Cal P w K mg base d__law_shuffled (ad__law_shuffled K) 3 P__law_shuffled (S__law_shuffled) :=
  let ⟨fd, F⟩ := D.F__law_shuffled; ⟨fd, F, fn_ok (k := 2) F sc__law_shuffled (fun cdv A outer s H E hr => jf__law_shuffled T hr (cal__law_take T D) (by decide)) (p__law_shuffled)⟩
theorem cal__law_kinds : Cal P w K mg base d__law_kinds (ad__law_kinds K) 1 P__law_kinds (S__law_kinds) :=
  let ⟨fd, F⟩ := D.F__law_kinds; ⟨fd, F, fn_ok (k := 0) F sc__law_kinds (fun cdv A outer s H E hr => jf__law_kinds T hr ) (p__law_kinds)⟩
theorem cal__law_says : Cal P w K mg base d__law_says (ad__law_says K) 2 P__law_says (S__law_says) :=
  let ⟨fd, F⟩ := D.F__law_says; ⟨fd, F, fn_ok (k := 1) F sc__law_says (fun cdv A outer s H E hr => jf__law_says T hr (cal__law_kinds T D) (by decide)) (p__law_says)⟩
theorem cal__law_holds : ∀ n, Cal P w K mg base d__law_holds (ad__law_holds K) (n + 1) P__law_holds (S__law_holds n)
  | 0 => let ⟨fd, F⟩ := D.F__law_holds; ⟨fd, F, fnOk_no fun ss μ k z => by unfold S__law_holds at z; simp at z⟩
  | n + 1 => let ⟨fd, F⟩ := D.F__law_holds; ⟨fd, F, fn_ok (k := n + 1) F sc__law_holds (fun cdv A outer s H E hr => jf__law_holds T hr (cal__law_holds n) (by omega)) (p__law_holds n)⟩
theorem cal__law_atoms : Cal P w K mg base d__law_atoms (ad__law_atoms K) 1 P__law_atoms (S__law_atoms) :=
  let ⟨fd, F⟩ := D.F__law_atoms; ⟨fd, F, fn_ok (k := 0) F sc__law_atoms (fun cdv A outer s H E hr => jf__law_atoms T hr ) (p__law_atoms)⟩
theorem cal__law_bars : Cal P w K mg base d__law_bars (ad__law_bars K) 14 P__law_bars (S__law_bars) :=
  let ⟨fd, F⟩ := D.F__law_bars; ⟨fd, F, fn_ok (k := 13) F sc__law_bars (fun cdv A outer s H E hr => jf__law_bars T hr (cal__law_holds T D 12) (by decide)) (p__law_bars)⟩
theorem cal__law_open : Cal P w K mg base d__law_open (ad__law_open K) 14 P__law_open (S__law_open) :=
  let ⟨fd, F⟩ := D.F__law_open; ⟨fd, F, fn_ok (k := 13) F sc__law_open (fun cdv A outer s H E hr => jf__law_open T hr (cal__law_atoms T D) (by decide) (cal__law_holds T D 12) (by decide)) (p__law_open)⟩
theorem cal__law_test : ∀ n, Cal P w K mg base d__law_test (ad__law_test K) (n + 4) P__law_test (S__law_test n)
  | 0 => let ⟨fd, F⟩ := D.F__law_test; ⟨fd, F, fnOk_no fun ss μ k z => by unfold S__law_test at z; simp at z⟩
  | n + 1 => let ⟨fd, F⟩ := D.F__law_test; ⟨fd, F, fn_ok (k := n + 4) F sc__law_test (fun cdv A outer s H E hr => jf__law_test T hr (cal__law_take T D) (by omega) (cal__law_pick T D) (by omega) (cal__law_test n) (by omega)) (p__law_test n)⟩
theorem cal__law_words : Cal P w K mg base d__law_words (ad__law_words K) 4 P__law_words (S__law_words) :=
  let ⟨fd, F⟩ := D.F__law_words; ⟨fd, F, fn_ok (k := 3) F sc__law_words (fun cdv A outer s H E hr => jf__law_words T hr (cal__law_shuffled T D) (by decide)) (p__law_words)⟩
theorem cal__law_fact : Cal P w K mg base d__law_fact (ad__law_fact K) 8 P__law_fact (S__law_fact) :=
  let ⟨fd, F⟩ := D.F__law_fact; ⟨fd, F, fn_ok (k := 7) F sc__law_fact (fun cdv A outer s H E hr => jf__law_fact T hr (cal__law_pick T D) (by decide) (cal__law_test T D 3) (by decide)) (p__law_fact)⟩
theorem cal__law_told : Cal P w K mg base d__law_told (ad__law_told K) 15 P__law_told (S__law_told) :=
  let ⟨fd, F⟩ := D.F__law_told; ⟨fd, F, fn_ok (k := 14) F sc__law_told (fun cdv A outer s H E hr => jf__law_told T hr (cal__law_take T D) (by decide) (cal__law_pick T D) (by decide) (cal__law_words T D) (by decide) (cal__law_fact T D) (by decide) (cal__law_open T D) (by decide)) (p__law_told)⟩
theorem cal__law_worlds : Cal P w K mg base d__law_worlds (ad__law_worlds K) 2 P__law_worlds (S__law_worlds) :=
  let ⟨fd, F⟩ := D.F__law_worlds; ⟨fd, F, fn_ok (k := 1) F sc__law_worlds (fun cdv A outer s H E hr => jf__law_worlds T hr (cal__law_atoms T D) (by decide)) (p__law_worlds)⟩
theorem cal__law_keeps : Cal P w K mg base d__law_keeps (ad__law_keeps K) 15 P__law_keeps (S__law_keeps) :=
  let ⟨fd, F⟩ := D.F__law_keeps; ⟨fd, F, fn_ok (k := 14) F sc__law_keeps (fun cdv A outer s H E hr => jf__law_keeps T hr (cal__law_holds T D 12) (by decide) (cal__law_bars T D) (by decide)) (p__law_keeps)⟩
theorem cal__law_kept : Cal P w K mg base d__law_kept (ad__law_kept K) 16 P__law_kept (S__law_kept) :=
  let ⟨fd, F⟩ := D.F__law_kept; ⟨fd, F, fn_ok (k := 15) F sc__law_kept (fun cdv A outer s H E hr => jf__law_kept T hr (cal__law_worlds T D) (by decide) (cal__law_keeps T D) (by decide)) (p__law_kept)⟩
theorem cal_open_table : Cal P w K mg base d_open_table (ad_open_table K) 17 P_open_table (S_open_table (He.ga K "Tongue")) :=
  let ⟨fd, F⟩ := D.F_open_table; ⟨fd, F, fn_ok (k := 16) F sc_open_table (fun cdv A outer s H E hr => jf_open_table T hr (cal_open_lot T D) (by decide) (cal_Tongue_deeds T D) (by decide) (cal_lot_after T D) (by decide)) (p_open_table)⟩
theorem cal_same_facts : Cal P w K mg base d_same_facts (ad_same_facts K) 18 P_same_facts (S_same_facts (He.ga K "Tongue")) :=
  let ⟨fd, F⟩ := D.F_same_facts; ⟨fd, F, fn_ok (k := 17) F sc_same_facts (fun cdv A outer s H E hr => jf_same_facts T hr (cal_Tongue_tests T D) (by decide) (cal_Tongue_deeds T D) (by decide) (cal_open_lot T D) (by decide) (cal_open_table T D) (by decide)) (p_same_facts T.kf_Tongue)⟩
theorem cal__law_right : Cal P w K mg base d__law_right (ad__law_right K) 19 P__law_right (S__law_right) :=
  let ⟨fd, F⟩ := D.F__law_right; ⟨fd, F, fn_ok (k := 18) F sc__law_right (fun cdv A outer s H E hr => jf__law_right T hr (cal__law_told T D) (by decide) (cal__law_pick T D) (by decide) (cal__law_fact T D) (by decide) (cal__law_kept T D) (by decide) (cal_Tongue___init__ T D) (by decide) (cal__law_atoms T D) (by decide) (cal__law_says T D) (by decide) (cal_open_atoms T D) (by decide) (cal_open_after T D) (by decide) (cal__law_keeps T D) (by decide) (cal_barring T D) (by decide) (cal_follows T D) (by decide) (cal_needless T D) (by decide) (cal__law_shuffled T D) (by decide) (cal_same_facts T D) (by decide)) (p__law_right)⟩
theorem cal__law_begun : Cal P w K mg base d__law_begun (ad__law_begun K) 1 P__law_begun (S__law_begun) :=
  let ⟨fd, F⟩ := D.F__law_begun; ⟨fd, F, fn_okC (k := 0) F sc__law_begun (fun cdv A outer s H E hr => jf__law_begun T hr ) (p__law_begun)⟩
end
theorem cal_law {P : Program} {w : World} {K : Fg} {mg : Str → Option Value} {base : Heap} (T : Top K mg) (D : Fds K) (TX : TopX K mg) (TB : LamX.TabB base mg (He.cT K ("law", none)).1 (He.cT K ("law", none)).2) {fd : FuncData}
    (F : FunD K d_law.name d_law.qual d_law.params d_law.body d_law.scope (d_law.dvs K) (d_law.kws K) (ad_law K) fd) : FnOk P w K mg base CX0 20 (ad_law K) fd P_law (spLaw (He.cT K ("law", none)).2) := by
  obtain ⟨fdC, FC⟩ := D.F__law_caught
  obtain ⟨fdS, FS⟩ := D.F_same_facts
  exact law_ok (lv := 19) (m := 6) T TX F FC FS TB (cal__law_begun T D) (by decide) (cal__law_right T D) (by decide) (cal_Tongue___init__ T D) (by decide) (cal__law_says T D) (by decide) (cal_open_after T D) (by decide) (cal_barring T D) (by decide)
    (x_same_facts (n := 5) T TX T.kf_Tongue FS (cal_Tongue_tests T D) (by decide) (cal_Tongue_deeds T D) (by decide)) (by decide)
def lawLv : Nat := 20
end K01
namespace K01
open PySem PySem.Spec PyProof.Rows L2 Ww
/-! k01: the head -/
def hfn0 : List He5.DefA := [toA d_inner_tests ad_inner_tests, toA d_is_test_of ad_is_test_of, toA d_holds_by ad_holds_by, toA d_is_number ad_is_number, toA d_is_between ad_is_between, toA d_is_list ad_is_list, toA d_is_plain_word ad_is_plain_word, toA d_are_unlike_words ad_are_unlike_words, toA d_is_fact_of ad_is_fact_of, toA d_Tongue___init__ ad_Tongue___init__, toA d_Tongue_tests ad_Tongue_tests, toA d_Tongue_deeds ad_Tongue_deeds, toA d_Tongue_facts ad_Tongue_facts, toA d_need_tongue ad_need_tongue, toA d_many_atoms ad_many_atoms, toA d_is_atom ad_is_atom, toA d_need_atom ad_need_atom, toA d_is_deed ad_is_deed, toA d_need_deed ad_need_deed, toA d_bars_atom ad_bars_atom]
def hfn1 : List He5.DefA := [toA d_bars_step ad_bars_step, toA d_is_open ad_is_open, toA d_bar_of ad_bar_of, toA d_open_lot ad_open_lot, toA d_lot_after ad_lot_after, toA d_is_kept ad_is_kept, toA d_open_atoms ad_open_atoms, toA d_open_after ad_open_after, toA d_barring ad_barring, toA d_follows ad_follows, toA d_needless ad_needless, toA d__law_mixed ad__law_mixed, toA d__law_take ad__law_take, toA d__law_pick ad__law_pick, toA d__law_shuffled ad__law_shuffled, toA d__law_kinds ad__law_kinds, toA d__law_says ad__law_says, toA d__law_holds ad__law_holds, toA d__law_atoms ad__law_atoms, toA d__law_bars ad__law_bars]
def hfn2 : List He5.DefA := [toA d__law_open ad__law_open, toA d__law_test ad__law_test, toA d__law_words ad__law_words, toA d__law_fact ad__law_fact, toA d__law_told ad__law_told, toA d__law_worlds ad__law_worlds, toA d__law_keeps ad__law_keeps, toA d__law_kept ad__law_kept, toA d__law_right ad__law_right, toA d_open_table ad_open_table, toA d__law_begun ad__law_begun, toA d_same_facts ad_same_facts, toA d__law_caught ad__law_caught, toA d_law ad_law]
def hfn : List He5.DefA := hfn0 ++ (hfn1 ++ (hfn2))
def hfa0 : List He.Fa := [.glo "inner_tests", .glo "is_test_of", .glo "holds_by", .glo "is_number", .glo "is_between", .glo "is_list", .glo "is_plain_word", .glo "are_unlike_words", .glo "is_fact_of", .glo "need_tongue", .glo "many_atoms", .glo "is_atom", .glo "need_atom", .glo "is_deed", .glo "need_deed", .glo "bars_atom", .glo "bars_step", .glo "is_open", .glo "bar_of", .glo "open_lot"]
def hfa1 : List He.Fa := [.glo "lot_after", .glo "open_table", .glo "is_kept", .glo "open_atoms", .glo "open_after", .glo "barring", .glo "follows", .glo "needless", .glo "same_facts", .glo "_law_begun", .glo "_law_mixed", .glo "_law_take", .glo "_law_pick", .glo "_law_shuffled", .glo "_law_caught", .glo "_law_kinds", .glo "_law_says", .glo "_law_holds", .glo "_law_atoms", .glo "_law_bars"]
def hfa2 : List He.Fa := [.glo "_law_open", .glo "_law_test", .glo "_law_words", .glo "_law_fact", .glo "_law_told", .glo "_law_worlds", .glo "_law_keeps", .glo "_law_kept", .glo "_law_right", .glo "law", .free "len", .free "isinstance", .free "range", .free "enumerate", .free "list", .free "tuple", .free "int", .free "abs", .free "str", .free "all"]
def hfa3 : List He.Fa := [.free "any", .free "set", .free "min", .free "dict", .free "bool", .free "repr", .free "sorted", .free "zip", .int "MOST_TESTS" 60, .int "MOST_TEST_LEVELS" 20, .str "LETTERS" "abcdefghijklmnopqrstuvwxyz", .int "MOST_LETTERS" 8, .int "MOST_TESTED" 3, .int "MOST_DEEDS" 4, .int "MOST_FACTS" 8, .glo "KEPT_WORDS", .glo "Tongue", .cls "Tongue", .mkr "Tongue", .noat "Tongue" "t_tests"]
def hfa4 : List He.Fa := [.noat "Tongue" "t_deeds", .noat "Tongue" "t_facts", .glo "WorldError", .glo "OtherWords", .exc "OtherWords", .exm "OtherWords" "WorldError" true]
def hfa : List He.Fa := hfa0 ++ (hfa1 ++ (hfa2 ++ (hfa3 ++ (hfa4))))
def hloose0 : List PySem.Str := ["WorldError", "BadAtom", "BadDeed", "BadDeeds", "BadFact", "BadFacts", "BadOne", "BadOther", "BadTests", "BadTongue", "OtherWords", "MOST_TESTS", "MOST_TEST_LEVELS", "inner_tests", "is_test_of", "holds_by", "LETTERS", "MOST_LETTERS", "is_number", "is_between"]
def hloose1 : List PySem.Str := ["is_list", "is_plain_word", "are_unlike_words", "MOST_TESTED", "MOST_DEEDS", "MOST_FACTS", "KEPT_WORDS", "is_fact_of", "Tongue", "need_tongue", "many_atoms", "is_atom", "need_atom", "is_deed", "need_deed", "bars_atom", "bars_step", "is_open", "bar_of", "open_lot"]
def hloose2 : List PySem.Str := ["lot_after", "open_table", "is_kept", "open_atoms", "open_after", "barring", "follows", "needless", "same_facts", "_law_begun", "_law_mixed", "_law_take", "_law_pick", "_law_shuffled", "_law_caught", "_law_kinds", "_law_says", "_law_holds", "_law_atoms", "_law_bars"]
def hloose3 : List PySem.Str := ["_law_open", "_law_test", "_law_words", "_law_fact", "_law_told", "_law_worlds", "_law_keeps", "_law_kept", "_law_right"]
def hloose : List PySem.Str := hloose0 ++ (hloose1 ++ (hloose2 ++ (hloose3)))
def hex (K : Fg) : Bool := (propB K "Tongue" "tests" && (propB K "Tongue" "deeds" && (propB K "Tongue" "facts" && (kindB K (He.ga K "Tongue") && (exkB K (He.ga K "OtherWords") && (nilB K (He.dflAt ("Tongue", some "__init__") 0 K) && He.tupB K "KEPT_WORDS" [.str "yes", .str "no", .str "not", .str "and", .str "or"]))))))
theorem htop {K : Fg} {h : Heap} {mg : Str → Option Value} (X : K.In h) (G : h.Ns mainGlobals mg) (c : SaysY hfa hfn [("law", none)] hex h K) : Top K mg := by
  obtain ⟨e1, m⟩ := Bool.and_eq_true_iff.mp c.more
  obtain ⟨e2, m⟩ := Bool.and_eq_true_iff.mp m
  obtain ⟨e3, m⟩ := Bool.and_eq_true_iff.mp m
  obtain ⟨e4, m⟩ := Bool.and_eq_true_iff.mp m
  obtain ⟨e5, m⟩ := Bool.and_eq_true_iff.mp m
  obtain ⟨e6, e7⟩ := Bool.and_eq_true_iff.mp m
  have cl : Cls K (He.ga K "Tongue") := He.cls_ok (c.t.fact 77 (f := .cls "Tongue") rfl)
  exact {
    g_inner_tests := He.glo_ok X G (c.t.fact 0 (f := .glo "inner_tests") rfl)
    g_is_test_of := He.glo_ok X G (c.t.fact 1 (f := .glo "is_test_of") rfl)
    g_holds_by := He.glo_ok X G (c.t.fact 2 (f := .glo "holds_by") rfl)
    g_is_number := He.glo_ok X G (c.t.fact 3 (f := .glo "is_number") rfl)
    g_is_between := He.glo_ok X G (c.t.fact 4 (f := .glo "is_between") rfl)
    g_is_list := He.glo_ok X G (c.t.fact 5 (f := .glo "is_list") rfl)
    g_is_plain_word := He.glo_ok X G (c.t.fact 6 (f := .glo "is_plain_word") rfl)
    g_are_unlike_words := He.glo_ok X G (c.t.fact 7 (f := .glo "are_unlike_words") rfl)
    g_is_fact_of := He.glo_ok X G (c.t.fact 8 (f := .glo "is_fact_of") rfl)
    g_need_tongue := He.glo_ok X G (c.t.fact 9 (f := .glo "need_tongue") rfl)
    g_many_atoms := He.glo_ok X G (c.t.fact 10 (f := .glo "many_atoms") rfl)
    g_is_atom := He.glo_ok X G (c.t.fact 11 (f := .glo "is_atom") rfl)
    g_need_atom := He.glo_ok X G (c.t.fact 12 (f := .glo "need_atom") rfl)
    g_is_deed := He.glo_ok X G (c.t.fact 13 (f := .glo "is_deed") rfl)
    g_need_deed := He.glo_ok X G (c.t.fact 14 (f := .glo "need_deed") rfl)
    g_bars_atom := He.glo_ok X G (c.t.fact 15 (f := .glo "bars_atom") rfl)
    g_bars_step := He.glo_ok X G (c.t.fact 16 (f := .glo "bars_step") rfl)
    g_is_open := He.glo_ok X G (c.t.fact 17 (f := .glo "is_open") rfl)
    g_bar_of := He.glo_ok X G (c.t.fact 18 (f := .glo "bar_of") rfl)
    g_open_lot := He.glo_ok X G (c.t.fact 19 (f := .glo "open_lot") rfl)
    g_lot_after := He.glo_ok X G (c.t.fact 20 (f := .glo "lot_after") rfl)
    g_open_table := He.glo_ok X G (c.t.fact 21 (f := .glo "open_table") rfl)
    g_is_kept := He.glo_ok X G (c.t.fact 22 (f := .glo "is_kept") rfl)
    g_open_atoms := He.glo_ok X G (c.t.fact 23 (f := .glo "open_atoms") rfl)
    g_open_after := He.glo_ok X G (c.t.fact 24 (f := .glo "open_after") rfl)
    g_barring := He.glo_ok X G (c.t.fact 25 (f := .glo "barring") rfl)
    g_follows := He.glo_ok X G (c.t.fact 26 (f := .glo "follows") rfl)
    g_needless := He.glo_ok X G (c.t.fact 27 (f := .glo "needless") rfl)
    g_same_facts := He.glo_ok X G (c.t.fact 28 (f := .glo "same_facts") rfl)
    g__law_begun := He.glo_ok X G (c.t.fact 29 (f := .glo "_law_begun") rfl)
    g__law_mixed := He.glo_ok X G (c.t.fact 30 (f := .glo "_law_mixed") rfl)
    g__law_take := He.glo_ok X G (c.t.fact 31 (f := .glo "_law_take") rfl)
    g__law_pick := He.glo_ok X G (c.t.fact 32 (f := .glo "_law_pick") rfl)
    g__law_shuffled := He.glo_ok X G (c.t.fact 33 (f := .glo "_law_shuffled") rfl)
    g__law_caught := He.glo_ok X G (c.t.fact 34 (f := .glo "_law_caught") rfl)
    g__law_kinds := He.glo_ok X G (c.t.fact 35 (f := .glo "_law_kinds") rfl)
    g__law_says := He.glo_ok X G (c.t.fact 36 (f := .glo "_law_says") rfl)
    g__law_holds := He.glo_ok X G (c.t.fact 37 (f := .glo "_law_holds") rfl)
    g__law_atoms := He.glo_ok X G (c.t.fact 38 (f := .glo "_law_atoms") rfl)
    g__law_bars := He.glo_ok X G (c.t.fact 39 (f := .glo "_law_bars") rfl)
    g__law_open := He.glo_ok X G (c.t.fact 40 (f := .glo "_law_open") rfl)
    g__law_test := He.glo_ok X G (c.t.fact 41 (f := .glo "_law_test") rfl)
    g__law_words := He.glo_ok X G (c.t.fact 42 (f := .glo "_law_words") rfl)
    g__law_fact := He.glo_ok X G (c.t.fact 43 (f := .glo "_law_fact") rfl)
    g__law_told := He.glo_ok X G (c.t.fact 44 (f := .glo "_law_told") rfl)
    g__law_worlds := He.glo_ok X G (c.t.fact 45 (f := .glo "_law_worlds") rfl)
    g__law_keeps := He.glo_ok X G (c.t.fact 46 (f := .glo "_law_keeps") rfl)
    g__law_kept := He.glo_ok X G (c.t.fact 47 (f := .glo "_law_kept") rfl)
    g__law_right := He.glo_ok X G (c.t.fact 48 (f := .glo "_law_right") rfl)
    g_law := He.glo_ok X G (c.t.fact 49 (f := .glo "law") rfl)
    b_len := He.free_ok X G (c.t.fact 50 (f := .free "len") rfl)
    b_isinstance := He.free_ok X G (c.t.fact 51 (f := .free "isinstance") rfl)
    b_range := He.free_ok X G (c.t.fact 52 (f := .free "range") rfl)
    b_enumerate := He.free_ok X G (c.t.fact 53 (f := .free "enumerate") rfl)
    b_list := He.free_ok X G (c.t.fact 54 (f := .free "list") rfl)
    b_tuple := He.free_ok X G (c.t.fact 55 (f := .free "tuple") rfl)
    b_int := He.free_ok X G (c.t.fact 56 (f := .free "int") rfl)
    b_abs := He.free_ok X G (c.t.fact 57 (f := .free "abs") rfl)
    b_str := He.free_ok X G (c.t.fact 58 (f := .free "str") rfl)
    b_all := He.free_ok X G (c.t.fact 59 (f := .free "all") rfl)
    b_any := He.free_ok X G (c.t.fact 60 (f := .free "any") rfl)
    b_set := He.free_ok X G (c.t.fact 61 (f := .free "set") rfl)
    b_min := He.free_ok X G (c.t.fact 62 (f := .free "min") rfl)
    b_dict := He.free_ok X G (c.t.fact 63 (f := .free "dict") rfl)
    b_bool := He.free_ok X G (c.t.fact 64 (f := .free "bool") rfl)
    b_repr := He.free_ok X G (c.t.fact 65 (f := .free "repr") rfl)
    b_sorted := He.free_ok X G (c.t.fact 66 (f := .free "sorted") rfl)
    b_zip := He.free_ok X G (c.t.fact 67 (f := .free "zip") rfl)
    g_MOST_TESTS := let ⟨t, e⟩ := He.int_ok X G (c.t.fact 68 (f := .int "MOST_TESTS" 60) rfl); ⟨_, e, t, rfl⟩
    g_MOST_TEST_LEVELS := let ⟨t, e⟩ := He.int_ok X G (c.t.fact 69 (f := .int "MOST_TEST_LEVELS" 20) rfl); ⟨_, e, t, rfl⟩
    g_LETTERS := let ⟨t, e⟩ := He.str_ok X G (c.t.fact 70 (f := .str "LETTERS" "abcdefghijklmnopqrstuvwxyz") rfl); ⟨_, e, t, rfl⟩
    g_MOST_LETTERS := let ⟨t, e⟩ := He.int_ok X G (c.t.fact 71 (f := .int "MOST_LETTERS" 8) rfl); ⟨_, e, t, rfl⟩
    g_MOST_TESTED := let ⟨t, e⟩ := He.int_ok X G (c.t.fact 72 (f := .int "MOST_TESTED" 3) rfl); ⟨_, e, t, rfl⟩
    g_MOST_DEEDS := let ⟨t, e⟩ := He.int_ok X G (c.t.fact 73 (f := .int "MOST_DEEDS" 4) rfl); ⟨_, e, t, rfl⟩
    g_MOST_FACTS := let ⟨t, e⟩ := He.int_ok X G (c.t.fact 74 (f := .int "MOST_FACTS" 8) rfl); ⟨_, e, t, rfl⟩
    g_KEPT_WORDS := He.glo_ok X G (c.t.fact 75 (f := .glo "KEPT_WORDS") rfl)
    q_KEPT_WORDS := fun H => He.tupB_ok e7 H
    q_dfl := fun H => nilB_ok e6 H
    g_Tongue := He.glo_ok X G (c.t.fact 76 (f := .glo "Tongue") rfl)
    cls_Tongue := cl
    mk_Tongue := He.mkr_ok (c.t.fact 78 (f := .mkr "Tongue") rfl)
    kf_Tongue := kindB_ok cl e4
    p_Tongue_tests := propB_ok e1
    p_Tongue_deeds := propB_ok e2
    p_Tongue_facts := propB_ok e3
    no_Tongue_t_tests := He.noat_ok (c.t.fact 79 (f := .noat "Tongue" "t_tests") rfl)
    no_Tongue_t_deeds := He.noat_ok (c.t.fact 80 (f := .noat "Tongue" "t_deeds") rfl)
    no_Tongue_t_facts := He.noat_ok (c.t.fact 81 (f := .noat "Tongue" "t_facts") rfl) }
theorem htopx {K : Fg} {h : Heap} {mg : Str → Option Value} (X : K.In h) (G : h.Ns mainGlobals mg) (c : SaysY hfa hfn [("law", none)] hex h K) : TopX K mg := by
  obtain ⟨e1, m⟩ := Bool.and_eq_true_iff.mp c.more
  obtain ⟨e2, m⟩ := Bool.and_eq_true_iff.mp m
  obtain ⟨e3, m⟩ := Bool.and_eq_true_iff.mp m
  obtain ⟨e4, m⟩ := Bool.and_eq_true_iff.mp m
  obtain ⟨e5, m⟩ := Bool.and_eq_true_iff.mp m
  exact ⟨He.glo_ok X G (c.t.fact 82 (f := .glo "WorldError") rfl), He.glo_ok X G (c.t.fact 83 (f := .glo "OtherWords") rfl), He.exc_ok (c.t.fact 84 (f := .exc "OtherWords") rfl), exkB_ok e5, He.exm_ok (c.t.fact 85 (f := .exm "OtherWords" "WorldError" true) rfl)⟩
theorem hfds {K : Fg} {h : Heap} (c : SaysY hfa hfn [("law", none)] hex h K) : Fds K := {
    F_inner_tests := c.t.def_ 0 (d := toA d_inner_tests ad_inner_tests) rfl
    F_is_test_of := c.t.def_ 1 (d := toA d_is_test_of ad_is_test_of) rfl
    F_holds_by := c.t.def_ 2 (d := toA d_holds_by ad_holds_by) rfl
    F_is_number := c.t.def_ 3 (d := toA d_is_number ad_is_number) rfl
    F_is_between := c.t.def_ 4 (d := toA d_is_between ad_is_between) rfl
    F_is_list := c.t.def_ 5 (d := toA d_is_list ad_is_list) rfl
    F_is_plain_word := c.t.def_ 6 (d := toA d_is_plain_word ad_is_plain_word) rfl
    F_are_unlike_words := c.t.def_ 7 (d := toA d_are_unlike_words ad_are_unlike_words) rfl
    F_is_fact_of := c.t.def_ 8 (d := toA d_is_fact_of ad_is_fact_of) rfl
    F_Tongue___init__ := c.t.def_ 9 (d := toA d_Tongue___init__ ad_Tongue___init__) rfl
    F_Tongue_tests := c.t.def_ 10 (d := toA d_Tongue_tests ad_Tongue_tests) rfl
    F_Tongue_deeds := c.t.def_ 11 (d := toA d_Tongue_deeds ad_Tongue_deeds) rfl
    F_Tongue_facts := c.t.def_ 12 (d := toA d_Tongue_facts ad_Tongue_facts) rfl
    F_need_tongue := c.t.def_ 13 (d := toA d_need_tongue ad_need_tongue) rfl
    F_many_atoms := c.t.def_ 14 (d := toA d_many_atoms ad_many_atoms) rfl
    F_is_atom := c.t.def_ 15 (d := toA d_is_atom ad_is_atom) rfl
    F_need_atom := c.t.def_ 16 (d := toA d_need_atom ad_need_atom) rfl
    F_is_deed := c.t.def_ 17 (d := toA d_is_deed ad_is_deed) rfl
    F_need_deed := c.t.def_ 18 (d := toA d_need_deed ad_need_deed) rfl
    F_bars_atom := c.t.def_ 19 (d := toA d_bars_atom ad_bars_atom) rfl
    F_bars_step := c.t.def_ 20 (d := toA d_bars_step ad_bars_step) rfl
    F_is_open := c.t.def_ 21 (d := toA d_is_open ad_is_open) rfl
    F_bar_of := c.t.def_ 22 (d := toA d_bar_of ad_bar_of) rfl
    F_open_lot := c.t.def_ 23 (d := toA d_open_lot ad_open_lot) rfl
    F_lot_after := c.t.def_ 24 (d := toA d_lot_after ad_lot_after) rfl
    F_is_kept := c.t.def_ 25 (d := toA d_is_kept ad_is_kept) rfl
    F_open_atoms := c.t.def_ 26 (d := toA d_open_atoms ad_open_atoms) rfl
    F_open_after := c.t.def_ 27 (d := toA d_open_after ad_open_after) rfl
    F_barring := c.t.def_ 28 (d := toA d_barring ad_barring) rfl
    F_follows := c.t.def_ 29 (d := toA d_follows ad_follows) rfl
    F_needless := c.t.def_ 30 (d := toA d_needless ad_needless) rfl
    F__law_mixed := c.t.def_ 31 (d := toA d__law_mixed ad__law_mixed) rfl
    F__law_take := c.t.def_ 32 (d := toA d__law_take ad__law_take) rfl
    F__law_pick := c.t.def_ 33 (d := toA d__law_pick ad__law_pick) rfl
    F__law_shuffled := c.t.def_ 34 (d := toA d__law_shuffled ad__law_shuffled) rfl
    F__law_kinds := c.t.def_ 35 (d := toA d__law_kinds ad__law_kinds) rfl
    F__law_says := c.t.def_ 36 (d := toA d__law_says ad__law_says) rfl
    F__law_holds := c.t.def_ 37 (d := toA d__law_holds ad__law_holds) rfl
    F__law_atoms := c.t.def_ 38 (d := toA d__law_atoms ad__law_atoms) rfl
    F__law_bars := c.t.def_ 39 (d := toA d__law_bars ad__law_bars) rfl
    F__law_open := c.t.def_ 40 (d := toA d__law_open ad__law_open) rfl
    F__law_test := c.t.def_ 41 (d := toA d__law_test ad__law_test) rfl
    F__law_words := c.t.def_ 42 (d := toA d__law_words ad__law_words) rfl
    F__law_fact := c.t.def_ 43 (d := toA d__law_fact ad__law_fact) rfl
    F__law_told := c.t.def_ 44 (d := toA d__law_told ad__law_told) rfl
    F__law_worlds := c.t.def_ 45 (d := toA d__law_worlds ad__law_worlds) rfl
    F__law_keeps := c.t.def_ 46 (d := toA d__law_keeps ad__law_keeps) rfl
    F__law_kept := c.t.def_ 47 (d := toA d__law_kept ad__law_kept) rfl
    F__law_right := c.t.def_ 48 (d := toA d__law_right ad__law_right) rfl
    F_open_table := c.t.def_ 49 (d := toA d_open_table ad_open_table) rfl
    F__law_begun := c.t.def_ 50 (d := toA d__law_begun ad__law_begun) rfl
    F_same_facts := c.t.def_ 51 (d := toA d_same_facts ad_same_facts) rfl
    F__law_caught := c.t.def_ 52 (d := toA d__law_caught ad__law_caught) rfl
    F_law := c.t.def_ 53 (d := toA d_law ad_law) rfl }
abbrev R : PySem.W.OpenRow := PySem.W.OpenLaw.row PySem.Challenge.rw_inallworlds_k01_whole_facts
abbrev hk : PySem.W.Hook := hookY 5 hfa hfn [("law", none)] hex
def hob (s : PySem.W.SharedT) : AlY := obsY 5 hfa hfn [("law", none)] hex (HandSHeadRun.getT s)
theorem hob_eq (s : PySem.W.SharedT) : hob s = hk.obs s.abs := obsY_eq (HandSHeadRun.getT_eq s)
theorem hrun (w : World) : HandSHeadRun.RunEq R (PySem.W.view R.prog [75]) hk hob 9000 hloose w := by
  intro os
  kernel_rfl
theorem hlaw {w : World} {mg : Str → Option Value} {fa : Addr} {h : Heap} (Y : hk.says w h) (G : h.Ns mainGlobals mg) (hmg : mg ("law" : Str) = some (.ref fa)) :
    ∃ K : Fg, K.In h ∧ LamX.LawAtS PySem.Challenge.rw_inallworlds_k01_whole_facts w K CX0 20 63 "script" mg fa h := by
  obtain ⟨K, KX, c⟩ := Y
  have T := htop KX G c
  have TX := htopx KX G c
  have D := hfds c
  obtain ⟨fd, F⟩ := D.F_law
  have e := hmg.symm.trans T.g_law
  cases e
  have b := FunD.bindsA (ps := ["script"]) F fun _ _ _ _ _ _ us hl => match us, hl with | [_], _ => rfl
  refine ⟨K, KX, fd, [He.cT K ("law", none)], spLaw (He.cT K ("law", none)).2, fun p hp => ?_, fun p hp => ?_, fun p hp => ?_, fun s v => b s [v] rfl, fun H a ns hl _ hT hS => ?_, fun base _ _ hB => cal_law T D TX (hB _ (List.mem_singleton.mpr rfl)) F⟩
  · rw [List.mem_singleton.mp hp]; exact c.empty _ (List.mem_singleton.mpr rfl)
  · rw [List.mem_singleton.mp hp]; exact c.out _ (List.mem_singleton.mpr rfl)
  · rw [List.mem_singleton.mp hp]; exact PySem.W.codeHd_of_K KX (c.hd _ (List.mem_singleton.mpr rfl))
  · exact ⟨a, ns, rfl, hl, c.lst hS, hT _ (List.mem_singleton.mpr rfl), fun _ => rfl⟩
end K01
open PySem PySem.W PySem.Calls PyProof.Rows in
theorem PySem.Challenge.cw_inallworlds_k01_whole_facts_holds : PySem.Challenge.rw_inallworlds_k01_whole_facts.Holds := by
  w_on; o_law
  refine HandSHeadRun.head_any (r := OpenLaw.row PySem.Challenge.rw_inallworlds_k01_whole_facts) (q := view (OpenLaw.row PySem.Challenge.rw_inallworlds_k01_whole_facts).prog [75]) (H := K01.hk) (ob := K01.hob) (M := 9000) (loose := K01.hloose) (d := HandSHeadRun.topDef (OpenLaw.row PySem.Challenge.rw_inallworlds_k01_whole_facts).prog 75) (kwd := []) K01.hob_eq
    (by kernel_rfl) (fun s => by kernel_rfl) K01.hrun (by kernel_rfl) (by kernel_rfl) (by kernel_rfl) (by rfl) (by first | assumption | decide +kernel) (by decide +kernel) ⟨rfl, rfl, rfl, rfl, rfl, by decide +kernel⟩ ?hw ?hc
  case hw => w_witness2
  case hc =>
    refine LamX.walk_ofTsE (l := PySem.Challenge.rw_inallworlds_k01_whole_facts) (n := 63) (k := K01.lawLv) (x := "script") (CX := fun _ => L2.CX0) rfl (by decide) (by kernel_rfl) ⟨rfl, by decide, by decide⟩ ?F (fun _ _ _ _ _ z => z)
    intro w mg fa h Y G hmg0
    have hmg : mg ("law" : PySem.Str) = some (.ref fa) := by
      have e : (HandSHeadRun.topDef (OpenLaw.row PySem.Challenge.rw_inallworlds_k01_whole_facts).prog 75).name = ("law" : PySem.Str) := by kernel_rfl
      rw [← e]
      exact hmg0
    exact K01.hlaw Y G hmg
namespace K01
end K01
