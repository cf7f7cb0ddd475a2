import PyProof.Rows.All
import Wide.All
import OpenK.AllK
import Wide.FinOn
import KE.KStateDown
import Lean
import HandS.ForMost
import HandS.ForExc
import HandS.More
import HandS.Defaults
import HandS.Head0
import HandS.Head1
import HandS.Head2
import HandS.HeadEnd
import HandS.HeadHook1
import HandS.HeadHook2
import HandS.HeadNt
import HandS.TupLe
import HandS.TupAny
import HandS.IsInst
import HandS.Deep
import HandS.SortInts
import HandS.Wide
import HandS.Style
import PySem.Challenge.RW_doneranges_k04_whole_rules_of_sets
set_option Elab.async false
set_option linter.all false
set_option maxRecDepth 100000
set_option maxHeartbeats 4000000
/-! DL: plain data over the hand layer: what a def computes as a function over data (D), with a small store for things that change. -/
namespace DL
open PySem PySem.Spec PyProof.Rows L2

/-- data: loc n is the n-th thing of the store; all others never change -/
inductive D where
  | non | bl (b : Bool) | int (i : Int) | str (s : Str)
  | tup (xs : List D) | lst (xs : List D)
  | dK (ks : List Key) (vs : List D) | dT (ks : List (List Key)) (vs : List D)
  | ins (c : Str) (ns : List Str) (vs : List D)
  | loc (n : Nat)
  /-- the script itself -/
  | scr (ns : List Int)
/-- what a thing that changes holds -/
inductive Ob where
  | lst (xs : List D) | dK (kvs : List (Key × D)) | dT (kvs : List (List Key × D)) | ins (c : Str) (fs : List (Str × D))
  | lkK (kvs : List (Key × D)) | lkT (kvs : List (List Key × D)) | dead
/-- a slot: nothing, data, a thing that this name alone holds -/
inductive Sl where | no | sh (d : D) | own (o : Ob)
/-- what an expression gives: data, a new thing, the thing of a slot -/
inductive Op where | sh (d : D) | own (o : Ob) | slot (i : Nat)
/-- what a def hands back -/
inductive Rv where | sh (d : D) | own (o : Ob)
/-- what an operation looks at -/
inductive Vw where | d (x : D) | ob (o : Ob)
abbrev Store := List Ob
abbrev Ev := List Sl
structure Xc where
  cls : Str
  ns : List Str
  vs : List D
inductive Res (α : Type) where | ok (a : α) (μ : Store) | exc (x : Xc) (μ : Store) | stk
def Res.bind {α β : Type} (r : Res α) (f : α → Store → Res β) : Res β := match r with
  | .ok a μ => f a μ
  | .exc x μ => .exc x μ
  | .stk => .stk
theorem Res.bind_ok {α β : Type} {a : α} {μ : Store} {f : α → Store → Res β} : (Res.ok a μ).bind f = f a μ := rfl
theorem Res.bind_exc {α β : Type} {x : Xc} {μ : Store} {f : α → Store → Res β} : (Res.exc x μ : Res α).bind f = .exc x μ := rfl
theorem Res.bind_stk {α β : Type} {f : α → Store → Res β} : (Res.stk : Res α).bind f = .stk := rfl
def Res.of {α : Type} (o : Option α) (μ : Store) : Res α := match o with
  | some a => .ok a μ
  | none => .stk
abbrev ME := Ev → Store → Res Op
abbrev MT := Ev → Store → Res Bool
abbrev MA := Ev → Store → Res (List D)

/-! ### what data stands for -/
mutual
def VR (K : PySem.W.Frag) (cad : Str → Addr) (ι : List Addr) (F : Hp) : D → V → Prop
  | .non, v => v = .non
  | .bl b, v => v = .bl b
  | .int i, v => v = .int i
  | .str s, v => v = .str s
  | .tup ds, v => ∃ a vs, v = .ref a ∧ F a = some (.tup vs) ∧ VRs K cad ι F ds vs
  | .lst ds, v => ∃ a vs, v = .ref a ∧ F a = some (.lst vs) ∧ VRs K cad ι F ds vs
  | .dK ks ds, v => ∃ a o vs, v = .ref a ∧ F a = some (.frz o (.dK (ks.zip vs))) ∧ ks.length = vs.length ∧ VRs K cad ι F ds vs
  | .dT ks ds, v => ∃ a o vs, v = .ref a ∧ F a = some (.frz o (.dT (ks.zip vs))) ∧ ks.length = vs.length ∧ VRs K cad ι F ds vs
  | .ins c ns ds, v => ∃ a dx vs, v = .ref a ∧ F a = some (.ins (cad c) dx (ns.zip vs)) ∧ ns.length = vs.length ∧ VRs K cad ι F ds vs
  | .loc n, v => ∃ a, v = .ref a ∧ ι[n]? = some a
  | .scr ns, v => ∃ a, v = .ref a ∧ SqL K F a (ns.map V.int)
def VRs (K : PySem.W.Frag) (cad : Str → Addr) (ι : List Addr) (F : Hp) : List D → List V → Prop
  | [], vs => vs = []
  | d :: ds, vs => ∃ v vs', vs = v :: vs' ∧ VR K cad ι F d v ∧ VRs K cad ι F ds vs'
end
theorem pre_get {α : Type} {l l' : List α} (h : l <+: l') {n : Nat} {a : α} (e : l[n]? = some a) : l'[n]? = some a := by
  obtain ⟨t, rfl⟩ := h
  have hn : n < l.length := (List.getElem?_eq_some_iff.mp e).1
  rw [List.getElem?_append_left hn]
  exact e
section
variable {K : PySem.W.Frag} {cad : Str → Addr} {ι ι' : List Addr} {F F' H H' : Hp}
mutual
theorem VR.mono (hf : Same F F') (hi : ι <+: ι') : ∀ (d : D) (v : V), VR K cad ι F d v → VR K cad ι' F' d v
  | .non, _, h => h
  | .bl _, _, h => h
  | .int _, _, h => h
  | .str _, _, h => h
  | .tup ds, _, h => by
    unfold VR at h ⊢
    obtain ⟨a, vs, e, f, r⟩ := h
    exact ⟨a, vs, e, hf _ _ f, VRs.mono hf hi ds vs r⟩
  | .lst ds, _, h => by
    unfold VR at h ⊢
    obtain ⟨a, vs, e, f, r⟩ := h
    exact ⟨a, vs, e, hf _ _ f, VRs.mono hf hi ds vs r⟩
  | .dK ks ds, _, h => by
    unfold VR at h ⊢
    obtain ⟨a, o, vs, e, f, l, r⟩ := h
    exact ⟨a, o, vs, e, hf _ _ f, l, VRs.mono hf hi ds vs r⟩
  | .dT ks ds, _, h => by
    unfold VR at h ⊢
    obtain ⟨a, o, vs, e, f, l, r⟩ := h
    exact ⟨a, o, vs, e, hf _ _ f, l, VRs.mono hf hi ds vs r⟩
  | .ins c ns ds, _, h => by
    unfold VR at h ⊢
    obtain ⟨a, o, vs, e, f, l, r⟩ := h
    exact ⟨a, o, vs, e, hf _ _ f, l, VRs.mono hf hi ds vs r⟩
  | .loc n, _, h => by
    unfold VR at h ⊢
    obtain ⟨a, e, f⟩ := h
    exact ⟨a, e, pre_get hi f⟩
  | .scr ns, _, h => by
    unfold VR at h ⊢
    obtain ⟨a, e, f⟩ := h
    exact ⟨a, e, hf.seq f⟩
theorem VRs.mono (hf : Same F F') (hi : ι <+: ι') : ∀ (ds : List D) (vs : List V), VRs K cad ι F ds vs → VRs K cad ι' F' ds vs
  | [], _, h => h
  | d :: ds, _, h => by
    unfold VRs at h ⊢
    obtain ⟨v, vs, e, r, rs⟩ := h
    exact ⟨v, vs, e, VR.mono hf hi d v r, VRs.mono hf hi ds vs rs⟩
end
theorem VRs.nil : VRs K cad ι F [] [] := rfl
theorem VRs.cons {d : D} {v : V} {ds : List D} {vs : List V} (h : VR K cad ι F d v) (t : VRs K cad ι F ds vs) : VRs K cad ι F (d :: ds) (v :: vs) := ⟨v, vs, rfl, h, t⟩
theorem VRs.of_nil {vs : List V} (h : VRs K cad ι F [] vs) : vs = [] := h
theorem VRs.of_cons {d : D} {ds : List D} {v : V} {vs : List V} (h : VRs K cad ι F (d :: ds) (v :: vs)) : VR K cad ι F d v ∧ VRs K cad ι F ds vs := by
  obtain ⟨v', vs', e, r, t⟩ := h
  cases e
  exact ⟨r, t⟩
theorem VRs.len : ∀ {ds : List D} {vs : List V}, VRs K cad ι F ds vs → ds.length = vs.length
  | [], _, h => by cases h; rfl
  | d :: ds, _, h => by
    obtain ⟨v, vs, rfl, _, t⟩ := h
    simp only [List.length_cons, VRs.len t]
theorem VRs.get : ∀ {ds : List D} {vs : List V} {i : Nat} {d : D}, VRs K cad ι F ds vs → ds[i]? = some d → ∃ v, vs[i]? = some v ∧ VR K cad ι F d v
  | [], _, _, _, _, e => by simp at e
  | x :: ds, _, 0, d, h, e => by
    obtain ⟨v, vs, rfl, r, _⟩ := h
    simp at e
    subst e
    exact ⟨v, rfl, r⟩
  | x :: ds, _, i + 1, d, h, e => by
    obtain ⟨v, vs, rfl, _, t⟩ := h
    simp only [List.getElem?_cons_succ] at e ⊢
    exact VRs.get t e
theorem VRs.got : ∀ {ds : List D} {vs : List V} {i : Nat} {v : V}, VRs K cad ι F ds vs → vs[i]? = some v → ∃ d, ds[i]? = some d ∧ VR K cad ι F d v
  | [], _, i, v, h, e => by cases h; simp at e
  | x :: ds, _, 0, v, h, e => by
    obtain ⟨v', vs, rfl, r, _⟩ := h
    simp at e
    subst e
    exact ⟨x, rfl, r⟩
  | x :: ds, _, i + 1, v, h, e => by
    obtain ⟨v', vs, rfl, _, t⟩ := h
    simp only [List.getElem?_cons_succ] at e ⊢
    exact VRs.got t e
theorem VRs.app : ∀ {ds es : List D} {vs us : List V}, VRs K cad ι F ds vs → VRs K cad ι F es us → VRs K cad ι F (ds ++ es) (vs ++ us)
  | [], _, _, _, h, t => by cases h; exact t
  | d :: ds, _, _, _, h, t => by
    obtain ⟨v, vs, rfl, r, h⟩ := h
    exact ⟨v, _, rfl, r, VRs.app h t⟩
theorem VRs.take : ∀ {ds : List D} {vs : List V} (n : Nat), VRs K cad ι F ds vs → VRs K cad ι F (ds.take n) (vs.take n)
  | _, _, 0, _ => rfl
  | [], _, _ + 1, h => by cases h; rfl
  | d :: ds, _, n + 1, h => by
    obtain ⟨v, vs, rfl, r, h⟩ := h
    exact ⟨v, _, rfl, r, VRs.take n h⟩
theorem VRs.drop : ∀ {ds : List D} {vs : List V} (n : Nat), VRs K cad ι F ds vs → VRs K cad ι F (ds.drop n) (vs.drop n)
  | _, _, 0, h => h
  | [], _, _ + 1, h => by cases h; rfl
  | d :: ds, _, n + 1, h => by
    obtain ⟨v, vs, rfl, r, h⟩ := h
    exact VRs.drop n h
theorem VRs.set : ∀ {ds : List D} {vs : List V} (i : Nat) {d : D} {v : V}, VRs K cad ι F ds vs → VR K cad ι F d v → VRs K cad ι F (ds.set i d) (vs.set i v)
  | [], _, _, _, _, h, _ => by cases h; rfl
  | x :: ds, _, 0, d, v, h, r => by
    obtain ⟨v', vs, rfl, _, h⟩ := h
    exact ⟨v, vs, rfl, r, h⟩
  | x :: ds, _, i + 1, d, v, h, r => by
    obtain ⟨v', vs, rfl, r', h⟩ := h
    exact ⟨v', _, rfl, r', VRs.set i h r⟩
theorem VRs.rev {ds : List D} {vs : List V} (h : VRs K cad ι F ds vs) : VRs K cad ι F ds.reverse vs.reverse := by
  induction ds generalizing vs with
  | nil => cases h; rfl
  | cons d ds ih =>
    obtain ⟨v, vs, rfl, r, h⟩ := h
    rw [List.reverse_cons, List.reverse_cons]
    exact (ih h).app ⟨v, [], rfl, r, rfl⟩
theorem VRs.split {es : List D} : ∀ {ds : List D} {vs : List V}, VRs K cad ι F (ds ++ es) vs → ∃ us ws, vs = us ++ ws ∧ VRs K cad ι F ds us ∧ VRs K cad ι F es ws
  | [], vs, h => ⟨[], vs, rfl, rfl, h⟩
  | d :: ds, vs, h => by
    obtain ⟨v, vs, rfl, r, h⟩ := h
    obtain ⟨us, ws, rfl, h1, h2⟩ := VRs.split (ds := ds) h
    exact ⟨v :: us, ws, rfl, ⟨v, us, rfl, r, h1⟩, h2⟩
end

/-! ### the store -/
def OR (K : PySem.W.Frag) (cad : Str → Addr) (ι : List Addr) (F : Hp) : Ob → HO → Prop
  | .lst ds, ho => ∃ vs, ho = .lst vs ∧ VRs K cad ι F ds vs
  | .dK kvs, ho => ∃ vs, ho = .dK ((kvs.map (·.1)).zip vs) ∧ VRs K cad ι F (kvs.map (·.2)) vs
  | .dT kvs, ho => ∃ vs, ho = .dT ((kvs.map (·.1)).zip vs) ∧ VRs K cad ι F (kvs.map (·.2)) vs
  | .ins c fs, ho => ∃ dx vs, ho = .ins (cad c) dx ((fs.map (·.1)).zip vs) ∧ VRs K cad ι F (fs.map (·.2)) vs
  | .lkK kvs, ho => ∃ o vs, ho = .frz o (.dK ((kvs.map (·.1)).zip vs)) ∧ VRs K cad ι F (kvs.map (·.2)) vs
  | .lkT kvs, ho => ∃ o vs, ho = .frz o (.dT ((kvs.map (·.1)).zip vs)) ∧ VRs K cad ι F (kvs.map (·.2)) vs
  | .dead, _ => False
section
variable {K : PySem.W.Frag} {cad : Str → Addr} {ι ι' : List Addr} {F F' H H' : Hp}
theorem OR.mono (hf : Same F F') (hi : ι <+: ι') : ∀ {o : Ob} {ho : HO}, OR K cad ι F o ho → OR K cad ι' F' o ho
  | .lst _, _, ⟨vs, e, r⟩ => ⟨vs, e, VRs.mono hf hi _ _ r⟩
  | .dK _, _, ⟨vs, e, r⟩ => ⟨vs, e, VRs.mono hf hi _ _ r⟩
  | .dT _, _, ⟨vs, e, r⟩ => ⟨vs, e, VRs.mono hf hi _ _ r⟩
  | .ins _ _, _, ⟨dx, vs, e, r⟩ => ⟨dx, vs, e, VRs.mono hf hi _ _ r⟩
  | .lkK _, _, ⟨o, vs, e, r⟩ => ⟨o, vs, e, VRs.mono hf hi _ _ r⟩
  | .lkT _, _, ⟨o, vs, e, r⟩ => ⟨o, vs, e, VRs.mono hf hi _ _ r⟩
  | .dead, _, h => h.elim
theorem OR.notup {o : Ob} {xs : List V} (h : OR K cad ι F o (.tup xs)) : False := by
  cases o with
  | lst _ => obtain ⟨_, e, _⟩ := h; cases e
  | dK _ => obtain ⟨_, e, _⟩ := h; cases e
  | dT _ => obtain ⟨_, e, _⟩ := h; cases e
  | ins _ _ => obtain ⟨_, _, e, _⟩ := h; cases e
  | lkK _ => obtain ⟨_, _, e, _⟩ := h; cases e
  | lkT _ => obtain ⟨_, _, e, _⟩ := h; cases e
  | dead => exact h
end
/-- the store at the addresses ι; F: what never changes -/
structure RS (K : PySem.W.Frag) (cad : Str → Addr) (F : Hp) (ι : List Addr) (μ : Store) (H : Hp) : Prop where
  sub : Same F H
  len : ι.length = μ.length
  nd : ι.Nodup
  sep : ∀ a ∈ ι, F a = none
  obj : ∀ (n : Nat) (o : Ob) (a : Addr), μ[n]? = some o → ι[n]? = some a → ∃ ho, H a = some ho ∧ OR K cad ι F o ho
/-- what an expression may do: things of the store change, new things come -/
structure Ext (F : Hp) (ι : List Addr) (H : Hp) (F' : Hp) (ι' : List Addr) (H' : Hp) : Prop where
  f : Same F F'
  i : ι <+: ι'
  kept : ∀ a o, a ∉ ι → H a = some o → H' a = some o
  dom : ∀ a, H' a = none → H a = none
  nf : ∀ a, F a = none → F' a ≠ none → a ∉ ι ∧ (H a = none ∨ ∃ xs, H a = some (.tup xs))
  ni : ∀ a, a ∈ ι' → a ∉ ι → H a = none
section
variable {F F' F'' H H' H'' : Hp} {ι ι' ι'' : List Addr}
theorem Ext.refl (F : Hp) (ι : List Addr) (H : Hp) : Ext F ι H F ι H :=
  ⟨Same.refl _, List.prefix_rfl, fun _ _ _ h => h, fun _ h => h, fun a h1 h2 => absurd h1 h2, fun a h1 h2 => absurd h1 h2⟩
theorem Ext.trans (x : Ext F ι H F' ι' H') (y : Ext F' ι' H' F'' ι'' H'') : Ext F ι H F'' ι'' H'' := by
  refine ⟨x.f.trans y.f, x.i.trans y.i, fun a o h e => ?_, fun a h => x.dom a (y.dom a h), fun a h1 h2 => ?_, fun a h1 h2 => ?_⟩
  · refine y.kept a o (fun z => ?_) (x.kept a o h e)
    have q := x.ni a z h
    rw [e] at q
    cases q
  · by_cases q : F' a = none
    · obtain ⟨n1, n2⟩ := y.nf a q h2
      have n3 : a ∉ ι := fun z => n1 (x.i.subset z)
      refine ⟨n3, ?_⟩
      rcases n2 with n2 | ⟨xs, n2⟩
      · exact .inl (x.dom a n2)
      · cases c : H a with
        | none => exact .inl rfl
        | some o =>
          rw [x.kept a o n3 c] at n2
          exact .inr ⟨xs, n2⟩
    · exact x.nf a h1 q
  · by_cases q : a ∈ ι'
    · exact x.ni a q h2
    · exact x.dom a (y.ni a h1 q)
theorem same_new {F : Hp} {p : Addr} {o : HO} (h : F p = none) : Same F (upd F p o) := fun b x e => by
  rw [upd_ne (ne_of_none e h)]
  exact e
theorem Ext.newH {p : Addr} {o : HO} (h : H p = none) : Ext F ι H F ι (upd H p o) := by
  refine ⟨Same.refl _, List.prefix_rfl, fun a o' _ e => ?_, fun a e => ?_, fun a h1 h2 => absurd h1 h2, fun a h1 h2 => absurd h1 h2⟩
  · rw [upd_ne (ne_of_none e h)]
    exact e
  · by_cases q : a = p
    · rw [q] at e ⊢
      exact h
    · rw [upd_ne q] at e
      exact e
end
section
variable {K : PySem.W.Frag} {cad : Str → Addr} {F F' H H' : Hp} {ι ι' : List Addr} {μ μ' : Store}
theorem RS.addr (r : RS K cad F ι μ H) {n : Nat} {o : Ob} (e : μ[n]? = some o) : ∃ a, ι[n]? = some a ∧ a ∈ ι ∧ F a = none := by
  have hn : n < μ.length := (List.getElem?_eq_some_iff.mp e).1
  have hi : n < ι.length := by rw [r.len]; exact hn
  refine ⟨ι[n], List.getElem?_eq_getElem hi, List.getElem_mem hi, r.sep _ (List.getElem_mem hi)⟩
theorem RS.inj (r : RS K cad F ι μ H) {n m : Nat} {a : Addr} (e : ι[n]? = some a) (e' : ι[m]? = some a) : n = m := by
  exact (List.getElem?_inj (List.getElem?_eq_some_iff.mp e).1 r.nd).mp (e.trans e'.symm)
/-- what is fresh to H is fresh to F and none of ι -/
theorem RS.fresh (r : RS K cad F ι μ H) {p : Addr} (h : H p = none) : F p = none ∧ p ∉ ι := by
  refine ⟨r.sub.free h, fun hp => ?_⟩
  obtain ⟨n, hn, e⟩ := List.getElem_of_mem hp
  have hm : n < μ.length := by rw [← r.len]; exact hn
  obtain ⟨ho, e1, _⟩ := r.obj n μ[n] p (List.getElem?_eq_getElem hm) (by rw [List.getElem?_eq_getElem hn, e])
  rw [h] at e1
  cases e1
/-- the same store over more -/
theorem RS.grow (r : RS K cad F ι μ H) (hf : Same F F') (hs : Same F' H') (hk : ∀ a ∈ ι, ∀ o, H a = some o → H' a = some o) (hn : ∀ a ∈ ι, F' a = none) : RS K cad F' ι μ H' := by
  refine ⟨hs, r.len, r.nd, hn, fun n o a e1 e2 => ?_⟩
  obtain ⟨ho, e, q⟩ := r.obj n o a e1 e2
  exact ⟨ho, hk a (List.mem_of_getElem? e2) ho e, q.mono hf List.prefix_rfl⟩
theorem same_upd {F H : Hp} {p : Addr} {o : HO} (s : Same F H) (h : H p = none) : Same F (upd H p o) := fun b x e => by
  rw [upd_ne (ne_of_none (s b x e) h)]
  exact s b x e
theorem same_upd2 {F H : Hp} {p : Addr} {o : HO} (s : Same F H) : Same (upd F p o) (upd H p o) := fun b x e => by
  by_cases q : b = p
  · rw [q, upd_same] at e ⊢
    exact e
  · rw [upd_ne q] at e ⊢
    exact s b x e
/-- a new thing, not in F -/
theorem RS.newH (r : RS K cad F ι μ H) {p : Addr} {o : HO} (h : H p = none) : RS K cad F ι μ (upd H p o) :=
  r.grow (Same.refl _) (same_upd r.sub h) (fun a ha x e => by rw [upd_ne (ne_of_none e h)]; exact e) r.sep
/-- a new thing that never changes -/
theorem RS.newF (r : RS K cad F ι μ H) {p : Addr} {o : HO} (h : H p = none) : RS K cad (upd F p o) ι μ (upd H p o) :=
  r.grow (same_new (r.fresh h).1) (same_upd2 r.sub) (fun a ha x e => by rw [upd_ne (ne_of_none e h)]; exact e) fun a ha => by
    rw [upd_ne (show a ≠ p from fun z => (r.fresh h).2 (z ▸ ha))]
    exact r.sep a ha
theorem Ext.newF (r : RS K cad F ι μ H) {p : Addr} {o : HO} (h : H p = none) : Ext F ι H (upd F p o) ι (upd H p o) := by
  refine ⟨same_new (r.fresh h).1, List.prefix_rfl, fun a o' _ e => ?_, fun a e => ?_, fun a h1 h2 => ?_, fun a h1 h2 => absurd h1 h2⟩
  · rw [upd_ne (ne_of_none e h)]
    exact e
  · by_cases q : a = p
    · rw [q] at e ⊢
      exact h
    · rw [upd_ne q] at e
      exact e
  · by_cases q : a = p
    · rw [q]
      exact ⟨(r.fresh h).2, .inl h⟩
    · rw [upd_ne q] at h2
      exact absurd h1 h2
/-- a thing of its own from now on never changes -/
theorem RS.freeze (r : RS K cad F ι μ H) {p : Addr} {o : HO} (h : H p = some o) (hi : p ∉ ι) (hF : F p = none) : RS K cad (upd F p o) ι μ H :=
  r.grow (same_new hF) (fun b x e => by
    by_cases q : b = p
    · rw [q, upd_same] at e
      rw [q, h]
      exact e
    · rw [upd_ne q] at e
      exact r.sub b x e) (fun _ _ _ e => e) fun a ha => by
    rw [upd_ne (show a ≠ p from fun z => hi (z ▸ ha))]
    exact r.sep a ha
/-- a thing of the store changes -/
theorem RS.put (r : RS K cad F ι μ H) {n : Nat} {a : Addr} {o : Ob} {ho : HO} (e : ι[n]? = some a) (q : OR K cad ι F o ho) : RS K cad F ι (μ.set n o) (upd H a ho) := by
  have ha : a ∈ ι := List.mem_of_getElem? e
  refine ⟨fun b x s => ?_, by rw [r.len, List.length_set], r.nd, r.sep, fun m o' b e1 e2 => ?_⟩
  · rw [upd_ne (fun z => by rw [z, r.sep a ha] at s; cases s)]
    exact r.sub b x s
  · by_cases hb : b = a
    · subst hb
      have hm : m = n := r.inj e2 e
      subst hm
      rw [List.getElem?_set_self (by have := (List.getElem?_eq_some_iff.mp e).1; rw [r.len] at this; exact this)] at e1
      cases e1
      exact ⟨ho, upd_same, q⟩
    · have hm : n ≠ m := fun z => hb (by subst z; rw [e] at e2; exact (Option.some.inj e2).symm)
      rw [List.getElem?_set_ne hm] at e1
      obtain ⟨h1, e3, q3⟩ := r.obj m o' b e1 e2
      exact ⟨h1, by rw [upd_ne hb]; exact e3, q3⟩
theorem Ext.put {n : Nat} {a : Addr} {ho : HO} (e : ι[n]? = some a) : Ext F ι H F ι (upd H a ho) := by
  have ha : a ∈ ι := List.mem_of_getElem? e
  refine ⟨Same.refl _, List.prefix_rfl, fun b o hb s => ?_, fun b s => ?_, fun a h1 h2 => absurd h1 h2, fun a h1 h2 => absurd h1 h2⟩
  · rw [upd_ne (show b ≠ a from fun z => hb (z ▸ ha))]
    exact s
  · by_cases q : b = a
    · rw [q, upd_same] at s
      cases s
    · rw [upd_ne q] at s
      exact s
theorem pre_snoc {α : Type} (l : List α) (a : α) : l <+: l ++ [a] := ⟨[a], rfl⟩
/-- a thing of its own comes into the store -/
theorem RS.push (r : RS K cad F ι μ H) {p : Addr} {o : Ob} {ho : HO} (h : H p = some ho) (hi : p ∉ ι) (hF : F p = none) (q : OR K cad ι F o ho) : RS K cad F (ι ++ [p]) (μ ++ [o]) H := by
  refine ⟨r.sub, by rw [List.length_append, List.length_append, r.len]; rfl, ?_, fun a ha => ?_, fun n o' a e1 e2 => ?_⟩
  · refine List.nodup_append.mpr ⟨r.nd, by simp, fun a ha b hb => ?_⟩
    have : b = p := by simpa using hb
    subst this
    exact fun z => hi (z ▸ ha)
  · rcases List.mem_append.mp ha with z | z
    · exact r.sep a z
    · have : a = p := by simpa using z
      rw [this]
      exact hF
  · by_cases hn : n < μ.length
    · rw [List.getElem?_append_left hn] at e1
      rw [List.getElem?_append_left (by rw [r.len]; exact hn)] at e2
      obtain ⟨h1, e3, q3⟩ := r.obj n o' a e1 e2
      exact ⟨h1, e3, q3.mono (Same.refl _) (pre_snoc _ _)⟩
    · have hn' : μ.length ≤ n := Nat.le_of_not_lt hn
      rw [List.getElem?_append_right hn'] at e1
      rw [List.getElem?_append_right (by rw [r.len]; exact hn')] at e2
      have z : n - μ.length = 0 := by
        cases c : n - μ.length with
        | zero => rfl
        | succ k =>
          rw [c] at e1
          simp at e1
      rw [z] at e1
      rw [r.len, z] at e2
      simp at e1 e2
      subst e1
      subst e2
      exact ⟨ho, h, q.mono (Same.refl _) (pre_snoc _ _)⟩
end

/-- what is of its own is not taken into F' -/
theorem Ext.apart {K : PySem.W.Frag} {cad : Str → Addr} {F F' H H' : Hp} {ι ι' : List Addr} {a : Addr} {o : Ob} {ho : HO} (x : Ext F ι H F' ι' H') (h1 : F a = none) (h2 : H a = some ho) (q : OR K cad ι F o ho) : F' a = none := by
  cases c : F' a with
  | none => rfl
  | some o' =>
    obtain ⟨_, z⟩ := x.nf a h1 (by rw [c]; intro z; cases z)
    rcases z with z | ⟨xs, z⟩
    · rw [h2] at z; cases z
    · rw [h2] at z; cases z; exact q.notup.elim
/-! ### slots -/
structure R (K : PySem.W.Frag) (cad : Str → Addr) (F : Hp) (ι : List Addr) (μ : Store) (ρ : Ev) (σ : L2.St) (H : Hp) : Prop where
  rs : RS K cad F ι μ H
  len : σ.length = ρ.length
  sh : ∀ (i : Nat) (d : D), ρ[i]? = some (.sh d) → ∃ v, σ[i]? = some (some v) ∧ VR K cad ι F d v
  own : ∀ (i : Nat) (o : Ob), ρ[i]? = some (.own o) → ∃ a ho, σ[i]? = some (some (.ref a)) ∧ F a = none ∧ a ∉ ι ∧ H a = some ho ∧ OR K cad ι F o ho
  dis : ∀ (i j : Nat) (o o' : Ob) (a : Addr), ρ[i]? = some (.own o) → ρ[j]? = some (.own o') → σ[i]? = some (some (.ref a)) → σ[j]? = some (some (.ref a)) → i = j
section
variable {K : PySem.W.Frag} {cad : Str → Addr} {F F' H H' : Hp} {ι ι' : List Addr} {μ μ' : Store} {ρ : Ev} {σ : L2.St}
theorem R.ext (r : R K cad F ι μ ρ σ H) (x : Ext F ι H F' ι' H') (s : RS K cad F' ι' μ' H') : R K cad F' ι' μ' ρ σ H' := by
  refine ⟨s, r.len, fun i d e => ?_, fun i o e => ?_, r.dis⟩
  · obtain ⟨v, e1, q⟩ := r.sh i d e
    exact ⟨v, e1, VR.mono x.f x.i _ _ q⟩
  · obtain ⟨a, ho, e1, e2, e3, e4, q⟩ := r.own i o e
    have nn : H a ≠ none := by rw [e4]; intro z; cases z
    exact ⟨a, ho, e1, x.apart e2 e4 q, fun z => nn (x.ni a z e3), x.kept a ho e3 e4, q.mono x.f x.i⟩
end
end DL

namespace DL
open PySem PySem.Spec PyProof.Rows L2

/-! ### what an operation looks at -/
def Ob.rd : Ob → Option Ob
  | .lkK kvs => some (.dK kvs)
  | .lkT kvs => some (.dT kvs)
  | .dead => none
  | o => some o
def D.vw (μ : Store) : D → Option Vw
  | .lst xs => some (.ob (.lst xs))
  | .dK ks vs => some (.ob (.dK (ks.zip vs)))
  | .dT ks vs => some (.ob (.dT (ks.zip vs)))
  | .ins c ns vs => some (.ob (.ins c (ns.zip vs)))
  | .loc n => (μ[n]?).bind fun o => o.rd.map .ob
  | d => some (.d d)
def deref (ρ : Ev) (μ : Store) : Op → Option Vw
  | .sh d => d.vw μ
  | .own o => o.rd.map .ob
  | .slot i => match ρ[i]? with
    | some (.own o) => o.rd.map .ob
    | _ => none
def ObR (K : PySem.W.Frag) (cad : Str → Addr) (ι : List Addr) (F H : Hp) (a : Addr) : Ob → Prop
  | .lst ds => ∃ vs, H a = some (.lst vs) ∧ VRs K cad ι F ds vs
  | .dK kvs => ∃ vs, Rd H a (.dK ((kvs.map (·.1)).zip vs)) ∧ VRs K cad ι F (kvs.map (·.2)) vs
  | .dT kvs => ∃ vs, Rd H a (.dT ((kvs.map (·.1)).zip vs)) ∧ VRs K cad ι F (kvs.map (·.2)) vs
  | .ins c fs => ∃ dx vs, H a = some (.ins (cad c) dx ((fs.map (·.1)).zip vs)) ∧ VRs K cad ι F (fs.map (·.2)) vs
  | _ => False
def VwR (K : PySem.W.Frag) (cad : Str → Addr) (F : Hp) (ι : List Addr) (H : Hp) : Vw → V → Prop
  | .d d, v => VR K cad ι F d v
  | .ob o, v => ∃ a, v = .ref a ∧ ObR K cad ι F H a o
/-- what an expression gave; H0 the heap ahead of it -/
def OpV (K : PySem.W.Frag) (cad : Str → Addr) (ρ : Ev) (σ : L2.St) (H0 F : Hp) (ι : List Addr) (H : Hp) : Op → V → Prop
  | .sh d, v => VR K cad ι F d v
  | .own o, v => ∃ a ho, v = .ref a ∧ F a = none ∧ a ∉ ι ∧ H0 a = none ∧ H a = some ho ∧ OR K cad ι F o ho
  | .slot i, v => σ[i]? = some (some v) ∧ ∃ o, ρ[i]? = some (.own o)
def Rv.op : Rv → Op
  | .sh d => .sh d
  | .own o => .own o
def RvR (K : PySem.W.Frag) (cad : Str → Addr) (H0 F : Hp) (ι : List Addr) (H : Hp) (r : Rv) (v : V) : Prop := OpV K cad [] [] H0 F ι H r.op v
section
variable {K : PySem.W.Frag} {cad : Str → Addr} {F F' H H' H0 : Hp} {ι ι' : List Addr} {μ μ' : Store} {ρ : Ev} {σ : L2.St}
theorem OR.view {o o' : Ob} {ho : HO} {a : Addr} (e : H a = some ho) (q : OR K cad ι F o ho) (hr : o.rd = some o') : ObR K cad ι F H a o' := by
  cases o with
  | lst ds => cases hr; obtain ⟨vs, rfl, r⟩ := q; exact ⟨vs, e, r⟩
  | dK kvs => cases hr; obtain ⟨vs, rfl, r⟩ := q; exact ⟨vs, .inl e, r⟩
  | dT kvs => cases hr; obtain ⟨vs, rfl, r⟩ := q; exact ⟨vs, .inl e, r⟩
  | ins c fs => cases hr; obtain ⟨dx, vs, rfl, r⟩ := q; exact ⟨dx, vs, e, r⟩
  | lkK kvs => cases hr; obtain ⟨o, vs, rfl, r⟩ := q; exact ⟨vs, .inr ⟨o, e⟩, r⟩
  | lkT kvs => cases hr; obtain ⟨o, vs, rfl, r⟩ := q; exact ⟨vs, .inr ⟨o, e⟩, r⟩
  | dead => cases hr
theorem map_zip1 {α β : Type} : ∀ {l : List α} {m : List β}, l.length = m.length → (l.zip m).map (·.1) = l
  | [], _, _ => rfl
  | a :: l, [], h => by cases h
  | a :: l, b :: m, h => by
    simp only [List.zip_cons_cons, List.map_cons, List.cons.injEq, true_and]
    exact map_zip1 (by simpa using h)
theorem map_zip2 {α β : Type} : ∀ {l : List α} {m : List β}, l.length = m.length → (l.zip m).map (·.2) = m
  | [], [], _ => rfl
  | [], b :: m, h => by cases h
  | a :: l, [], h => by cases h
  | a :: l, b :: m, h => by
    simp only [List.zip_cons_cons, List.map_cons, List.cons.injEq, true_and]
    exact map_zip2 (by simpa using h)
theorem VR.view (rs : RS K cad F ι μ H) {d : D} {v : V} {w : Vw} (h : VR K cad ι F d v) (e : d.vw μ = some w) : VwR K cad F ι H w v := by
  cases d with
  | non => cases e; exact h
  | bl b => cases e; exact h
  | int i => cases e; exact h
  | str s => cases e; exact h
  | tup xs => cases e; exact h
  | scr ns => cases e; exact h
  | lst xs =>
    cases e
    unfold VR at h
    obtain ⟨a, vs, e1, s, r⟩ := h
    exact ⟨a, e1, vs, rs.sub _ _ s, r⟩
  | dK ks ds =>
    cases e
    unfold VR at h
    obtain ⟨a, o, vs, e1, s, l, r⟩ := h
    have l2 : ks.length = ds.length := l.trans r.len.symm
    refine ⟨a, e1, vs, ?_, ?_⟩
    · rw [map_zip1 l2]
      exact .inr ⟨o, rs.sub _ _ s⟩
    · rw [map_zip2 l2]
      exact r
  | dT ks ds =>
    cases e
    unfold VR at h
    obtain ⟨a, o, vs, e1, s, l, r⟩ := h
    have l2 : ks.length = ds.length := l.trans r.len.symm
    refine ⟨a, e1, vs, ?_, ?_⟩
    · rw [map_zip1 l2]
      exact .inr ⟨o, rs.sub _ _ s⟩
    · rw [map_zip2 l2]
      exact r
  | ins c ns ds =>
    cases e
    unfold VR at h
    obtain ⟨a, o, vs, e1, s, l, r⟩ := h
    have l2 : ns.length = ds.length := l.trans r.len.symm
    refine ⟨a, e1, o, vs, ?_, ?_⟩
    · rw [map_zip1 l2]
      exact rs.sub _ _ s
    · rw [map_zip2 l2]
      exact r
  | loc n =>
    unfold VR at h
    obtain ⟨a, e1, e2⟩ := h
    have e : (μ[n]?).bind (fun o => o.rd.map Vw.ob) = some w := e
    cases c : μ[n]? with
    | none => rw [c] at e; cases e
    | some o =>
      rw [c] at e
      cases c2 : o.rd with
      | none => simp [c2] at e
      | some o' =>
        simp [c2] at e
        subst e
        obtain ⟨ho, e3, q⟩ := rs.obj n o a c e2
        exact ⟨a, e1, q.view e3 c2⟩
theorem OpV.view (r : R K cad F ι μ ρ σ H) {o : Op} {v : V} {w : Vw} (h : OpV K cad ρ σ H0 F ι H o v) (e : deref ρ μ o = some w) : VwR K cad F ι H w v := by
  cases o with
  | sh d => exact VR.view r.rs h e
  | own o =>
    obtain ⟨a, ho, e1, _, _, _, e2, q⟩ := h
    have e : o.rd.map Vw.ob = some w := e
    cases c2 : o.rd with
    | none => simp [c2] at e
    | some o' =>
      simp [c2] at e
      subst e
      exact ⟨a, e1, q.view e2 c2⟩
  | slot i =>
    obtain ⟨e1, o, e2⟩ := h
    have e : (match ρ[i]? with | some (.own o) => o.rd.map Vw.ob | _ => none) = some w := e
    rw [e2] at e
    cases c2 : o.rd with
    | none => simp [c2] at e
    | some o' =>
      simp [c2] at e
      subst e
      obtain ⟨a, ho, e3, _, _, e4, q⟩ := r.own i o e2
      rw [e1] at e3
      cases e3
      exact ⟨a, rfl, q.view e4 c2⟩
theorem OpV.mono {H1 : Hp} (x : Ext F ι H F' ι' H') {o : Op} {v : V} (h : OpV K cad ρ σ H0 F ι H o v) : OpV K cad ρ σ H0 F' ι' H' o v := by
  cases o with
  | sh d => exact VR.mono x.f x.i _ _ h
  | own o =>
    obtain ⟨a, ho, e1, e2, e3, e4, e5, q⟩ := h
    have nn : H a ≠ none := by rw [e5]; intro z; cases z
    exact ⟨a, ho, e1, x.apart e2 e5 q, fun z => nn (x.ni a z e3), e4, x.kept a ho e3 e5, q.mono x.f x.i⟩
  | slot i => exact h
theorem RvR.op {r : Rv} {v : V} (h : RvR K cad H0 F ι H r v) : OpV K cad ρ σ H0 F ι H r.op v := by
  cases r with
  | sh d => exact h
  | own o => exact h
theorem VwR.mono {w : Vw} {v : V} (hf : Same F F') (hi : ι <+: ι') (hs : ∀ a o, H a = some o → H' a = some o) (h : VwR K cad F ι H w v) : VwR K cad F' ι' H' w v := by
  cases w with
  | d d => exact VR.mono hf hi _ _ h
  | ob o =>
    obtain ⟨a, e, q⟩ := h
    refine ⟨a, e, ?_⟩
    have hr : ∀ u, Rd H a u → Rd H' a u := fun u z => z.elim (fun z => .inl (hs _ _ z)) fun ⟨o, z⟩ => .inr ⟨o, hs _ _ z⟩
    cases o with
    | lst ds => obtain ⟨vs, s, r⟩ := q; exact ⟨vs, hs _ _ s, VRs.mono hf hi _ _ r⟩
    | dK kvs => obtain ⟨vs, s, r⟩ := q; exact ⟨vs, hr _ s, VRs.mono hf hi _ _ r⟩
    | dT kvs => obtain ⟨vs, s, r⟩ := q; exact ⟨vs, hr _ s, VRs.mono hf hi _ _ r⟩
    | ins c fs => obtain ⟨dx, vs, s, r⟩ := q; exact ⟨dx, vs, hs _ _ s, VRs.mono hf hi _ _ r⟩
    | lkK _ => exact q
    | lkT _ => exact q
    | dead => exact q
end

/-! ### what is to be shown behind a piece -/
/-- a relation between what the data side gives and what the machine gives, by the heap ahead -/
structure Rl (α β : Type) where
  r : Hp → Hp → List Addr → Hp → α → β → Prop
  mono : ∀ {H H1 F : Hp} {ι : List Addr} {H' : Hp} {a : α} {b : β}, (∀ p, H1 p = none → H p = none) → r H1 F ι H' a b → r H F ι H' a b
def rlE (K : PySem.W.Frag) (cad : Str → Addr) (ρ : Ev) (σ : L2.St) : Rl Op V := ⟨OpV K cad ρ σ, fun {H H1 F ι H' a b} h q => by
  cases a with
  | sh d => exact q
  | own o => obtain ⟨a, ho, e1, e2, e3, e4, e5, z⟩ := q; exact ⟨a, ho, e1, e2, e3, h a e4, e5, z⟩
  | slot i => exact q⟩
def rlT : Rl Bool Bool := ⟨fun _ _ _ _ a b => a = b, fun _ q => q⟩
def rlD (K : PySem.W.Frag) (cad : Str → Addr) : Rl D V := ⟨fun _ F ι _ d v => VR K cad ι F d v, fun _ q => q⟩
def rlDs (K : PySem.W.Frag) (cad : Str → Addr) : Rl (List D) (List V) := ⟨fun _ F ι _ d v => VRs K cad ι F d v, fun _ q => q⟩
def OpVs (K : PySem.W.Frag) (cad : Str → Addr) (ρ : Ev) (σ : L2.St) (H0 F : Hp) (ι : List Addr) (H : Hp) (os : List Op) (vs : List V) : Prop := Paired (OpV K cad ρ σ H0 F ι H) os vs
def rlA (K : PySem.W.Frag) (cad : Str → Addr) (ρ : Ev) (σ : L2.St) : Rl (List Op) (List V) := ⟨OpVs K cad ρ σ, fun {H H1 F ι H' a b} h q => Paired.mapP q fun x y z => (rlE K cad ρ σ).mono h z⟩
/-- an exception: its class, its fields -/
def XR (K : PySem.W.Frag) (cad : Str → Addr) (F : Hp) (ι : List Addr) (x : Xc) (d : Option Addr) : Prop := (x.ns = [] ∧ d = none) ∨ (x.ns ≠ [] ∧ ∃ a vs, d = some a ∧ F a = some (.xd (x.ns.zip vs)) ∧ x.ns.length = vs.length ∧ VRs K cad ι F x.vs vs)
def Post {α β : Type} (K : PySem.W.Frag) (cad : Str → Addr) (W : WX) (rl : Rl α β) (F : Hp) (ι : List Addr) (H : Hp) (σ : L2.St) (r : Res α) (Q : β → Hp → Prop) : Prop := match r with
  | .ok a μ' => ∀ F' ι' H' b, Ext F ι H F' ι' H' → RS K cad F' ι' μ' H' → rl.r H F' ι' H' a b → Q b H'
  | .exc x μ' => ∀ F' ι' H' d, Ext F ι H F' ι' H' → RS K cad F' ι' μ' H' → XR K cad F' ι' x d → W (.ref (cad x.cls)) d σ H'
  | .stk => False
section
variable {α β α' β' : Type} {K : PySem.W.Frag} {cad : Str → Addr} {W : WX} {rl : Rl α β} {rl' : Rl α' β'} {F F' H H' H0 : Hp} {ι ι' : List Addr} {μ μ' : Store} {ρ : Ev} {σ : L2.St}
theorem Post.ext {r : Res α} {Q : β → Hp → Prop} (x : Ext F ι H F' ι' H') (h : Post K cad W rl F ι H σ r Q) : Post K cad W rl F' ι' H' σ r Q := by
  cases r with
  | ok a μ => exact fun F2 ι2 H2 b y s q => h F2 ι2 H2 b (x.trans y) s (rl.mono x.dom q)
  | exc e μ => exact fun F2 ι2 H2 d y s q => h F2 ι2 H2 d (x.trans y) s q
  | stk => exact h
theorem Post.bind {r : Res α} {f : α → Store → Res α'} {Q : β → Hp → Prop} {Q' : β' → Hp → Prop} (h : Post K cad W rl' F ι H σ (r.bind f) Q')
    (k : ∀ a μ1 F1 ι1 H1 b, Ext F ι H F1 ι1 H1 → RS K cad F1 ι1 μ1 H1 → rl.r H F1 ι1 H1 a b → Post K cad W rl' F1 ι1 H1 σ (f a μ1) Q' → Q b H1) : Post K cad W rl F ι H σ r Q := by
  cases r with
  | ok a μ => exact fun F2 ι2 H2 b y s q => k a μ F2 ι2 H2 b y s q (Post.ext y h)
  | exc e μ => exact h
  | stk => exact h
/-- the same, by the first heap -/
theorem Post.bindX {F1 H1 : Hp} {ι1 : List Addr} {r : Res α} {f : α → Store → Res α'} {Q : β → Hp → Prop} {Q' : β' → Hp → Prop} (x0 : Ext F ι H F1 ι1 H1) (h : Post K cad W rl' F ι H σ (r.bind f) Q')
    (k : ∀ a μ2 F2 ι2 H2 b, Ext F1 ι1 H1 F2 ι2 H2 → RS K cad F2 ι2 μ2 H2 → rl.r H1 F2 ι2 H2 a b → Post K cad W rl' F ι H σ (f a μ2) Q' → Q b H2) : Post K cad W rl F1 ι1 H1 σ r Q := by
  cases r with
  | ok a μ => exact fun F2 ι2 H2 b y s q => k a μ F2 ι2 H2 b y s q h
  | exc e μ => exact fun F2 ι2 H2 d y s q => h F2 ι2 H2 d (x0.trans y) s q
  | stk => exact h
/-- the same piece, one change of what is given -/
theorem Post.imp {r : Res α} {Q Q' : β → Hp → Prop} (h : Post K cad W rl F ι H σ r Q) (k : ∀ a F1 ι1 H1 b, Ext F ι H F1 ι1 H1 → rl.r H F1 ι1 H1 a b → Q b H1 → Q' b H1) : Post K cad W rl F ι H σ r Q' := by
  cases r with
  | ok a μ => exact fun F2 ι2 H2 b y s q => k a F2 ι2 H2 b y q (h F2 ι2 H2 b y s q)
  | exc e μ => exact h
  | stk => exact h
theorem Post.of {o : Option α} {Q : β → Hp → Prop} (h : Post K cad W rl F ι H σ (Res.of o μ) Q) : ∃ a, o = some a ∧ ∀ F' ι' H' b, Ext F ι H F' ι' H' → RS K cad F' ι' μ H' → rl.r H F' ι' H' a b → Q b H' := by
  cases o with
  | none => exact h.elim
  | some a => exact ⟨a, rfl, h⟩
end

/-! ### readings -/
def tE (K : PySem.W.Frag) (cad : Str → Addr) (W : WX) (m : ME) : TE := fun σ H Q => ∃ F ι μ ρ, R K cad F ι μ ρ σ H ∧ Post K cad W (rlE K cad ρ σ) F ι H σ (m ρ μ) Q
def tT (K : PySem.W.Frag) (cad : Str → Addr) (W : WX) (m : MT) : TT := fun σ H Q => ∃ F ι μ ρ, R K cad F ι μ ρ σ H ∧ Post K cad W rlT F ι H σ (m ρ μ) Q
def tD (K : PySem.W.Frag) (cad : Str → Addr) (W : WX) (m : Ev → Store → Res D) : TE := fun σ H Q => ∃ F ι μ ρ, R K cad F ι μ ρ σ H ∧ Post K cad W (rlD K cad) F ι H σ (m ρ μ) Q
def tDs (K : PySem.W.Frag) (cad : Str → Addr) (W : WX) (m : MA) : TA := fun σ H Q => ∃ F ι μ ρ, R K cad F ι μ ρ σ H ∧ Post K cad W (rlDs K cad) F ι H σ (m ρ μ) Q
def tOs (K : PySem.W.Frag) (cad : Str → Addr) (W : WX) (m : Ev → Store → Res (List Op)) : TA := fun σ H Q => ∃ F ι μ ρ, R K cad F ι μ ρ σ H ∧ Post K cad W (rlA K cad ρ σ) F ι H σ (m ρ μ) Q
section
variable {X : Cx} {e : Expr} {es : List Expr}
theorem pe_imp {t t' : TE} (h : PE X e t) (k : ∀ σ H Q, t' σ H Q → t σ H Q) : PE X e t' := ⟨fun pins s σ H Q I q => h.run pins s σ H Q I (k σ H Q q)⟩
theorem pt_imp {t t' : TT} (h : PT X e t) (k : ∀ σ H Q, t' σ H Q → t σ H Q) : PT X e t' := ⟨fun pins s σ H Q I q => h.run pins s σ H Q I (k σ H Q q)⟩
theorem pw_imp {t t' : TT} (h : PW X e t) (k : ∀ σ H Q, t' σ H Q → t σ H Q) : PW X e t' := ⟨fun whole pins s σ H Q I q => h.run whole pins s σ H Q I (k σ H Q q)⟩
theorem pa_imp {t t' : TA} (h : PA X es t) (k : ∀ σ H Q, t' σ H Q → t σ H Q) : PA X es t' := ⟨fun pos pins s σ H Q I q => h.run pos pins s σ H Q I (k σ H Q q)⟩
theorem ps_imp {st : Stmt} {t t' : TS} (h : PS X st t) (k : ∀ D σ H, t' D σ H → t D σ H) : PS X st t' := ⟨fun pins s σ H D I q => h.run pins s σ H D I (k D σ H q)⟩
theorem pss_imp {st : List Stmt} {t t' : TS} (h : PSs X st t) (k : ∀ D σ H, t' D σ H → t D σ H) : PSs X st t' := ⟨fun pins s σ H D I q => h.run pins s σ H D I (k D σ H q)⟩
end
/-! ### names, constants -/
def eVar (i : Nat) : ME := fun ρ μ => match ρ[i]? with
  | some (.sh d) => .ok (.sh d) μ
  | some (.own o) => .ok (.slot i) μ
  | _ => .stk
def eC (d : D) : ME := fun _ μ => .ok (.sh d) μ
section
variable {X : Cx} {cad : Str → Addr} {W : WX} {pos : Pos}
theorem de_var (i : Nat) {x : Str} (hN : X.N[i]? = some x := by rfl) (hv : Vis X.env.scope x := by first | exact Or.inl rfl | exact Or.inr (Or.inl rfl) | exact Or.inr (Or.inr rfl)) (hd : (x == ("__debug__" : Str)) = false := by decide)
    (hcd : (x == ("__classdict__" : Str)) = false := by decide) : PE X (.Name x pos) (tE X.K cad W (eVar i)) := by
  refine pe_imp (pe_var hN hv hd hcd) fun σ H Q ⟨F, ι, μ, ρ, r, h⟩ => ?_
  unfold eVar at h
  split at h
  · next d e =>
    obtain ⟨v, e1, q⟩ := r.sh i d e
    exact ⟨v, e1, h F ι H v (Ext.refl _ _ _) r.rs q⟩
  · next o e =>
    obtain ⟨a, ho, e1, _⟩ := r.own i o e
    exact ⟨_, e1, h F ι H _ (Ext.refl _ _ _) r.rs ⟨e1, o, e⟩⟩
  · exact h.elim
theorem tC_of {K : PySem.W.Frag} {d : D} {v : V} (hv : ∀ ι F, VR K cad ι F d v) {σ : L2.St} {H : Hp} {Q : VK} (h : tE K cad W (eC d) σ H Q) : tC v σ H Q := by
  obtain ⟨F, ι, μ, ρ, r, h⟩ := h
  exact h F ι H v (Ext.refl _ _ _) r.rs (hv ι F)
theorem de_int {i : Int} {j} : PE X (.Constant (.int i) j pos) (tE X.K cad W (eC (.int i))) := pe_imp pe_int fun σ H Q h => tC_of (d := .int i) (fun _ _ => by unfold VR; rfl) h
theorem de_bl {b : Bool} {j} : PE X (.Constant (.bool b) j pos) (tE X.K cad W (eC (.bl b))) := pe_imp pe_bl fun σ H Q h => tC_of (d := .bl b) (fun _ _ => by unfold VR; rfl) h
theorem de_non {j} : PE X (.Constant .none j pos) (tE X.K cad W (eC .non)) := pe_imp pe_non fun σ H Q h => tC_of (d := .non) (fun _ _ => by unfold VR; rfl) h
theorem de_str {x : Str} {j} : PE X (.Constant (.str x) j pos) (tE X.K cad W (eC (.str x))) := pe_imp pe_str fun σ H Q h => tC_of (d := .str x) (fun _ _ => by unfold VR; rfl) h
/-- a module's constant: an int, a text -/
theorem de_gint {x : Str} {i : Int} (hg : Gl X x) (hm : ∃ t, X.mg x = some (.int i t)) (hd : (x == ("__debug__" : Str)) = false := by decide) : PE X (.Name x pos) (tE X.K cad W (eC (.int i))) := by
  obtain ⟨t, hm⟩ := hm
  exact pe_imp (pe_glob (v := .int i) hg hm ⟨t, rfl⟩ hd) fun σ H Q h => tC_of (d := .int i) (fun _ _ => by unfold VR; rfl) h
theorem de_gstr {x s : Str} (hg : Gl X x) (hm : ∃ t, X.mg x = some (.str s t)) (hd : (x == ("__debug__" : Str)) = false := by decide) : PE X (.Name x pos) (tE X.K cad W (eC (.str s))) := by
  obtain ⟨t, hm⟩ := hm
  exact pe_imp (pe_glob (v := .str s) hg hm ⟨t, rfl⟩ hd) fun σ H Q h => tC_of (d := .str s) (fun _ _ => by unfold VR; rfl) h
end
/-! ### data out of what an expression gave -/
def Op.toD : Op → Option D
  | .sh d => some d
  | .own (.lst xs) => some (.lst xs)
  | .own (.ins c fs) => some (.ins c (fs.map (·.1)) (fs.map (·.2)))
  | _ => none
def toD (m : ME) : Ev → Store → Res D := fun ρ μ => (m ρ μ).bind fun o μ' => Res.of o.toD μ'
section
variable {K : PySem.W.Frag} {cad : Str → Addr} {W : WX} {F F' H H' H0 : Hp} {ι ι' : List Addr} {μ μ' : Store} {ρ : Ev} {σ : L2.St}
theorem Ext.frz {p : Addr} {ho : HO} (x : Ext F ι H F' ι' H') (h1 : F' p = none) (h0 : H p = none) (hi : p ∉ ι') : Ext F ι H (upd F' p ho) ι' H' := by
  refine ⟨x.f.trans (same_new h1), x.i, x.kept, x.dom, fun a e1 e2 => ?_, x.ni⟩
  by_cases q : a = p
  · rw [q]
    exact ⟨fun z => hi (x.i.subset z), .inl h0⟩
  · rw [upd_ne q] at e2
    exact x.nf a e1 e2
theorem Post.toD {r : Res Op} {Q : VK} (h : Post K cad W (rlD K cad) F ι H σ (r.bind fun o μ' => Res.of o.toD μ') Q) : Post K cad W (rlE K cad ρ σ) F ι H σ r Q := by
  cases r with
  | exc x μ => exact h
  | stk => exact h
  | ok o μ1 =>
    obtain ⟨d, e, h⟩ := Post.of h
    intro F1 ι1 H1 v x s q
    cases o with
    | sh d' => cases e; exact h F1 ι1 H1 v x s q
    | slot i => cases e
    | own o =>
      obtain ⟨a, ho, rfl, e2, e3, e4, e5, z⟩ := q
      have x2 := x.frz (ho := ho) e2 e4 e3
      have s2 := s.freeze e5 e3 e2
      have sm : Same F1 (upd F1 a ho) := same_new e2
      cases o with
      | lst xs =>
        cases e
        obtain ⟨vs, rfl, rv⟩ := z
        refine h _ _ _ _ x2 s2 ?_
        show VR K cad ι1 _ (.lst xs) _
        unfold VR
        exact ⟨a, vs, rfl, upd_same, VRs.mono sm List.prefix_rfl _ _ rv⟩
      | ins c fs =>
        cases e
        obtain ⟨dx, vs, rfl, rv⟩ := z
        refine h _ _ _ _ x2 s2 ?_
        show VR K cad ι1 _ (.ins c _ _) _
        unfold VR
        refine ⟨a, dx, vs, rfl, upd_same, ?_, VRs.mono sm List.prefix_rfl _ _ rv⟩
        have := rv.len
        rw [List.length_map] at this ⊢
        exact this
      | dK kvs => cases e
      | dT kvs => cases e
      | lkK kvs => cases e
      | lkT kvs => cases e
      | dead => cases e
end
section
variable {X : Cx} {cad : Str → Addr} {W : WX} {pos : Pos} {e : Expr} {es : List Expr}
theorem de_toD {m : ME} (h : PE X e (tE X.K cad W m)) : PE X e (tD X.K cad W (toD m)) := pe_imp h fun σ H Q ⟨F, ι, μ, ρ, r, q⟩ => ⟨F, ι, μ, ρ, r, q.toD⟩
/-! ### arguments -/
def aNil : MA := fun _ μ => .ok [] μ
def aCons (m : ME) (r : MA) : MA := fun ρ μ => (toD m ρ μ).bind fun d μ1 => (r ρ μ1).bind fun ds μ2 => .ok (d :: ds) μ2
theorem da_nil : PA X [] (tDs X.K cad W aNil) := pa_imp pa_nil fun σ H Q ⟨F, ι, μ, ρ, r, q⟩ => q F ι H [] (Ext.refl _ _ _) r.rs rfl
theorem da_cons {m : ME} {ms : MA} (h : PE X e (tE X.K cad W m)) (t : PA X es (tDs X.K cad W ms)) (hs : starEach (e :: es) X.env = (false, eval e X.env) :: starEach es X.env := by rfl) : PA X (e :: es) (tDs X.K cad W (aCons m ms)) := by
  refine pa_imp (pa_cons (de_toD h) t hs) fun σ H Q ⟨F, ι, μ, ρ, r, q⟩ => ?_
  refine ⟨F, ι, μ, ρ, r, q.bind fun d μ1 F1 ι1 H1 v x1 s1 q1 h1 => ?_⟩
  refine ⟨F1, ι1, μ1, ρ, r.ext x1 s1, h1.bind fun ds μ2 F2 ι2 H2 vs x2 s2 q2 h2 => ?_⟩
  exact h2 F2 ι2 H2 (v :: vs) (Ext.refl _ _ _) s2 ⟨v, vs, rfl, VR.mono x2.f x2.i _ _ q1, q2⟩
/-- arguments that are looked at -/
def oNil : Ev → Store → Res (List Op) := fun _ μ => .ok [] μ
def oCons (m : ME) (r : Ev → Store → Res (List Op)) : Ev → Store → Res (List Op) := fun ρ μ => (m ρ μ).bind fun d μ1 => (r ρ μ1).bind fun ds μ2 => .ok (d :: ds) μ2
theorem do_nil : PA X [] (tOs X.K cad W oNil) := pa_imp pa_nil fun σ H Q ⟨F, ι, μ, ρ, r, q⟩ => q F ι H [] (Ext.refl _ _ _) r.rs .nil
theorem do_cons {m : ME} {ms : Ev → Store → Res (List Op)} (h : PE X e (tE X.K cad W m)) (t : PA X es (tOs X.K cad W ms)) (hs : starEach (e :: es) X.env = (false, eval e X.env) :: starEach es X.env := by rfl) : PA X (e :: es) (tOs X.K cad W (oCons m ms)) := by
  refine pa_imp (pa_cons h t hs) fun σ H Q ⟨F, ι, μ, ρ, r, q⟩ => ?_
  refine ⟨F, ι, μ, ρ, r, q.bindX (Ext.refl _ _ _) fun d μ1 F1 ι1 H1 v x1 s1 q1 h1 => ?_⟩
  refine ⟨F1, ι1, μ1, ρ, r.ext x1 s1, h1.bindX x1 fun ds μ2 F2 ι2 H2 vs x2 s2 q2 h2 => ?_⟩
  exact h2 F2 ι2 H2 (v :: vs) (x1.trans x2) s2 (.cons (OpV.mono (H1 := H1) x2 q1) ((rlA X.K cad ρ σ).mono x1.dom q2))
end
end DL

namespace DL
open PySem PySem.Spec PyProof.Rows L2

/-! ### two operands -/
def fin2 (f : Vw → Vw → Option Rv) (ρ : Ev) (μ : Store) (x y : Op) : Option Op := (deref ρ μ x).bind fun wx => (deref ρ μ y).bind fun wy => (f wx wy).map Rv.op
def e2 (f : Vw → Vw → Option Rv) (a b : ME) : ME := fun ρ μ => (a ρ μ).bind fun x μ1 => (b ρ μ1).bind fun y μ2 => Res.of (fin2 f ρ μ2 x y) μ2
def Sd2 (K : PySem.W.Frag) (cad : Str → Addr) (r : R2) (f : Vw → Vw → Option Rv) : Prop := ∀ {F : Hp} {ι : List Addr} {μ : Store} {H : Hp} {wx wy : Vw} {vx vy : V} {rv : Rv} {Q : VK}, RS K cad F ι μ H → VwR K cad F ι H wx vx → VwR K cad F ι H wy vy → f wx wy = some rv →
  (∀ F' ι' H' v, Ext F ι H F' ι' H' → RS K cad F' ι' μ H' → RvR K cad H F' ι' H' rv v → Q v H') → r vx vy H Q
def e1 (f : Vw → Option Rv) (a : ME) : ME := fun ρ μ => (a ρ μ).bind fun x μ1 => Res.of ((deref ρ μ1 x).bind fun wx => (f wx).map Rv.op) μ1
def Sd1 (K : PySem.W.Frag) (cad : Str → Addr) (r : V → Hp → VK → Prop) (f : Vw → Option Rv) : Prop := ∀ {F : Hp} {ι : List Addr} {μ : Store} {H : Hp} {wx : Vw} {vx : V} {rv : Rv} {Q : VK}, RS K cad F ι μ H → VwR K cad F ι H wx vx → f wx = some rv →
  (∀ F' ι' H' v, Ext F ι H F' ι' H' → RS K cad F' ι' μ H' → RvR K cad H F' ι' H' rv v → Q v H') → r vx H Q
section
variable {K : PySem.W.Frag} {cad : Str → Addr} {W : WX}
theorem fin2_ok {r : R2} {f : Vw → Vw → Option Rv} (sd : Sd2 K cad r f) {F : Hp} {ι : List Addr} {μ : Store} {H : Hp} {ρ : Ev} {σ : L2.St} {x y o : Op} {vx vy : V} {H0 H1 : Hp} {Q : VK} (rr : R K cad F ι μ ρ σ H) (qx : OpV K cad ρ σ H0 F ι H x vx) (qy : OpV K cad ρ σ H1 F ι H y vy)
    (e : fin2 f ρ μ x y = some o) (q : ∀ F' ι' H' v, Ext F ι H F' ι' H' → RS K cad F' ι' μ H' → OpV K cad ρ σ H F' ι' H' o v → Q v H') : r vx vy H Q := by
  unfold fin2 at e
  cases cx : deref ρ μ x with
  | none => rw [cx] at e; cases e
  | some wx =>
    cases cy : deref ρ μ y with
    | none => rw [cx, cy] at e; cases e
    | some wy =>
      rw [cx, cy] at e
      cases cf : f wx wy with
      | none => simp [cf] at e
      | some rv =>
        simp [cf] at e
        subst e
        exact sd rr.rs (qx.view rr cx) (qy.view rr cy) cf fun F' ι' H' v x s z => q F' ι' H' v x s z.op
theorem e2_ok {r : R2} {f : Vw → Vw → Option Rv} (sd : Sd2 K cad r f) {a b : ME} {σ : L2.St} {H : Hp} {Q : VK} (h : tE K cad W (e2 f a b) σ H Q) : tOp r (tE K cad W a) (tE K cad W b) σ H Q := by
  obtain ⟨F, ι, μ, ρ, rr, q⟩ := h
  refine ⟨F, ι, μ, ρ, rr, q.bind fun x μ1 F1 ι1 H1 vx x1 s1 q1 h1 => ?_⟩
  refine ⟨F1, ι1, μ1, ρ, rr.ext x1 s1, h1.bind fun y μ2 F2 ι2 H2 vy x2 s2 q2 h2 => ?_⟩
  obtain ⟨o, e, h3⟩ := Post.of h2
  exact fin2_ok sd ((rr.ext x1 s1).ext x2 s2) (OpV.mono (H1 := H1) x2 q1) q2 e h3
theorem e1_ok {r : V → Hp → VK → Prop} {f : Vw → Option Rv} (sd : Sd1 K cad r f) {a : ME} {σ : L2.St} {H : Hp} {Q : VK} (h : tE K cad W (e1 f a) σ H Q) : tUn r (tE K cad W a) σ H Q := by
  obtain ⟨F, ι, μ, ρ, rr, q⟩ := h
  refine ⟨F, ι, μ, ρ, rr, q.bind fun x μ1 F1 ι1 H1 vx x1 s1 q1 h1 => ?_⟩
  obtain ⟨o, e, h3⟩ := Post.of h1
  cases cx : deref ρ μ1 x with
  | none => rw [cx] at e; cases e
  | some wx =>
    rw [cx] at e
    cases cf : f wx with
    | none => simp [cf] at e
    | some rv =>
      simp [cf] at e
      subst e
      exact sd s1 (OpV.view (rr.ext x1 s1) q1 cx) cf fun F' ι' H' v x s z => h3 F' ι' H' v x s z.op
end
/-! ### a test -/
def mT (m : ME) : MT := fun ρ μ => (m ρ μ).bind fun o μ' => match o with
  | .sh (.bl b) => .ok b μ'
  | _ => .stk
section
variable {X : Cx} {cad : Str → Addr} {W : WX} {pos : Pos} {a b c d : Expr} {ma mb mc md : ME} {op op' op'' : CmpOp} {r r' r'' : R2} {f f' f'' : Vw → Vw → Option Rv}
theorem mT_ok {K : PySem.W.Frag} {m : ME} {σ : L2.St} {H : Hp} {Q : Bool → Hp → Prop} (h : tT K cad W (mT m) σ H Q) : tE K cad W m σ H fun x H' => ∃ k, x = .bl k ∧ Q k H' := by
  obtain ⟨F, ι, μ, ρ, rr, q⟩ := h
  refine ⟨F, ι, μ, ρ, rr, q.bind fun o μ1 F1 ι1 H1 v x1 s1 q1 h1 => ?_⟩
  split at h1
  · next b =>
    have q1 : VR K cad ι1 F1 (.bl b) v := q1
    unfold VR at q1
    exact ⟨b, q1, h1 F1 ι1 H1 b (Ext.refl _ _ _) s1 rfl⟩
  · exact h1.elim
theorem dt_val {e : Expr} {m : ME} (h : PE X e (tE X.K cad W m)) (he : ∀ whole, isTrue e X.env whole = (do let v ← whole; standAt e.pos; holding [v] (truthy v)) := by intro _; rfl) : PT X e (tT X.K cad W (mT m)) :=
  pt_imp (pt_val h he) fun σ H Q q => mT_ok q
theorem de_bin {op : Operator} (ho : OpR X (binaryOp op) r) (sd : Sd2 X.K cad r f) (ha : PE X a (tE X.K cad W ma)) (hb : PE X b (tE X.K cad W mb)) : PE X (.BinOp a op b pos) (tE X.K cad W (e2 f ma mb)) := pe_imp (pe_op ho ha hb) fun σ H Q q => e2_ok sd q
theorem de_un {op : UnaryOp} {r : V → Hp → VK → Prop} {f : Vw → Option Rv} (ho : UnR X (unaryOp op) r) (sd : Sd1 X.K cad r f) (ha : PE X a (tE X.K cad W ma)) : PE X (.UnaryOp op a pos) (tE X.K cad W (e1 f ma)) := pe_imp (pe_un ho ha) fun σ H Q q => e1_ok sd q
theorem de_cmp (ho : OpR X (compareOp op) r) (sd : Sd2 X.K cad r f) (ha : PE X a (tE X.K cad W ma)) (hb : PE X b (tE X.K cad W mb)) (hm : behindInMarks op b = false := by first | exact nomark _ | rfl | with_unfolding_all rfl) : PE X (.Compare a [op] [b] pos) (tE X.K cad W (e2 f ma mb)) := pe_imp (pe_cmpR ho ha hb hm) fun σ H Q q => e2_ok sd q
theorem dt_cmp (ho : OpR X (compareOp op) r) (sd : Sd2 X.K cad r f) (ha : PE X a (tE X.K cad W ma)) (hb : PE X b (tE X.K cad W mb)) (hm : behindInMarks op b = false := by first | exact nomark _ | rfl | with_unfolding_all rfl) : PT X (.Compare a [op] [b] pos) (tT X.K cad W (mT (e2 f ma mb))) :=
  pt_imp (pt_cmpR ho ha hb hm) fun σ H Q q => e2_ok sd (mT_ok q)
theorem de_ix (hr : IxR X r) (sd : Sd2 X.K cad r f) (ha : PE X a (tE X.K cad W ma)) (hb : PE X b (tE X.K cad W mb)) (hs : PlainIx b := by intro _ _; rfl) : PE X (.Subscript a b pos) (tE X.K cad W (e2 f ma mb)) := pe_imp (pe_ix hr ha hb hs) fun σ H Q q => e2_ok sd q

/-! ### chains -/
def chainE (f : Vw → Vw → Option Rv) (ρ : Ev) (μ : Store) (x y : Op) (k : Store → Res Op) : Res Op := match fin2 f ρ μ x y with
  | some (.sh (.bl c)) => if c = true then k μ else .ok (.sh (.bl false)) μ
  | _ => .stk
def eCh2 (f f' : Vw → Vw → Option Rv) (a b c : ME) : ME := fun ρ μ => (a ρ μ).bind fun x μ1 => (b ρ μ1).bind fun y μ2 => chainE f ρ μ2 x y fun μ2 => (c ρ μ2).bind fun z μ3 => Res.of (fin2 f' ρ μ3 y z) μ3
def eCh3 (f f' f'' : Vw → Vw → Option Rv) (a b c d : ME) : ME := fun ρ μ => (a ρ μ).bind fun x μ1 => (b ρ μ1).bind fun y μ2 => chainE f ρ μ2 x y fun μ2 => (c ρ μ2).bind fun z μ3 => chainE f' ρ μ3 y z fun μ3 => (d ρ μ3).bind fun u μ4 => Res.of (fin2 f'' ρ μ4 z u) μ4
/-- a op b op' c op'' d -/
def tChain3 (r r' r'' : R2) (ta tb tc td : TE) : TE := fun σ H Q => ta σ H fun x H1 => tb σ H1 fun y H2 => r x y H2 fun z H3 => ∃ k, z = .bl k ∧
  (if k = true then tc σ H3 fun z' H4 => r' y z' H4 fun z2 H5 => ∃ k, z2 = .bl k ∧ (if k = true then td σ H5 fun u H6 => r'' z' u H6 Q else Q (.bl false) H5) else Q (.bl false) H3)
theorem pe_chain3 {ta tb tc td : TE} (ho : OpR X (compareOp op) r) (ho' : OpR X (compareOp op') r') (ho'' : OpR X (compareOp op'') r'') (ha : PE X a ta) (hb : PE X b tb) (hc : PE X c tc) (hd : PE X d td)
    (hm : lastMarks [op, op', op''] [b, c, d] = false := by with_unfolding_all rfl) : PE X (.Compare a [op, op', op''] [b, c, d] pos) (tChain3 r r' r'' ta tb tc td) := by
  refine ⟨fun pins s σ H Q I h => ?_⟩
  refine Compare_chain (thn (ha.run pins s σ H _ I h) fun v s1 ⟨x, H1, I1, r1, q1⟩ => chain_link (thn (hb.run pins s1 σ H1 _ I1 q1) fun u s2 ⟨y, H2, I2, r2, q2⟩ =>
    thn (ho pins s2 σ H2 x y v u _ I2 r1 r2 q2) fun d' s3 ⟨z, H3, I3, r3, k, e, q3⟩ => ?_)) hm
  subst e
  cases r3
  refine wpAny_truthy_bool ?_
  cases k with
  | false => exact ite_ff ⟨.bl false, H3, I3, rfl, q3⟩
  | true =>
    refine ite_tt (chain_link (thn (hc.run pins s3 σ H3 _ I3 q3) fun w' s4 ⟨z', H4, I4, r4, q4⟩ => thn (ho' pins s4 σ H4 y z' u w' _ I4 r2 r4 q4) fun d2 s5 ⟨z2, H5, I5, r5, k2, e2, q5⟩ => ?_))
    subst e2
    cases r5
    refine wpAny_truthy_bool ?_
    cases k2 with
    | false => exact ite_ff ⟨.bl false, H5, I5, rfl, q5⟩
    | true => exact ite_tt (chain_last (thn (hd.run pins s5 σ H5 _ I5 q5) fun w2 s6 ⟨z3, H6, I6, r6, q6⟩ => ho'' pins s6 σ H6 z' z3 w' w2 Q I6 r4 r6 q6))
theorem pt_chain3 {ta tb tc td : TE} (ho : OpR X (compareOp op) r) (ho' : OpR X (compareOp op') r') (ho'' : OpR X (compareOp op'') r'') (ha : PE X a ta) (hb : PE X b tb) (hc : PE X c tc) (hd : PE X d td)
    (hm : lastMarks [op, op', op''] [b, c, d] = false := by with_unfolding_all rfl) : PT X (.Compare a [op, op', op''] [b, c, d] pos) (tTest (tChain3 r r' r'' ta tb tc td)) := by
  refine ⟨fun pins s σ H Q I h => ?_⟩
  refine isTrue_chain (thn (ha.run pins s σ H _ I h) fun v s1 ⟨x, H1, I1, r1, q1⟩ => test_link (thn (hb.run pins s1 σ H1 _ I1 q1) fun u s2 ⟨y, H2, I2, r2, q2⟩ =>
    thn (ho pins s2 σ H2 x y v u _ I2 r1 r2 q2) fun d' s3 ⟨z, H3, I3, r3, k, e, q3⟩ => ?_)) hm
  subst e
  cases r3
  refine wpAny_truthy_bool ?_
  cases k with
  | false =>
    obtain ⟨k', e', q'⟩ := q3
    cases e'
    exact ite_ff ⟨H3, I3, q'⟩
  | true =>
    refine ite_tt (test_link (thn (hc.run pins s3 σ H3 _ I3 q3) fun w' s4 ⟨z', H4, I4, r4, q4⟩ => thn (ho' pins s4 σ H4 y z' u w' _ I4 r2 r4 q4) fun d2 s5 ⟨z2, H5, I5, r5, k2, e2, q5⟩ => ?_))
    subst e2
    cases r5
    refine wpAny_truthy_bool ?_
    cases k2 with
    | false =>
      obtain ⟨k', e', q'⟩ := q5
      cases e'
      exact ite_ff ⟨H5, I5, q'⟩
    | true =>
      refine ite_tt (test_last (thn (hd.run pins s5 σ H5 _ I5 q5) fun w2 s6 ⟨z3, H6, I6, r6, q6⟩ => thn (ho'' pins s6 σ H6 z' z3 w' w2 _ I6 r4 r6 q6) fun d3 s7 ⟨z4, H7, I7, r7, k3, e3, q7⟩ => ?_))
      subst e3
      cases r7
      exact wpAny_truthy_bool ⟨H7, I7, q7⟩
theorem chainE_ok {K : PySem.W.Frag} {W : WX} (sd : Sd2 K cad r f) {F : Hp} {ι : List Addr} {μ : Store} {H : Hp} {ρ : Ev} {σ : L2.St} {x y : Op} {vx vy : V} {H0 H1 : Hp} {k : Store → Res Op} {Q : VK} (rr : R K cad F ι μ ρ σ H) (qx : OpV K cad ρ σ H0 F ι H x vx) (qy : OpV K cad ρ σ H1 F ι H y vy)
    (h : Post K cad W (rlE K cad ρ σ) F ι H σ (chainE f ρ μ x y k) Q) {P : Hp → Prop} (kk : ∀ F' ι' H', Ext F ι H F' ι' H' → RS K cad F' ι' μ H' → Post K cad W (rlE K cad ρ σ) F' ι' H' σ (k μ) Q → P H') :
    r vx vy H fun z H3 => ∃ k, z = .bl k ∧ (if k = true then P H3 else Q (.bl false) H3) := by
  unfold chainE at h
  split at h
  · next c e =>
    refine fin2_ok sd rr qx qy e fun F' ι' H' v x s q => ?_
    have q : VR K cad ι' F' (.bl c) v := q
    unfold VR at q
    refine ⟨c, q, ?_⟩
    cases c with
    | true => rw [if_pos rfl] at h ⊢; exact kk F' ι' H' x s (h.ext x)
    | false =>
      rw [if_neg Bool.false_ne_true] at h ⊢
      refine h F' ι' H' _ x s ?_
      show VR K cad ι' F' (.bl false) _
      unfold VR
      rfl
  · exact h.elim
theorem eCh2_ok {K : PySem.W.Frag} {W : WX} (sd : Sd2 K cad r f) (sd' : Sd2 K cad r' f') {σ : L2.St} {H : Hp} {Q : VK} (h : tE K cad W (eCh2 f f' ma mb mc) σ H Q) : tChain r r' (tE K cad W ma) (tE K cad W mb) (tE K cad W mc) σ H Q := by
  obtain ⟨F, ι, μ, ρ, rr, q⟩ := h
  refine ⟨F, ι, μ, ρ, rr, q.bind fun x μ1 F1 ι1 H1 vx x1 s1 q1 h1 => ?_⟩
  refine ⟨F1, ι1, μ1, ρ, rr.ext x1 s1, h1.bind fun y μ2 F2 ι2 H2 vy x2 s2 q2 h2 => ?_⟩
  have r2 := (rr.ext x1 s1).ext x2 s2
  refine chainE_ok sd r2 (OpV.mono (H1 := H1) x2 q1) q2 h2 fun F3 ι3 H3 x3 s3 h3 => ?_
  refine ⟨F3, ι3, μ2, ρ, r2.ext x3 s3, h3.bind fun z μ4 F4 ι4 H4 vz x4 s4 q4 h4 => ?_⟩
  obtain ⟨o, e, h5⟩ := Post.of h4
  exact fin2_ok sd' ((r2.ext x3 s3).ext x4 s4) (OpV.mono (H1 := H1) x4 (OpV.mono (H1 := H1) x3 q2)) q4 e h5
theorem eCh3_ok {K : PySem.W.Frag} {W : WX} (sd : Sd2 K cad r f) (sd' : Sd2 K cad r' f') (sd'' : Sd2 K cad r'' f'') {σ : L2.St} {H : Hp} {Q : VK} (h : tE K cad W (eCh3 f f' f'' ma mb mc md) σ H Q) : tChain3 r r' r'' (tE K cad W ma) (tE K cad W mb) (tE K cad W mc) (tE K cad W md) σ H Q := by
  obtain ⟨F, ι, μ, ρ, rr, q⟩ := h
  refine ⟨F, ι, μ, ρ, rr, q.bind fun x μ1 F1 ι1 H1 vx x1 s1 q1 h1 => ?_⟩
  refine ⟨F1, ι1, μ1, ρ, rr.ext x1 s1, h1.bind fun y μ2 F2 ι2 H2 vy x2 s2 q2 h2 => ?_⟩
  have r2 := (rr.ext x1 s1).ext x2 s2
  refine chainE_ok sd r2 (OpV.mono (H1 := H1) x2 q1) q2 h2 fun F3 ι3 H3 x3 s3 h3 => ?_
  have r3 := r2.ext x3 s3
  refine ⟨F3, ι3, μ2, ρ, r3, h3.bind fun z μ4 F4 ι4 H4 vz x4 s4 q4 h4 => ?_⟩
  have r4 := r3.ext x4 s4
  refine chainE_ok sd' r4 (OpV.mono (H1 := H1) x4 (OpV.mono (H1 := H1) x3 q2)) q4 h4 fun F5 ι5 H5 x5 s5 h5 => ?_
  have r5 := r4.ext x5 s5
  refine ⟨F5, ι5, μ4, ρ, r5, h5.bind fun u μ6 F6 ι6 H6 vu x6 s6 q6 h6 => ?_⟩
  obtain ⟨o, e, h7⟩ := Post.of h6
  exact fin2_ok sd'' (r5.ext x6 s6) (OpV.mono (H1 := H1) x6 (OpV.mono (H1 := H1) x5 q4)) q6 e h7
theorem de_ch2 (ho : OpR X (compareOp op) r) (sd : Sd2 X.K cad r f) (ho' : OpR X (compareOp op') r') (sd' : Sd2 X.K cad r' f') (ha : PE X a (tE X.K cad W ma)) (hb : PE X b (tE X.K cad W mb)) (hc : PE X c (tE X.K cad W mc)) (hm : lastMarks [op, op'] [b, c] = false := by with_unfolding_all rfl) :
    PE X (.Compare a [op, op'] [b, c] pos) (tE X.K cad W (eCh2 f f' ma mb mc)) := pe_imp (pe_chain ho ho' ha hb hc hm) fun σ H Q q => eCh2_ok sd sd' q
theorem dt_ch2 (ho : OpR X (compareOp op) r) (sd : Sd2 X.K cad r f) (ho' : OpR X (compareOp op') r') (sd' : Sd2 X.K cad r' f') (ha : PE X a (tE X.K cad W ma)) (hb : PE X b (tE X.K cad W mb)) (hc : PE X c (tE X.K cad W mc)) (hm : lastMarks [op, op'] [b, c] = false := by with_unfolding_all rfl) :
    PT X (.Compare a [op, op'] [b, c] pos) (tT X.K cad W (mT (eCh2 f f' ma mb mc))) := pt_imp (pt_chain ho ho' ha hb hc hm) fun σ H Q q => eCh2_ok sd sd' (mT_ok q)
theorem de_ch3 (ho : OpR X (compareOp op) r) (sd : Sd2 X.K cad r f) (ho' : OpR X (compareOp op') r') (sd' : Sd2 X.K cad r' f') (ho'' : OpR X (compareOp op'') r'') (sd'' : Sd2 X.K cad r'' f'') (ha : PE X a (tE X.K cad W ma)) (hb : PE X b (tE X.K cad W mb)) (hc : PE X c (tE X.K cad W mc)) (hd : PE X d (tE X.K cad W md))
    (hm : lastMarks [op, op', op''] [b, c, d] = false := by with_unfolding_all rfl) : PE X (.Compare a [op, op', op''] [b, c, d] pos) (tE X.K cad W (eCh3 f f' f'' ma mb mc md)) := pe_imp (pe_chain3 ho ho' ho'' ha hb hc hd hm) fun σ H Q q => eCh3_ok sd sd' sd'' q
theorem dt_ch3 (ho : OpR X (compareOp op) r) (sd : Sd2 X.K cad r f) (ho' : OpR X (compareOp op') r') (sd' : Sd2 X.K cad r' f') (ho'' : OpR X (compareOp op'') r'') (sd'' : Sd2 X.K cad r'' f'') (ha : PE X a (tE X.K cad W ma)) (hb : PE X b (tE X.K cad W mb)) (hc : PE X c (tE X.K cad W mc)) (hd : PE X d (tE X.K cad W md))
    (hm : lastMarks [op, op', op''] [b, c, d] = false := by with_unfolding_all rfl) : PT X (.Compare a [op, op', op''] [b, c, d] pos) (tT X.K cad W (mT (eCh3 f f' f'' ma mb mc md))) := pt_imp (pt_chain3 ho ho' ho'' ha hb hc hd hm) fun σ H Q q => eCh3_ok sd sd' sd'' (mT_ok q)
end

/-! ### and, or, not, if .. else -/
def mAnd (a b : MT) : MT := fun ρ μ => (a ρ μ).bind fun c μ1 => if c = true then b ρ μ1 else .ok false μ1
def mOr (a b : MT) : MT := fun ρ μ => (a ρ μ).bind fun c μ1 => if c = true then .ok true μ1 else b ρ μ1
def mNot (a : MT) : MT := fun ρ μ => (a ρ μ).bind fun c μ1 => .ok (!c) μ1
/-- a test as a value -/
def eB (m : MT) : ME := fun ρ μ => (m ρ μ).bind fun b μ1 => .ok (.sh (.bl b)) μ1
def eIf (t : MT) (a b : ME) : ME := fun ρ μ => (t ρ μ).bind fun c μ1 => if c = true then a ρ μ1 else b ρ μ1
section
variable {X : Cx} {cad : Str → Addr} {W : WX} {pos : Pos} {a b : Expr} {rest : List Expr} {ma mb : ME} {ta tb : MT}
theorem dw_and (ha : PT X a (tT X.K cad W ta)) (hb : PW X (.BoolOp .And (b :: rest) pos) (tT X.K cad W tb)) : PW X (.BoolOp .And (a :: b :: rest) pos) (tT X.K cad W (mAnd ta tb)) := by
  refine pw_imp (pw_and ha hb) fun σ H Q ⟨F, ι, μ, ρ, rr, q⟩ => ?_
  refine ⟨F, ι, μ, ρ, rr, q.bind fun c μ1 F1 ι1 H1 k x1 s1 q1 h1 => ?_⟩
  have q1 : c = k := q1
  subst q1
  cases c with
  | true => rw [if_pos rfl] at h1 ⊢; exact ⟨F1, ι1, μ1, ρ, rr.ext x1 s1, h1⟩
  | false => rw [if_neg Bool.false_ne_true] at h1 ⊢; exact h1 F1 ι1 H1 false (Ext.refl _ _ _) s1 rfl
theorem dw_or (ha : PT X a (tT X.K cad W ta)) (hb : PW X (.BoolOp .Or (b :: rest) pos) (tT X.K cad W tb)) : PW X (.BoolOp .Or (a :: b :: rest) pos) (tT X.K cad W (mOr ta tb)) := by
  refine pw_imp (pw_or ha hb) fun σ H Q ⟨F, ι, μ, ρ, rr, q⟩ => ?_
  refine ⟨F, ι, μ, ρ, rr, q.bind fun c μ1 F1 ι1 H1 k x1 s1 q1 h1 => ?_⟩
  have q1 : c = k := q1
  subst q1
  cases c with
  | true => rw [if_pos rfl] at h1 ⊢; exact h1 F1 ι1 H1 true (Ext.refl _ _ _) s1 rfl
  | false => rw [if_neg Bool.false_ne_true] at h1 ⊢; exact ⟨F1, ι1, μ1, ρ, rr.ext x1 s1, h1⟩
theorem dt_not (ha : PT X a (tT X.K cad W ta)) : PT X (.UnaryOp .Not a pos) (tT X.K cad W (mNot ta)) := by
  refine pt_imp (pt_not ha) fun σ H Q ⟨F, ι, μ, ρ, rr, q⟩ => ?_
  refine ⟨F, ι, μ, ρ, rr, q.bind fun c μ1 F1 ι1 H1 k x1 s1 q1 h1 => ?_⟩
  have q1 : c = k := q1
  subst q1
  exact h1 F1 ι1 H1 (!c) (Ext.refl _ _ _) s1 rfl
/-- a value that is True or False, by its test -/
structure PB (X : Cx) (cad : Str → Addr) (W : WX) (e : Expr) (m : MT) : Prop where
  v : PE X e (tE X.K cad W (eB m))
theorem eB_ok {K : PySem.W.Frag} {m : ME} {σ : L2.St} {H : Hp} {Q : VK} (h : tE K cad W (eB (mT m)) σ H Q) : tE K cad W m σ H Q := by
  obtain ⟨F, ι, μ, ρ, rr, q⟩ := h
  refine ⟨F, ι, μ, ρ, rr, ?_⟩
  unfold eB mT at q
  cases c : m ρ μ with
  | stk => rw [c] at q; exact q
  | exc x μ1 => rw [c] at q; exact q
  | ok o μ1 =>
    rw [c] at q
    cases o with
    | own o => exact q.elim
    | slot i => exact q.elim
    | sh d =>
      cases d with
      | bl b => exact q
      | _ => exact q.elim
theorem pb_val {e : Expr} {m : ME} (h : PE X e (tE X.K cad W m)) : PB X cad W e (mT m) := ⟨pe_imp h fun σ H Q q => eB_ok q⟩
theorem pb_one {op} (ha : PB X cad W a ta) : PB X cad W (.BoolOp op [a] pos) ta := ⟨pe_one ha.v⟩
theorem pb_and (ha : PB X cad W a ta) (hb : PB X cad W (.BoolOp .And (b :: rest) pos) tb) : PB X cad W (.BoolOp .And (a :: b :: rest) pos) (mAnd ta tb) := by
  refine ⟨pe_imp (pe_and ha.v hb.v) fun σ H Q ⟨F, ι, μ, ρ, rr, q⟩ => ?_⟩
  refine ⟨F, ι, μ, ρ, rr, ?_⟩
  unfold eB mAnd at q
  unfold eB
  cases c : ta ρ μ with
  | stk => rw [c] at q; exact q
  | exc x μ1 => rw [c] at q; exact q
  | ok k μ1 =>
    rw [c] at q
    intro F1 ι1 H1 v x1 s1 q1
    have q1 : VR X.K cad ι1 F1 (.bl k) v := q1
    unfold VR at q1
    refine ⟨k, q1, ?_⟩
    cases k with
    | true =>
      rw [if_pos rfl]
      exact ⟨F1, ι1, μ1, ρ, rr.ext x1 s1, Post.ext x1 q⟩
    | false =>
      rw [if_neg Bool.false_ne_true]
      refine q F1 ι1 H1 _ x1 s1 ?_
      show VR X.K cad ι1 F1 (.bl false) _
      unfold VR
      rfl
theorem pb_or (ha : PB X cad W a ta) (hb : PB X cad W (.BoolOp .Or (b :: rest) pos) tb) : PB X cad W (.BoolOp .Or (a :: b :: rest) pos) (mOr ta tb) := by
  refine ⟨pe_imp (pe_or ha.v hb.v) fun σ H Q ⟨F, ι, μ, ρ, rr, q⟩ => ?_⟩
  refine ⟨F, ι, μ, ρ, rr, ?_⟩
  unfold eB mOr at q
  unfold eB
  cases c : ta ρ μ with
  | stk => rw [c] at q; exact q
  | exc x μ1 => rw [c] at q; exact q
  | ok k μ1 =>
    rw [c] at q
    intro F1 ι1 H1 v x1 s1 q1
    have q1 : VR X.K cad ι1 F1 (.bl k) v := q1
    unfold VR at q1
    refine ⟨k, q1, ?_⟩
    cases k with
    | false =>
      rw [if_neg Bool.false_ne_true]
      exact ⟨F1, ι1, μ1, ρ, rr.ext x1 s1, Post.ext x1 q⟩
    | true =>
      rw [if_pos rfl]
      refine q F1 ι1 H1 _ x1 s1 ?_
      show VR X.K cad ι1 F1 (.bl true) _
      unfold VR
      rfl
theorem pb_not (ha : PB X cad W a ta) : PB X cad W (.UnaryOp .Not a pos) (mNot ta) := by
  refine ⟨pe_imp (pe_not ha.v) fun σ H Q ⟨F, ι, μ, ρ, rr, q⟩ => ?_⟩
  refine ⟨F, ι, μ, ρ, rr, ?_⟩
  unfold eB mNot at q
  unfold eB
  cases c : ta ρ μ with
  | stk => rw [c] at q; exact q
  | exc x μ1 => rw [c] at q; exact q
  | ok k μ1 =>
    rw [c] at q
    intro F1 ι1 H1 v x1 s1 q1
    have q1 : VR X.K cad ι1 F1 (.bl k) v := q1
    unfold VR at q1
    refine ⟨k, q1, q F1 ι1 H1 _ x1 s1 ?_⟩
    show VR X.K cad ι1 F1 (.bl (!k)) _
    unfold VR
    rfl
theorem de_ifx {t : Expr} {mt : MT} (ht : PT X t (tT X.K cad W mt)) (ha : PE X a (tE X.K cad W ma)) (hb : PE X b (tE X.K cad W mb)) : PE X (.IfExp t a b pos) (tE X.K cad W (eIf mt ma mb)) := by
  refine pe_imp (pe_ifExp ht ha hb) fun σ H Q ⟨F, ι, μ, ρ, rr, q⟩ => ?_
  refine ⟨F, ι, μ, ρ, rr, q.bind fun c μ1 F1 ι1 H1 k x1 s1 q1 h1 => ?_⟩
  have q1 : c = k := q1
  subst q1
  cases c with
  | true => rw [if_pos rfl] at h1 ⊢; exact ⟨F1, ι1, μ1, ρ, rr.ext x1 s1, h1⟩
  | false => rw [if_neg Bool.false_ne_true] at h1 ⊢; exact ⟨F1, ι1, μ1, ρ, rr.ext x1 s1, h1⟩
end
end DL

namespace DL
open PySem PySem.Spec PyProof.Rows L2
section
variable {K : PySem.W.Frag} {cad : Str → Addr} {F F' H H' H0 : Hp} {ι ι' : List Addr} {μ : Store} {v : V}
theorem VR.int_ {i : Int} : VR K cad ι F (.int i) v ↔ v = .int i := by unfold VR; exact Iff.rfl
theorem VR.bl_ {i : Bool} : VR K cad ι F (.bl i) v ↔ v = .bl i := by unfold VR; exact Iff.rfl
theorem VR.str_ {i : Str} : VR K cad ι F (.str i) v ↔ v = .str i := by unfold VR; exact Iff.rfl
theorem VR.non_ : VR K cad ι F .non v ↔ v = .non := by unfold VR; exact Iff.rfl
theorem VR.tup_ {ds : List D} : VR K cad ι F (.tup ds) v ↔ ∃ a vs, v = .ref a ∧ F a = some (.tup vs) ∧ VRs K cad ι F ds vs := by unfold VR; exact Iff.rfl
theorem VR.lst_ {ds : List D} : VR K cad ι F (.lst ds) v ↔ ∃ a vs, v = .ref a ∧ F a = some (.lst vs) ∧ VRs K cad ι F ds vs := by unfold VR; exact Iff.rfl
theorem VR.loc_ {n : Nat} : VR K cad ι F (.loc n) v ↔ ∃ a, v = .ref a ∧ ι[n]? = some a := by unfold VR; exact Iff.rfl
theorem VR.scr_ {ns : List Int} : VR K cad ι F (.scr ns) v ↔ ∃ a, v = .ref a ∧ SqL K F a (ns.map V.int) := by unfold VR; exact Iff.rfl
/-- nothing new: a plain answer -/
theorem fin_sh {Q : VK} {d : D} (rs : RS K cad F ι μ H) (q : ∀ F' ι' H' v, Ext F ι H F' ι' H' → RS K cad F' ι' μ H' → RvR K cad H F' ι' H' (.sh d) v → Q v H') (h : VR K cad ι F d v) : Q v H := q F ι H v (Ext.refl _ _ _) rs h
theorem fin_int {Q : VK} {i : Int} (rs : RS K cad F ι μ H) (q : ∀ F' ι' H' v, Ext F ι H F' ι' H' → RS K cad F' ι' μ H' → RvR K cad H F' ι' H' (.sh (.int i)) v → Q v H') : Q (.int i) H := fin_sh rs q (VR.int_.mpr rfl)
theorem fin_bl {Q : VK} {i : Bool} (rs : RS K cad F ι μ H) (q : ∀ F' ι' H' v, Ext F ι H F' ι' H' → RS K cad F' ι' μ H' → RvR K cad H F' ι' H' (.sh (.bl i)) v → Q v H') : Q (.bl i) H := fin_sh rs q (VR.bl_.mpr rfl)
theorem fin_str {Q : VK} {i : Str} (rs : RS K cad F ι μ H) (q : ∀ F' ι' H' v, Ext F ι H F' ι' H' → RS K cad F' ι' μ H' → RvR K cad H F' ι' H' (.sh (.str i)) v → Q v H') : Q (.str i) H := fin_sh rs q (VR.str_.mpr rfl)
/-- a new thing of its own -/
theorem fin_own {Q : VK} {o : Ob} {ho : HO} {p : Addr} (rs : RS K cad F ι μ H) (q : ∀ F' ι' H' v, Ext F ι H F' ι' H' → RS K cad F' ι' μ H' → RvR K cad H F' ι' H' (.own o) v → Q v H') (hp : H p = none) (h : OR K cad ι F o ho) : Q (.ref p) (upd H p ho) :=
  q F ι _ _ (Ext.newH hp) (rs.newH hp) ⟨p, ho, rfl, (rs.fresh hp).1, (rs.fresh hp).2, hp, upd_same, h⟩
/-- a new tuple -/
theorem fin_tup {Q : VK} {ds : List D} {vs : List V} {p : Addr} (rs : RS K cad F ι μ H) (q : ∀ F' ι' H' v, Ext F ι H F' ι' H' → RS K cad F' ι' μ H' → RvR K cad H F' ι' H' (.sh (.tup ds)) v → Q v H') (hp : H p = none) (h : VRs K cad ι F ds vs) : Q (.ref p) (upd H p (.tup vs)) :=
  q _ ι _ _ (Ext.newF rs hp) (rs.newF hp) (VR.tup_.mpr ⟨p, vs, rfl, upd_same, VRs.mono (same_new (rs.fresh hp).1) List.prefix_rfl _ _ h⟩)
theorem vw_int {i : Int} (h : VwR K cad F ι H (.d (.int i)) v) : v = .int i := VR.int_.mp (show VR K cad ι F (.int i) v from h)
theorem vw_bl {i : Bool} (h : VwR K cad F ι H (.d (.bl i)) v) : v = .bl i := VR.bl_.mp (show VR K cad ι F (.bl i) v from h)
theorem vw_str {i : Str} (h : VwR K cad F ι H (.d (.str i)) v) : v = .str i := VR.str_.mp (show VR K cad ι F (.str i) v from h)
theorem vw_non (h : VwR K cad F ι H (.d .non) v) : v = .non := VR.non_.mp (show VR K cad ι F (.non) v from h)
theorem vw_tup {ds : List D} (h : VwR K cad F ι H (.d (.tup ds)) v) : ∃ a vs, v = .ref a ∧ F a = some (.tup vs) ∧ VRs K cad ι F ds vs := VR.tup_.mp (show VR K cad ι F (.tup ds) v from h)
theorem vw_scr {ns : List Int} (h : VwR K cad F ι H (.d (.scr ns)) v) : ∃ a, v = .ref a ∧ SqL K F a (ns.map V.int) := VR.scr_.mp (show VR K cad ι F (.scr ns) v from h)
theorem SqT.sub (rs : RS K cad F ι μ H) {a : Addr} {vs : List V} (e : F a = some (.tup vs)) : SqT K H a vs := SqT.of (rs.sub _ _ e)
end

/-! ### arithmetic -/
def fAdd : Vw → Vw → Option Rv
  | .d (.int i), .d (.int j) => some (.sh (.int (i + j)))
  | .d (.str a), .d (.str b) => if a.length + b.length ≤ 16777216 then some (.sh (.str (a ++ b))) else none
  | .ob (.lst xs), .ob (.lst ys) => if xs.length + ys.length ≤ 16777216 then some (.own (.lst (xs ++ ys))) else none
  | .d (.tup xs), .d (.tup ys) => if xs.length + ys.length ≤ 16777216 then some (.sh (.tup (xs ++ ys))) else none
  | _, _ => none
def rAddA (K : PySem.W.Frag) : R2 := fun x y H Q => (rI0 fun i j => .int (i + j)) x y H Q ∨ (∃ i j, x = .str i ∧ y = .str j ∧ i.length + j.length ≤ sizeLine ∧ Q (.str (i ++ j)) H) ∨ rCat x y H Q ∨ rCatA K x y H Q
theorem op_addA {X : Cx} : OpR X (binaryOp .Add) (rAddA X.K) := op_add.or (op_add_str.or (op_cat.or op_catA))
theorem line_eq {n : Nat} : n ≤ sizeLine ↔ n ≤ 16777216 := by rw [sizeLine_eq]
section
variable {K : PySem.W.Frag} {cad : Str → Addr}
theorem sd_add : Sd2 K cad (rAddA K) fAdd := by
  intro F ι μ H wx wy vx vy rv Q rs hx hy e q
  unfold fAdd at e
  split at e
  · cases e
    obtain rfl := vw_int hx
    obtain rfl := vw_int hy
    exact .inl ⟨_, _, rfl, rfl, fin_int rs q⟩
  · split at e
    · next h =>
      cases e
      obtain rfl := vw_str hx
      obtain rfl := vw_str hy
      exact .inr (.inl ⟨_, _, rfl, rfl, line_eq.mpr h, fin_str rs q⟩)
    · cases e
  · split at e
    · next h =>
      cases e
      obtain ⟨a, rfl, vs, e1, r1⟩ := hx
      obtain ⟨b, rfl, us, e2, r2⟩ := hy
      refine .inr (.inr (.inl ⟨a, b, vs, us, rfl, rfl, e1, e2, ?_, fun p hp => fin_own rs q hp ⟨_, rfl, r1.app r2⟩⟩))
      rw [← r1.len, ← r2.len]
      exact line_eq.mpr h
    · cases e
  · split at e
    · next xs ys h =>
      cases e
      obtain ⟨a, vs, rfl, e1, r1⟩ := vw_tup hx
      obtain ⟨b, us, rfl, e2, r2⟩ := vw_tup hy
      refine .inr (.inr (.inr ⟨a, b, vs, us, rfl, rfl, SqT.sub rs e1, SqT.sub rs e2, ?_, ?_⟩))
      · rw [← r1.len, ← r2.len]
        exact line_eq.mpr h
      · refine ⟨fun z => ?_, fun z1 z2 => ?_, fun z1 z2 p hp => fin_tup rs q hp (r1.app r2)⟩
        · subst z
          refine fin_sh rs q (VR.tup_.mpr ⟨b, us, rfl, e2, ?_⟩)
          have : xs = [] := List.eq_nil_of_length_eq_zero r1.len
          subst this
          exact r2
        · subst z2
          refine fin_sh rs q (VR.tup_.mpr ⟨a, vs, rfl, e1, ?_⟩)
          have : ys = [] := List.eq_nil_of_length_eq_zero r2.len
          subst this
          rw [List.append_nil]
          exact r1
    · cases e
  · cases e
/-- two ints, with a condition -/
def fI (c : Int → Int → Bool) (g : Int → Int → D) : Vw → Vw → Option Rv
  | .d (.int i), .d (.int j) => if c i j = true then some (.sh (g i j)) else none
  | _, _ => none
theorem sd_I {C : Int → Int → Prop} {c : Int → Int → Bool} {gv : Int → Int → V} {g : Int → Int → D} (hc : ∀ i j, c i j = true → C i j) (hg : ∀ ι F i j, VR K cad ι F (g i j) (gv i j)) : Sd2 K cad (rI C gv) (fI c g) := by
  intro F ι μ H wx wy vx vy rv Q rs hx hy e q
  unfold fI at e
  split at e
  · split at e
    · next h =>
      cases e
      obtain rfl := vw_int hx
      obtain rfl := vw_int hy
      exact ⟨_, _, rfl, rfl, hc _ _ h, fin_sh rs q (hg _ _ _ _)⟩
    · cases e
  · cases e
def fSub : Vw → Vw → Option Rv := fI (fun _ _ => true) fun i j => .int (i - j)
theorem op_subA {X : Cx} : OpR X (binaryOp .Sub) (rI (fun _ _ => True) fun i j => .int (i - j)) := fun pins s σ H x y v u Q I r1 r2 ⟨i, j, e1, e2, _, q⟩ => op_sub pins s σ H x y v u Q I r1 r2 ⟨i, j, e1, e2, q⟩
theorem sd_sub : Sd2 K cad (rI (fun _ _ => True) fun i j => .int (i - j)) fSub := sd_I (fun _ _ _ => trivial) fun _ _ _ _ => VR.int_.mpr rfl
def cDiv (_ j : Int) : Bool := decide (0 < j ∧ j < 18446744073709551616)
def fDiv : Vw → Vw → Option Rv := fI cDiv fun i j => .int (i / j)
theorem cDiv_ok {i j : Int} (h : cDiv i j = true) : CDivW i j := by
  obtain ⟨h0, h1⟩ := of_decide_eq_true h
  exact wide_div (b := 64) h0 (by show j.natAbs < 18446744073709551616; omega) (by decide) (by decide)
theorem sd_div : Sd2 K cad (rI CDivW fun i j => .int (i / j)) fDiv := sd_I (fun i j h => cDiv_ok h) fun _ _ _ _ => VR.int_.mpr rfl
def fMod : Vw → Vw → Option Rv := fI (fun _ j => decide (0 < j)) fun i j => .int (i % j)
theorem sd_mod : Sd2 K cad (rI (fun _ j => 0 < j) fun i j => .int (i % j)) fMod := sd_I (fun i j h => of_decide_eq_true h) fun _ _ _ _ => VR.int_.mpr rfl
def cPow (i j : Int) : Bool := decide (0 ≤ j ∧ j ≤ 1000000 ∧ i.natAbs < 18446744073709551616)
def fPow : Vw → Vw → Option Rv := fI cPow fun i j => .int (i ^ j.toNat)
theorem sd_pow : Sd2 K cad (rI CPow fun i j => .int (i ^ j.toNat)) fPow := sd_I (fun i j h => of_decide_eq_true h) fun _ _ _ _ => VR.int_.mpr rfl
/-- ints; a list times an int -/
def fMul : Vw → Vw → Option Rv
  | .d (.int i), .d (.int j) => if (-18446744073709551616 < i ∧ i < 18446744073709551616) ∨ (-18446744073709551616 < j ∧ j < 18446744073709551616) then some (.sh (.int (i * j))) else none
  | .ob (.lst xs), .d (.int k) => if -9223372036854775808 ≤ k ∧ k < 9223372036854775808 ∧ xs.length * k.toNat ≤ 16777216 then some (.own (.lst (List.replicate k.toNat xs).flatten)) else none
  | _, _ => none
def rMulA : R2 := fun x y H Q => rI CMul (fun i j => .int (i * j)) x y H Q ∨ rRep x y H Q
theorem op_mulA {X : Cx} : OpR X (binaryOp .Mult) rMulA := op_mul.or op_rep
theorem VRs.rep {F : Hp} {ι : List Addr} {ds : List D} {vs : List V} (h : VRs K cad ι F ds vs) : ∀ k : Nat, VRs K cad ι F (List.replicate k ds).flatten (List.replicate k vs).flatten
  | 0 => rfl
  | k + 1 => by
    rw [List.replicate_succ, List.replicate_succ, List.flatten_cons, List.flatten_cons]
    exact h.app (VRs.rep h k)
theorem sd_mul : Sd2 K cad rMulA fMul := by
  intro F ι μ H wx wy vx vy rv Q rs hx hy e q
  unfold fMul at e
  split at e
  · split at e
    · next h =>
      cases e
      obtain rfl := vw_int hx
      obtain rfl := vw_int hy
      exact .inl ⟨_, _, rfl, rfl, h, fin_int rs q⟩
    · cases e
  · split at e
    · next h =>
      cases e
      obtain ⟨a, rfl, vs, e1, r1⟩ := hx
      obtain rfl := vw_int hy
      refine .inr ⟨a, _, vs, rfl, rfl, e1, h.1, h.2.1, ?_, fun p hp => fin_own rs q hp ⟨_, rfl, r1.rep _⟩⟩
      rw [← r1.len]
      exact line_eq.mpr h.2.2
    · cases e
  · cases e
def fNeg : Vw → Option Rv
  | .d (.int i) => some (.sh (.int (-i)))
  | _ => none
theorem sd_neg : Sd1 K cad (rU fun i => .int (-i)) fNeg := by
  intro F ι μ H wx vx rv Q rs hx e q
  unfold fNeg at e
  split at e
  · cases e
    obtain rfl := vw_int hx
    exact ⟨_, rfl, fin_int rs q⟩
  · cases e
end

/-! ### order: ints, tuples of ints -/
def D.ints : List D → Option (List Int)
  | [] => some []
  | .int i :: r => (D.ints r).map (i :: ·)
  | _ :: _ => none
/-- from the first pair that differs on; z: what the lengths give -/
def lexZ (p : Int → Int → Bool) (z : Bool) : List Int → List Int → Bool
  | x :: xs, y :: ys => if x = y then lexZ p z xs ys else p x y
  | _, _ => z
theorem lexAt_shift {x y : Int} {p : Int → Int → Bool} {z : Bool} {xs ys : List Int} : ∀ (k i : Nat), Ob.lexAt (fun j => decide ((x :: xs).getD j 0 = (y :: ys).getD j 0)) (fun j => p ((x :: xs).getD j 0) ((y :: ys).getD j 0)) z (i + 1) k = Ob.lexAt (fun j => decide (xs.getD j 0 = ys.getD j 0)) (fun j => p (xs.getD j 0) (ys.getD j 0)) z i k
  | 0, _ => rfl
  | k + 1, i => by
    rw [Ob.lexAt_succ, Ob.lexAt_succ, lexAt_shift k (i + 1)]
    rfl
theorem lexAt_eq (p : Int → Int → Bool) (z : Bool) : ∀ xs ys : List Int, Ob.lexAt (fun j => decide (xs.getD j 0 = ys.getD j 0)) (fun j => p (xs.getD j 0) (ys.getD j 0)) z 0 (min xs.length ys.length) = lexZ p z xs ys
  | [], ys => by
    rw [show min ([] : List Int).length ys.length = 0 by simp]
    cases ys <;> rfl
  | _ :: _, [] => rfl
  | x :: xs, y :: ys => by
    rw [show min (x :: xs).length (y :: ys).length = min xs.length ys.length + 1 by simp only [List.length_cons]; omega, Ob.lexAt_succ, lexAt_shift, lexAt_eq p z xs ys]
    show (if decide (x = y) = true then lexZ p z xs ys else p x y) = lexZ p z (x :: xs) (y :: ys)
    rw [lexZ]
    by_cases h : x = y
    · rw [if_pos (decide_eq_true h), if_pos h]
    · rw [if_neg (by rw [decide_eq_false h]; exact Bool.false_ne_true), if_neg h]
/-- x op y: ints by p, tuples of ints by q -/
def fOrd (p : Int → Int → Bool) (q : List Int → List Int → Bool) : Vw → Vw → Option Rv
  | .d (.int i), .d (.int j) => some (.sh (.bl (p i j)))
  | .d (.tup xs), .d (.tup ys) => (D.ints xs).bind fun ns => (D.ints ys).map fun ms => .sh (.bl (q ns ms))
  | _, _ => none
def rOrdT (K : PySem.W.Frag) (q : List Int → List Int → Bool) : R2 := fun x y H Q => ∃ a b ns ms, x = .ref a ∧ y = .ref b ∧ SqT K H a (ns.map V.int) ∧ SqT K H b (ms.map V.int) ∧ Q (.bl (q ns ms)) H
def rOrd (K : PySem.W.Frag) (p : Int → Int → Bool) (q : List Int → List Int → Bool) : R2 := fun x y H Q => rI0 (fun i j => .bl (p i j)) x y H Q ∨ rOrdT K q x y H Q
section
variable {K : PySem.W.Frag} {cad : Str → Addr}
theorem ints_vals {F : Hp} {ι : List Addr} : ∀ {ds : List D} {vs : List V} {ns : List Int}, VRs K cad ι F ds vs → D.ints ds = some ns → vs = ns.map V.int
  | [], _, _, h, e => by
    cases e
    exact h
  | d :: ds, _, ns, h, e => by
    obtain ⟨v, vs, rfl, r, t⟩ := h
    cases d with
    | int i =>
      cases c : D.ints ds with
      | none => simp [D.ints, c] at e
      | some ms =>
        simp [D.ints, c] at e
        subst e
        rw [VR.int_.mp r, ints_vals t c]
        rfl
    | _ => simp [D.ints] at e
theorem sd_ord {p : Int → Int → Bool} {q : List Int → List Int → Bool} : Sd2 K cad (rOrd K p q) (fOrd p q) := by
  intro F ι μ H wx wy vx vy rv Q rs hx hy e k
  unfold fOrd at e
  split at e
  · cases e
    obtain rfl := vw_int hx
    obtain rfl := vw_int hy
    exact .inl ⟨_, _, rfl, rfl, fin_bl rs k⟩
  · next xs ys =>
    cases cx : D.ints xs with
    | none => simp [cx] at e
    | some ns =>
      cases cy : D.ints ys with
      | none => simp [cx, cy] at e
      | some ms =>
        simp [cx, cy] at e
        subst e
        obtain ⟨a, vs, rfl, e1, r1⟩ := vw_tup hx
        obtain ⟨b, us, rfl, e2, r2⟩ := vw_tup hy
        rw [ints_vals r1 cx] at e1
        rw [ints_vals r2 cy] at e2
        exact .inr ⟨a, b, ns, ms, rfl, rfl, SqT.sub rs e1, SqT.sub rs e2, fin_bl rs k⟩
  · cases e
end
/-- the four of them -/
def qLt (ns ms : List Int) : Bool := lexZ (fun a b => decide (a < b)) (decide (ns.length < ms.length)) ns ms
def qLe (ns ms : List Int) : Bool := lexZ (fun a b => decide (a ≤ b)) (decide (ns.length ≤ ms.length)) ns ms
def qGt (ns ms : List Int) : Bool := lexZ (fun a b => decide (b < a)) (decide (ns.length > ms.length)) ns ms
def qGe (ns ms : List Int) : Bool := lexZ (fun a b => decide (b ≤ a)) (decide (ns.length ≥ ms.length)) ns ms
theorem op_ordT {X : Cx} {op : CmpOp} {p : Int → Int → Bool} {zf : Nat → Nat → Bool} (hu : X.A.units + 100 < cLine) (hop : ∀ a b, compareOp op a b = richCompare op a b)
    (h : ∀ {s : Shared} {l b : Addr} {items items2 : Array Value} {e r : Nat → Bool}, s.heap.IsTuple l items → s.heap.IsTuple b items2 → X.A.units < cLine → (∀ j (h1 : j < items.size) (h2 : j < items2.size), SeqAt.EqAt X.A.in1 s items[j] items2[j] (e j)) →
      (∀ j (h1 : j < items.size) (h2 : j < items2.size), e j = false → Ob.RcOp op X.A.in1 s items[j] items2[j] (r j)) → Ob.RcOp op X.A s (.ref l) (.ref b) (Ob.lexAt e r (zf items.size items2.size) 0 (min items.size items2.size)))
    (hi : ∀ {A : Around} {s : Shared} (a b : Int) (t u : Tok), Ob.RcOp op A s (.int a t) (.int b u) (p a b)) : OpR X (compareOp op) (rOrdT X.K fun ns ms => lexZ p (zf ns.length ms.length) ns ms) := by
  intro pins s σ H x y v u Q I rx ry hh
  obtain ⟨a, b, ns, ms, rfl, rfl, ha, hb, q⟩ := hh
  cases rx
  cases ry
  obtain ⟨its, r1, p1, _⟩ := I.tuple ha
  obtain ⟨its2, r2, p2, _⟩ := I.tuple hb
  have i1 : IntsAre its ns := Vals.ints r1
  have i2 : IntsAre its2 ms := Vals.ints r2
  have e1 : its.toArray.size = ns.length := by rw [List.size_toArray]; exact i1.length
  have e2 : its2.toArray.size = ms.length := by rw [List.size_toArray]; exact i2.length
  have at1 : ∀ j (h1 : j < its.toArray.size), ∃ t, its.toArray[j] = .int (ns.getD j 0) t := fun j h1 => PyProof.Rows.IntsAre.int_at i1 _ _ (by simp at h1; simp [h1])
  have at2 : ∀ j (h1 : j < its2.toArray.size), ∃ t, its2.toArray[j] = .int (ms.getD j 0) t := fun j h1 => PyProof.Rows.IntsAre.int_at i2 _ _ (by simp at h1; simp [h1])
  have R := h (s := s) (e := fun j => decide (ns.getD j 0 = ms.getD j 0)) (r := fun j => p (ns.getD j 0) (ms.getD j 0)) p1 p2 (by omega) (fun j h1 h2 => by
    obtain ⟨t, et⟩ := at1 j h1
    obtain ⟨t', et'⟩ := at2 j h2
    rw [et, et']
    have z : (ns.getD j 0 == ms.getD j 0) = decide (ns.getD j 0 = ms.getD j 0) := by
      by_cases q : ns.getD j 0 = ms.getD j 0
      · rw [decide_eq_true q]; exact beq_iff_eq.mpr q
      · rw [decide_eq_false q]; exact beq_eq_false_iff_ne.mpr q
    rw [← z]
    exact SeqAt.EqAt.int_int _ _ _ _) (fun j h1 h2 _ => by
    obtain ⟨t, et⟩ := at1 j h1
    obtain ⟨t', et'⟩ := at2 j h2
    rw [et, et']
    exact hi _ _ _ _)
  rw [e1, e2, lexAt_eq] at R
  rw [hop]
  exact R X.prog X.w X.xe (EP X pins σ Q) ⟨.bl _, H, I, rfl, q⟩
def fLt := fOrd (fun i j => decide (i < j)) qLt
def fLe := fOrd (fun i j => decide (i ≤ j)) qLe
def fGt := fOrd (fun i j => decide (j < i)) qGt
def fGe := fOrd (fun i j => decide (j ≤ i)) qGe
section
variable {X : Cx}
theorem op_ltA (hu : X.A.units + 100 < cLine) : OpR X (compareOp .Lt) (rOrd X.K (fun i j => decide (i < j)) qLt) := op_lt.or (op_ordT (zf := fun n m => decide (n < m)) hu (fun _ _ => rfl) (fun h1 h2 h3 h4 h5 => Ob.RcOp.tuples_lt h1 h2 h3 h4 h5) Ob.RcOp.lt_int)
theorem op_leA (hu : X.A.units + 100 < cLine) : OpR X (compareOp .LtE) (rOrd X.K (fun i j => decide (i ≤ j)) qLe) := op_le.or (op_ordT (zf := fun n m => decide (n ≤ m)) hu (fun _ _ => rfl) (fun h1 h2 h3 h4 h5 => Ob.RcOp.tuples_le h1 h2 h3 h4 h5) Ob.RcOp.le_int)
theorem op_gtA (hu : X.A.units + 100 < cLine) : OpR X (compareOp .Gt) (rOrd X.K (fun i j => decide (j < i)) qGt) := op_gt.or (op_ordT (zf := fun n m => decide (n > m)) hu (fun _ _ => rfl) (fun h1 h2 h3 h4 h5 => Ob.RcOp.tuples_gt h1 h2 h3 h4 h5) Ob.RcOp.gt_int)
theorem op_geA (hu : X.A.units + 100 < cLine) : OpR X (compareOp .GtE) (rOrd X.K (fun i j => decide (j ≤ i)) qGe) := op_ge.or (op_ordT (zf := fun n m => decide (n ≥ m)) hu (fun _ _ => rfl) (fun h1 h2 h3 h4 h5 => Ob.RcOp.tuples_ge h1 h2 h3 h4 h5) Ob.RcOp.ge_int)
end
end DL

namespace DL
open PySem PySem.Spec PyProof.Rows L2

/-! ### == and != of data -/
mutual
def D.py : D → Option PyData
  | .non => some .none
  | .bl b => some (.bool b)
  | .int i => some (.int i)
  | .str s => some (.str s)
  | .tup ds => (D.pys ds).map .tuple
  | .lst ds => (D.pys ds).map .list
  | _ => none
def D.pys : List D → Option (List PyData)
  | [] => some []
  | d :: ds => (D.py d).bind fun p => (D.pys ds).map (p :: ·)
end
def Vw.py : Vw → Option PyData
  | .d x => x.py
  | .ob (.lst ds) => (D.pys ds).map .list
  | _ => none
def fEq2 (g : Bool → Bool) : Vw → Vw → Option Rv := fun x y => x.py.bind fun p => y.py.bind fun q => if SeqAt.shaped p = true ∧ SeqAt.shaped q = true then some (.sh (.bl (g (PyData.eqv p q)))) else none
def fEq : Vw → Vw → Option Rv := fEq2 id
def fNe : Vw → Vw → Option Rv := fEq2 not
section
variable {K : PySem.W.Frag} {cad : Str → Addr} {F H : Hp} {ι : List Addr} {μ : Store}
mutual
theorem VR.dp (hs : Same F H) : ∀ (d : D) (v : V) (p : PyData), VR K cad ι F d v → d.py = some p → Dp K H v p
  | .non, v, p, h, e => by cases e; rw [VR.non_.mp h]; exact .non
  | .bl b, v, p, h, e => by cases e; rw [VR.bl_.mp h]; exact .bl b
  | .int b, v, p, h, e => by cases e; rw [VR.int_.mp h]; exact .int b
  | .str b, v, p, h, e => by cases e; rw [VR.str_.mp h]; exact .str b
  | .tup ds, v, p, h, e => by
    obtain ⟨a, vs, rfl, e1, r⟩ := VR.tup_.mp h
    unfold D.py at e
    cases c : D.pys ds with
    | none => rw [c] at e; cases e
    | some ps =>
      rw [c] at e
      cases e
      exact .tup (SqT.of (hs _ _ e1)) (VRs.dp hs ds vs ps r c)
  | .lst ds, v, p, h, e => by
    obtain ⟨a, vs, rfl, e1, r⟩ := VR.lst_.mp h
    unfold D.py at e
    cases c : D.pys ds with
    | none => rw [c] at e; cases e
    | some ps =>
      rw [c] at e
      cases e
      exact .lst (SqL.of (hs _ _ e1)) (VRs.dp hs ds vs ps r c)
  | .dK _ _, _, _, _, e => by cases e
  | .dT _ _, _, _, _, e => by cases e
  | .ins _ _ _, _, _, _, e => by cases e
  | .loc _, _, _, _, e => by cases e
  | .scr _, _, _, _, e => by cases e
theorem VRs.dp (hs : Same F H) : ∀ (ds : List D) (vs : List V) (ps : List PyData), VRs K cad ι F ds vs → D.pys ds = some ps → DpAll K H vs ps
  | [], vs, ps, h, e => by cases e; rw [VRs.of_nil h]; exact .nil
  | d :: ds, vs, ps, h, e => by
    obtain ⟨v, vs, rfl, r, t⟩ := h
    unfold D.pys at e
    cases c : D.py d with
    | none => rw [c] at e; cases e
    | some p =>
      cases c2 : D.pys ds with
      | none => simp [c, c2] at e
      | some ps' =>
        simp [c, c2] at e
        subst e
        exact .cons (VR.dp hs d v p r c) (VRs.dp hs ds vs ps' t c2)
end
theorem VwR.dp (rs : RS K cad F ι μ H) {w : Vw} {v : V} {p : PyData} (h : VwR K cad F ι H w v) (e : w.py = some p) : Dp K H v p := by
  cases w with
  | d d => exact VR.dp rs.sub d v p h e
  | ob o =>
    cases o with
    | lst ds =>
      obtain ⟨a, rfl, vs, e1, r⟩ := h
      cases c : D.pys ds with
      | none => simp [Vw.py, c] at e
      | some ps =>
        simp [Vw.py, c] at e
        subst e
        exact .lst (SqL.of e1) (VRs.dp rs.sub ds vs ps r c)
    | _ => cases e
theorem eq2_inv {g : Bool → Bool} {x y : Vw} {rv : Rv} (e : fEq2 g x y = some rv) : ∃ p q, x.py = some p ∧ y.py = some q ∧ SeqAt.shaped p = true ∧ SeqAt.shaped q = true ∧ rv = .sh (.bl (g (PyData.eqv p q))) := by
  unfold fEq2 at e
  cases c : x.py with
  | none => simp [c] at e
  | some p =>
    cases c2 : y.py with
    | none => simp [c, c2] at e
    | some q =>
      simp only [c, c2, Option.bind_some] at e
      split at e
      · next h => cases e; exact ⟨p, q, rfl, rfl, h.1, h.2, rfl⟩
      · cases e
theorem sd_eq : Sd2 K cad (rEqD K) fEq := by
  intro F ι μ H wx wy vx vy rv Q rs hx hy e k
  obtain ⟨p, q, e1, e2, s1, s2, rfl⟩ := eq2_inv e
  exact ⟨p, q, hx.dp rs e1, hy.dp rs e2, s1, s2, fin_bl rs k⟩
theorem sd_ne : Sd2 K cad (rNeD K) fNe := by
  intro F ι μ H wx wy vx vy rv Q rs hx hy e k
  obtain ⟨p, q, e1, e2, s1, s2, rfl⟩ := eq2_inv e
  exact ⟨p, q, hx.dp rs e1, hy.dp rs e2, s1, s2, fin_bl rs k⟩
end
theorem op_eqA {X : Cx} (hu : X.A.units + 100 < cLine) : OpR X (compareOp .Eq) (rEqD X.K) := op_eqD (by omega)
theorem op_neA {X : Cx} (hu : X.A.units + 100 < cLine) : OpR X (compareOp .NotEq) (rNeD X.K) := op_neD (by omega)

/-! ### is None -/
def Vw.isNon : Vw → Bool
  | .d .non => true
  | _ => false
def fIs (g : Bool → Bool) : Vw → Vw → Option Rv
  | x, .d .non => some (.sh (.bl (g x.isNon)))
  | _, _ => none
section
variable {K : PySem.W.Frag} {cad : Str → Addr}
theorem vw_isNon {F H : Hp} {ι : List Addr} {w : Vw} {v : V} (h : VwR K cad F ι H w v) : decide (v = .non) = w.isNon := by
  cases w with
  | ob o => obtain ⟨a, rfl, _⟩ := h; rfl
  | d d =>
    have h : VR K cad ι F d v := h
    cases d with
    | non => rw [VR.non_.mp h]; rfl
    | bl b => rw [VR.bl_.mp h]; rfl
    | int b => rw [VR.int_.mp h]; rfl
    | str b => rw [VR.str_.mp h]; rfl
    | tup ds => obtain ⟨a, vs, rfl, _⟩ := VR.tup_.mp h; rfl
    | lst ds => obtain ⟨a, vs, rfl, _⟩ := VR.lst_.mp h; rfl
    | scr ds => obtain ⟨a, rfl, _⟩ := VR.scr_.mp h; rfl
    | loc ds => obtain ⟨a, rfl, _⟩ := VR.loc_.mp h; rfl
    | dK _ _ => unfold VR at h; obtain ⟨a, o, vs, rfl, _⟩ := h; rfl
    | dT _ _ => unfold VR at h; obtain ⟨a, o, vs, rfl, _⟩ := h; rfl
    | ins _ _ _ => unfold VR at h; obtain ⟨a, o, vs, rfl, _⟩ := h; rfl
theorem is_inv {g : Bool → Bool} {x y : Vw} {rv : Rv} (e : fIs g x y = some rv) : y = .d .non ∧ rv = .sh (.bl (g x.isNon)) := by
  unfold fIs at e
  split at e
  · cases e; exact ⟨rfl, rfl⟩
  · cases e
theorem sd_is : Sd2 K cad (fun x y H Q => y = .non ∧ Q (.bl (decide (x = .non))) H) (fIs id) := by
  intro F ι μ H wx wy vx vy rv Q rs hx hy e k
  obtain ⟨rfl, rfl⟩ := is_inv e
  refine ⟨vw_non hy, ?_⟩
  rw [vw_isNon hx]
  exact fin_bl rs k
theorem sd_isnot : Sd2 K cad (fun x y H Q => y = .non ∧ Q (.bl (!decide (x = .non))) H) (fIs not) := by
  intro F ι μ H wx wy vx vy rv Q rs hx hy e k
  obtain ⟨rfl, rfl⟩ := is_inv e
  refine ⟨vw_non hy, ?_⟩
  rw [vw_isNon hx]
  exact fin_bl rs k
end

/-! ### in: lists and tuples of data, dicts -/
def D.key : D → Option Key
  | .int i => some (.inl i)
  | .str s => some (.inr s)
  | _ => none
def D.keys : List D → Option (List Key)
  | [] => some []
  | d :: ds => d.key.bind fun k => (D.keys ds).map (k :: ·)
def getK {κ : Type} [DecidableEq κ] (kvs : List (κ × D)) (k : κ) : Option D := (kvs.find? fun kv => decide (kv.1 = k)).map (·.2)
/-- what a dict holds at a key: none: not such a dict or key -/
def fGet : Vw → Vw → Option (Option D)
  | .ob (.dK kvs), .d d => d.key.map fun k => getK kvs k
  | .ob (.dT kvs), .d (.tup ds) => (D.keys ds).map fun k => getK kvs k
  | _, _ => none
def flatD : D → Bool
  | .non => true
  | .bl _ => true
  | .int _ => true
  | .str _ => true
  | _ => false
def eqF : D → D → Bool
  | .non, .non => true
  | .bl a, .bl b => a == b
  | .bl a, .int b => (if a then 1 else 0) == b
  | .int a, .bl b => a == (if b then 1 else 0)
  | .int a, .int b => a == b
  | .str a, .str b => a == b
  | _, _ => false
def fIn (g : Bool → Bool) : Vw → Vw → Option Rv
  | x, .ob (.lst ds) => x.py.bind fun p => (D.pys ds).bind fun ps => if SeqAt.shaped p = true ∧ SeqAt.shaped (.list ps) = true then some (.sh (.bl (g (ps.any fun z => PyData.eqv z p)))) else none
  | .d x, .d (.tup ds) => if flatD x = true ∧ ds.all flatD = true then some (.sh (.bl (g (ds.any fun y => eqF y x)))) else none
  | .d (.str x), .d (.str z) => match x.cps.toList with
    | [c] => some (.sh (.bl (g (decide (c ∈ z.cps.toList)))))
    | _ => none
  | x, y => (fGet y x).map fun o => .sh (.bl (g o.isSome))
def rDIn (g : Bool → Bool) : R2 := fun y x H Q => ∃ a o, x = .ref a ∧ DGet H a y o ∧ Q (.bl (g o.isSome)) H
def rInA (K : PySem.W.Frag) : R2 := fun x y H Q => rInD K x y H Q ∨ rIn K false x y H Q ∨ (∃ (c : Nat) (z : Str), x = .str ⟨#[c]⟩ ∧ y = .str z ∧ Q (.bl (decide (c ∈ z.cps.toList))) H) ∨ rDIn id x y H Q
def rNotInA (K : PySem.W.Frag) : R2 := fun x y H Q => rNotInD K x y H Q ∨ rIn K true x y H Q ∨ (∃ (c : Nat) (z : Str), x = .str ⟨#[c]⟩ ∧ y = .str z ∧ Q (.bl (!decide (c ∈ z.cps.toList))) H) ∨ rDIn not x y H Q
section
variable {X : Cx}
theorem op_din (hu : X.A.units + 100 < cLine) : OpR X (compareOp .In) (rDIn id) := by
  intro pins s σ H y x u v Q I ry rx h
  obtain ⟨a, o, rfl, g, q⟩ := h
  cases rx
  exact d_in (by omega) I g ry fun s' I' => ⟨.bl o.isSome, H, I', rfl, q⟩
theorem op_dnotin (hu : X.A.units + 100 < cLine) : OpR X (compareOp .NotIn) (rDIn not) := by
  intro pins s σ H y x u v Q I ry rx h
  obtain ⟨a, o, rfl, g, q⟩ := h
  cases rx
  exact d_notIn (by omega) I g ry fun s' I' => ⟨.bl (!o.isSome), H, I', rfl, q⟩
theorem op_inA (hu : X.A.units + 100 < cLine) : OpR X (compareOp .In) (rInA X.K) := (op_inD (by omega)).or (op_in_seq.or (op_in_sign.or (op_din hu)))
theorem op_notInA (hu : X.A.units + 100 < cLine) : OpR X (compareOp .NotIn) (rNotInA X.K) := (op_notInD (by omega)).or (op_notIn_seq.or (op_notIn_sign.or (op_dnotin hu)))
end
section
variable {K : PySem.W.Frag} {cad : Str → Addr} {F H : Hp} {ι : List Addr} {μ : Store}
theorem key_VR {d : D} {v : V} {k : Key} (h : VR K cad ι F d v) (e : d.key = some k) : v = kV k := by
  cases d with
  | int i => cases e; exact VR.int_.mp h
  | str i => cases e; exact VR.str_.mp h
  | _ => cases e
theorem keys_VRs : ∀ {ds : List D} {vs : List V} {k : List Key}, VRs K cad ι F ds vs → D.keys ds = some k → vs = k.map kV
  | [], _, _, h, e => by cases e; exact VRs.of_nil h
  | d :: ds, _, k, h, e => by
    obtain ⟨v, vs, rfl, r, t⟩ := h
    cases c : d.key with
    | none => simp [D.keys, c] at e
    | some k1 =>
      cases c2 : D.keys ds with
      | none => simp [D.keys, c, c2] at e
      | some k2 =>
        simp [D.keys, c, c2] at e
        subst e
        rw [key_VR r c, keys_VRs t c2]
        rfl
/-- a dict's value by its key, on both sides -/
theorem get_val {κ : Type} [DecidableEq κ] (k : κ) : ∀ {kvs : List (κ × D)} {vs : List V}, VRs K cad ι F (kvs.map (·.2)) vs → match getK kvs k, valV ((kvs.map (·.1)).zip vs) k with
    | some d, some v => VR K cad ι F d v
    | none, none => True
    | _, _ => False
  | [], _, h => by cases h; trivial
  | (k', d) :: kvs, _, h => by
    obtain ⟨v, vs, rfl, r, t⟩ := h
    have ih := get_val k t
    by_cases c : k' = k
    · have e1 : getK ((k', d) :: kvs) k = some d := by simp [getK, List.find?_cons, c]
      have e2 : valV (((((k', d) :: kvs).map (·.1)).zip (v :: vs))) k = some v := by
        rw [List.map_cons, List.zip_cons_cons]
        exact valV_pos c
      rw [e1, e2]
      exact r
    · have e1 : getK ((k', d) :: kvs) k = getK kvs k := by simp [getK, List.find?_cons, c]
      have e2 : valV (((((k', d) :: kvs).map (·.1)).zip (v :: vs))) k = valV ((kvs.map (·.1)).zip vs) k := by
        rw [List.map_cons, List.zip_cons_cons]
        exact valV_neg c
      rw [e1, e2]
      exact ih
/-- what a dict gives, by values -/
def OptR (K : PySem.W.Frag) (cad : Str → Addr) (ι : List Addr) (F : Hp) : Option D → Option V → Prop
  | some d, some v => VR K cad ι F d v
  | none, none => True
  | _, _ => False
theorem OptR.isSome {o : Option D} {u : Option V} (h : OptR K cad ι F o u) : u.isSome = o.isSome := by
  cases o <;> cases u <;> first | rfl | exact h.elim
theorem fGet_ok (rs : RS K cad F ι μ H) {x y : Vw} {vx vy : V} {o : Option D} (hx : VwR K cad F ι H x vx) (hy : VwR K cad F ι H y vy) (e : fGet x y = some o) : ∃ a u, vx = .ref a ∧ DGet H a vy u ∧ OptR K cad ι F o u := by
  unfold fGet at e
  split at e
  · next kvs d =>
    obtain ⟨a, rfl, vs, e1, r⟩ := hx
    cases c : d.key with
    | none => simp [c] at e
    | some k =>
      simp [c] at e
      subst e
      refine ⟨a, _, rfl, .inl ⟨_, k, e1, key_VR hy c, rfl⟩, ?_⟩
      have := get_val (K := K) (cad := cad) (ι := ι) (F := F) k r
      unfold OptR
      split <;> simp_all
  · next kvs ds =>
    obtain ⟨a, rfl, vs, e1, r⟩ := hx
    obtain ⟨b, us, rfl, e2, r2⟩ := vw_tup hy
    cases c : D.keys ds with
    | none => simp [c] at e
    | some k =>
      simp [c] at e
      subst e
      rw [keys_VRs r2 c] at e2
      refine ⟨a, _, rfl, .inr ⟨_, k, b, e1, rfl, rs.sub _ _ e2, rfl⟩, ?_⟩
      have := get_val (K := K) (cad := cad) (ι := ι) (F := F) k r
      unfold OptR
      split <;> simp_all
  · cases e
theorem flat_VR {d : D} {v : V} (h : VR K cad ι F d v) (f : flatD d = true) : flatV v = true := by
  cases d with
  | non => rw [VR.non_.mp h]; rfl
  | bl b => rw [VR.bl_.mp h]; rfl
  | int b => rw [VR.int_.mp h]; rfl
  | str b => rw [VR.str_.mp h]; rfl
  | _ => cases f
theorem eqF_VR {d e : D} {v u : V} (h : VR K cad ι F d v) (h' : VR K cad ι F e u) (f : flatD d = true) (f' : flatD e = true) : eqV v u = eqF d e := by
  cases d with
  | non => rw [VR.non_.mp h]; cases e with
    | non => rw [VR.non_.mp h']; rfl
    | bl b => rw [VR.bl_.mp h']; rfl
    | int b => rw [VR.int_.mp h']; rfl
    | str b => rw [VR.str_.mp h']; rfl
    | _ => cases f'
  | bl b => rw [VR.bl_.mp h]; cases e with
    | non => rw [VR.non_.mp h']; rfl
    | bl b => rw [VR.bl_.mp h']; rfl
    | int b => rw [VR.int_.mp h']; rfl
    | str b => rw [VR.str_.mp h']; rfl
    | _ => cases f'
  | int b => rw [VR.int_.mp h]; cases e with
    | non => rw [VR.non_.mp h']; rfl
    | bl b => rw [VR.bl_.mp h']; rfl
    | int b => rw [VR.int_.mp h']; rfl
    | str b => rw [VR.str_.mp h']; rfl
    | _ => cases f'
  | str b => rw [VR.str_.mp h]; cases e with
    | non => rw [VR.non_.mp h']; rfl
    | bl b => rw [VR.bl_.mp h']; rfl
    | int b => rw [VR.int_.mp h']; rfl
    | str b => rw [VR.str_.mp h']; rfl
    | _ => cases f'
  | _ => cases f
theorem flat_VRs : ∀ {ds : List D} {vs : List V}, VRs K cad ι F ds vs → ds.all flatD = true → vs.all flatV = true
  | [], _, h, _ => by cases h; rfl
  | d :: ds, _, h, f => by
    obtain ⟨v, vs, rfl, r, t⟩ := h
    rw [List.all_cons, Bool.and_eq_true] at f ⊢
    exact ⟨flat_VR r f.1, flat_VRs t f.2⟩
theorem any_VRs {x : D} {u : V} (hx : VR K cad ι F x u) (fx : flatD x = true) : ∀ {ds : List D} {vs : List V}, VRs K cad ι F ds vs → ds.all flatD = true → inV u vs = ds.any fun y => eqF y x
  | [], _, h, _ => by cases h; rfl
  | d :: ds, _, h, f => by
    obtain ⟨v, vs, rfl, r, t⟩ := h
    rw [List.all_cons, Bool.and_eq_true] at f
    have ih := any_VRs hx fx t f.2
    show ((v :: vs).any fun y => eqV y u) = _
    rw [List.any_cons, List.any_cons, eqF_VR r hx f.1 fx]
    exact congrArg _ ih
theorem in_inv {g : Bool → Bool} {x y : Vw} {rv : Rv} (e : fIn g x y = some rv) : (∃ ds p ps, y = .ob (.lst ds) ∧ x.py = some p ∧ D.pys ds = some ps ∧ SeqAt.shaped p = true ∧ SeqAt.shaped (.list ps) = true ∧ rv = .sh (.bl (g (ps.any fun z => PyData.eqv z p)))) ∨
    (∃ d ds, x = .d d ∧ y = .d (.tup ds) ∧ flatD d = true ∧ ds.all flatD = true ∧ rv = .sh (.bl (g (ds.any fun y => eqF y d)))) ∨ (∃ c z, x = .d (.str ⟨#[c]⟩) ∧ y = .d (.str z) ∧ rv = .sh (.bl (g (decide (c ∈ z.cps.toList))))) ∨
    ∃ o, fGet y x = some o ∧ rv = .sh (.bl (g o.isSome)) := by
  unfold fIn at e
  split at e
  · next ds =>
    cases c : x.py with
    | none => simp [c] at e
    | some p =>
      cases c2 : D.pys ds with
      | none => simp [c, c2] at e
      | some ps =>
        simp only [c, c2, Option.bind_some] at e
        split at e
        · next h => cases e; exact .inl ⟨ds, p, ps, rfl, rfl, c2, h.1, h.2, rfl⟩
        · cases e
  · next d ds =>
    split at e
    · next h => cases e; exact .inr (.inl ⟨d, ds, rfl, rfl, h.1, h.2, rfl⟩)
    · cases e
  · next s z =>
    split at e
    · next c hc =>
      cases e
      have : s = ⟨#[c]⟩ := by
        obtain ⟨⟨l⟩⟩ := s
        simp only at hc
        subst hc
        rfl
      subst this
      exact .inr (.inr (.inl ⟨c, z, rfl, rfl, rfl⟩))
    · cases e
  · cases c : fGet y x with
    | none => simp [c] at e
    | some o =>
      simp [c] at e
      exact .inr (.inr (.inr ⟨o, rfl, e.symm⟩))
theorem sd_in : Sd2 K cad (rInA K) (fIn id) := by
  intro F ι μ H wx wy vx vy rv Q rs hx hy e k
  rcases in_inv e with ⟨ds, p, ps, rfl, e1, e2, s1, s2, rfl⟩ | ⟨d, ds, rfl, rfl, f1, f2, rfl⟩ | ⟨c, z, rfl, rfl, rfl⟩ | ⟨o, e1, rfl⟩
  · exact .inl ⟨p, ps, hx.dp rs e1, hy.dp rs (by simp [Vw.py, e2]), s1, s2, fin_bl rs k⟩
  · obtain ⟨a, vs, rfl, e1, r⟩ := vw_tup hy
    refine .inr (.inl ⟨a, vs, rfl, .inr (SqT.sub rs e1), flat_VR hx f1, flat_VRs r f2, ?_⟩)
    rw [any_VRs hx f1 r f2]
    exact fin_bl rs k
  · exact .inr (.inr (.inl ⟨c, z, vw_str hx, vw_str hy, fin_bl rs k⟩))
  · obtain ⟨a, u, rfl, g, oo⟩ := fGet_ok rs hy hx e1
    refine .inr (.inr (.inr ⟨a, u, rfl, g, ?_⟩))
    rw [oo.isSome]
    exact fin_bl rs k
theorem sd_notIn : Sd2 K cad (rNotInA K) (fIn not) := by
  intro F ι μ H wx wy vx vy rv Q rs hx hy e k
  rcases in_inv e with ⟨ds, p, ps, rfl, e1, e2, s1, s2, rfl⟩ | ⟨d, ds, rfl, rfl, f1, f2, rfl⟩ | ⟨c, z, rfl, rfl, rfl⟩ | ⟨o, e1, rfl⟩
  · exact .inl ⟨p, ps, hx.dp rs e1, hy.dp rs (by simp [Vw.py, e2]), s1, s2, fin_bl rs k⟩
  · obtain ⟨a, vs, rfl, e1, r⟩ := vw_tup hy
    refine .inr (.inl ⟨a, vs, rfl, .inr (SqT.sub rs e1), flat_VR hx f1, flat_VRs r f2, ?_⟩)
    rw [any_VRs hx f1 r f2]
    exact fin_bl rs k
  · exact .inr (.inr (.inl ⟨c, z, vw_str hx, vw_str hy, fin_bl rs k⟩))
  · obtain ⟨a, u, rfl, g, oo⟩ := fGet_ok rs hy hx e1
    refine .inr (.inr (.inr ⟨a, u, rfl, g, ?_⟩))
    rw [oo.isSome]
    exact fin_bl rs k
end
end DL

namespace DL
open PySem PySem.Spec PyProof.Rows L2

/-! ### a[b] -/
def fIx : Vw → Vw → Option Rv
  | .ob (.lst ds), .d (.int i) => (atI ds i).map .sh
  | .d (.tup ds), .d (.int i) => (atI ds i).map .sh
  | .d (.scr ns), .d (.int i) => (atI ns i).map fun n => .sh (.int n)
  | .d (.str z), .d (.int i) => if z.length ≤ 16777216 then (atI z.cps.toList i).map fun c => .sh (.str ⟨#[c]⟩) else none
  | x, y => match fGet x y with
    | some (some d) => some (.sh d)
    | _ => none
def rDGetI : R2 := fun x y H Q => ∃ a v, x = .ref a ∧ DGet H a y (some v) ∧ Q v H
def rIxA (K : PySem.W.Frag) : R2 := fun x y H Q => rIx K x y H Q ∨ rDGetI x y H Q
section
variable {X : Cx}
theorem ix_dict (hu : X.A.units + 100 < cLine) : IxR X rDGetI := by
  intro value slice pins s σ H x y v u Q I rx ry h hs
  obtain ⟨a, z, rfl, g, q⟩ := h
  cases rx
  have hT : s.TypeIs (.ref a) "dict" := dict_typeIs I g
  have h₂ : wpAny (model X.prog X.w) X.A (getItem (.ref a) u) (EP X pins σ Q) X.xe s := d_getItem (by omega) I g ry fun w' s3 I3 rw' => ⟨z, H, I3, rw', q⟩
  unfold subscriptTail
  refine wpAny_bind ?_
  rw [getitemInPython_of_ne hT.not_modules]
  refine wpAny_bind (wpAny_specialOf hT PySem.F.slot_dict_getitem.lookup ?_)
  have fin : wpAny (model X.prog X.w) X.A (subscripted slice false (.ref a) u) (fun r s₃ => wpAny (model X.prog X.w) X.A (letTemporaryGo value (.ref a) r >>= fun _ => pure r) (EP X pins σ Q) X.xe s₃) X.xe s := by
    rw [hs]
    exact wpAny_operating (wpAny_mono h₂ (fun r s₃ h₃ => wpAny_bind (wpAny_letTemporaryGo (wpAny_pure h₃))) fun _ _ x => x)
  first
    | exact wpAny_pure (wpAny_bind fin)
    | exact wpAny_bind (wpAny_pure (wpAny_bind fin))
    | exact wpAny_bind fin
theorem ix_all (hu : X.A.units + 100 < cLine) : IxR X (rIxA X.K) := ix_seq.or (ix_dict hu)
end
section
variable {K : PySem.W.Frag} {cad : Str → Addr} {F H : Hp} {ι : List Addr} {μ : Store}
theorem atI_VRs {ds : List D} {vs : List V} {i : Int} {d : D} (r : VRs K cad ι F ds vs) (e : atI ds i = some d) : ∃ v, atI vs i = some v ∧ VR K cad ι F d v := by
  unfold atI at e ⊢
  rw [← r.len]
  cases c : ixN ds.length i with
  | none => rw [c] at e; cases e
  | some j =>
    rw [c] at e
    exact r.get e
theorem atI_map {α β : Type} (f : α → β) (xs : List α) (i : Int) : atI (xs.map f) i = (atI xs i).map f := by
  unfold atI
  rw [List.length_map]
  cases ixN xs.length i with
  | none => rfl
  | some j => simp
theorem ix_inv {x y : Vw} {rv : Rv} (e : fIx x y = some rv) : (∃ ds i d, x = .ob (.lst ds) ∧ y = .d (.int i) ∧ atI ds i = some d ∧ rv = .sh d) ∨ (∃ ds i d, x = .d (.tup ds) ∧ y = .d (.int i) ∧ atI ds i = some d ∧ rv = .sh d) ∨
    (∃ ns i n, x = .d (.scr ns) ∧ y = .d (.int i) ∧ atI ns i = some n ∧ rv = .sh (.int n)) ∨ (∃ z i c, x = .d (.str z) ∧ y = .d (.int i) ∧ z.length ≤ 16777216 ∧ atI z.cps.toList i = some c ∧ rv = .sh (.str ⟨#[c]⟩)) ∨ ∃ d, fGet x y = some (some d) ∧ rv = .sh d := by
  unfold fIx at e
  split at e
  · next ds i => cases c : atI ds i with
    | none => simp [c] at e
    | some d => simp [c] at e; exact .inl ⟨ds, i, d, rfl, rfl, c, e.symm⟩
  · next ds i => cases c : atI ds i with
    | none => simp [c] at e
    | some d => simp [c] at e; exact .inr (.inl ⟨ds, i, d, rfl, rfl, c, e.symm⟩)
  · next ds i => cases c : atI ds i with
    | none => simp [c] at e
    | some d => simp [c] at e; exact .inr (.inr (.inl ⟨ds, i, d, rfl, rfl, c, e.symm⟩))
  · next z i =>
    split at e
    · next h => cases c : atI z.cps.toList i with
      | none => simp [c] at e
      | some d => simp [c] at e; exact .inr (.inr (.inr (.inl ⟨z, i, d, rfl, rfl, h, c, e.symm⟩)))
    · cases e
  · split at e
    · next d h => cases e; exact .inr (.inr (.inr (.inr ⟨d, h, rfl⟩)))
    · cases e
theorem sd_ix : Sd2 K cad (rIxA K) fIx := by
  intro F ι μ H wx wy vx vy rv Q rs hx hy e k
  rcases ix_inv e with ⟨ds, i, d, rfl, rfl, e1, rfl⟩ | ⟨ds, i, d, rfl, rfl, e1, rfl⟩ | ⟨ns, i, n, rfl, rfl, e1, rfl⟩ | ⟨z, i, c, rfl, rfl, h, e1, rfl⟩ | ⟨d, e1, rfl⟩
  · obtain ⟨a, rfl, vs, e2, r⟩ := hx
    obtain ⟨v, e3, q⟩ := atI_VRs r e1
    exact .inl (.inl ⟨a, vs, i, v, rfl, vw_int hy, SqL.of e2, e3, fin_sh rs k q⟩)
  · obtain ⟨a, vs, rfl, e2, r⟩ := vw_tup hx
    obtain ⟨v, e3, q⟩ := atI_VRs r e1
    exact .inl (.inr (.inl ⟨a, vs, i, v, rfl, vw_int hy, SqT.sub rs e2, e3, fin_sh rs k q⟩))
  · obtain ⟨a, rfl, s⟩ := vw_scr hx
    exact .inl (.inl ⟨a, _, i, .int n, rfl, vw_int hy, rs.sub.seq s, by rw [atI_map, e1]; rfl, fin_int rs k⟩)
  · exact .inl (.inr (.inr ⟨z, i, c, vw_str hx, vw_int hy, line_eq.mpr h, e1, fin_str rs k⟩))
  · obtain ⟨a, u, rfl, g, oo⟩ := fGet_ok rs hx hy e1
    cases u with
    | none => exact oo.elim
    | some v => exact .inr ⟨a, v, rfl, g, fin_sh rs k oo⟩
end

/-! ### a[lo:hi] -/
abbrev MO := Ev → Store → Res (Option Int)
def oNone : MO := fun _ μ => .ok none μ
def oSome (m : ME) : MO := fun ρ μ => (m ρ μ).bind fun o μ1 => match o with
  | .sh (.int i) => .ok (some i) μ1
  | _ => .stk
def cutD (ds : List D) (lo hi : Option Int) : List D := (ds.drop (HT.sIx ds.length 0 lo)).take (HT.sIx ds.length ds.length hi - HT.sIx ds.length 0 lo)
/-- a list, a tuple, a text -/
def fCut : Vw → Option Int → Option Int → Option Rv
  | .ob (.lst ds), lo, hi => some (.own (.lst (cutD ds lo hi)))
  | .d (.tup ds), lo, hi => some (.sh (.tup (cutD ds lo hi)))
  | .d (.str z), lo, hi => if z.length ≤ 16777216 then some (.sh (.str (cutS z lo hi))) else none
  | _, _, _ => none
def eCut (a : ME) (lo hi : MO) : ME := fun ρ μ => (a ρ μ).bind fun x μ1 => (lo ρ μ1).bind fun l μ2 => (hi ρ μ2).bind fun h μ3 => Res.of ((deref ρ μ3 x).bind fun w => (fCut w l h).map Rv.op) μ3
def rlO : Rl (Option Int) (Option Int) := ⟨fun _ _ _ _ a b => a = b, fun _ q => q⟩
def tO (K : PySem.W.Frag) (cad : Str → Addr) (W : WX) (m : MO) : TO := fun σ H Q => ∃ F ι μ ρ, R K cad F ι μ ρ σ H ∧ Post K cad W rlO F ι H σ (m ρ μ) Q
def rCutA (K : PySem.W.Frag) : V → Option Int → Option Int → Hp → VK → Prop := fun x lo hi H Q => rSlL K x lo hi H Q ∨ rSlA K x lo hi H Q ∨ (∃ z, x = .str z ∧ z.length ≤ sizeLine ∧ Q (.str (cutS z lo hi)) H)
section
variable {X : Cx} {cad : Str → Addr} {W : WX} {pos p2 : Pos} {e : Expr} {ma : ME}
theorem cut_all : SlR X (rCutA X.K) := sl_list.or (sl_tupA.or sl_str)
theorem do_none : PO X none (tO X.K cad W oNone) := ⟨fun pins s σ H Q I h => po_none.run pins s σ H Q I (by
  obtain ⟨F, ι, μ, ρ, rr, q⟩ := h
  exact q F ι H none (Ext.refl _ _ _) rr.rs rfl)⟩
theorem do_some (h : PE X e (tE X.K cad W ma)) : PO X (some e) (tO X.K cad W (oSome ma)) := ⟨fun pins s σ H Q I h' => (po_some h).run pins s σ H Q I (by
  obtain ⟨F, ι, μ, ρ, rr, q⟩ := h'
  refine ⟨F, ι, μ, ρ, rr, q.bind fun o μ1 F1 ι1 H1 v x1 s1 q1 h1 => ?_⟩
  split at h1
  · next i =>
    have q1 : VR X.K cad ι1 F1 (.int i) v := q1
    exact ⟨i, VR.int_.mp q1, h1 F1 ι1 H1 (some i) (Ext.refl _ _ _) s1 rfl⟩
  · exact h1.elim)⟩
theorem cut_VRs {K : PySem.W.Frag} {F : Hp} {ι : List Addr} {ds : List D} {vs : List V} (r : VRs K cad ι F ds vs) (lo hi : Option Int) : VRs K cad ι F (cutD ds lo hi) (cutV vs lo hi) := by
  unfold cutD cutV
  rw [r.len]
  exact (r.drop _).take _
theorem de_cut {lo hi : Option Expr} {ml mh : MO} (ha : PE X e (tE X.K cad W ma)) (hl : PO X lo (tO X.K cad W ml)) (hh : PO X hi (tO X.K cad W mh)) : PE X (.Subscript e (.Slice lo hi none p2) pos) (tE X.K cad W (eCut ma ml mh)) := by
  refine pe_imp (pe_slice cut_all ha hl hh) fun σ H Q ⟨F, ι, μ, ρ, rr, q⟩ => ?_
  refine ⟨F, ι, μ, ρ, rr, q.bind fun x μ1 F1 ι1 H1 vx x1 s1 q1 h1 => ?_⟩
  have r1 := rr.ext x1 s1
  refine ⟨F1, ι1, μ1, ρ, r1, h1.bind fun l μ2 F2 ι2 H2 vl x2 s2 q2 h2 => ?_⟩
  have q2 : l = vl := q2
  subst q2
  have r2 := r1.ext x2 s2
  refine ⟨F2, ι2, μ2, ρ, r2, h2.bind fun u μ3 F3 ι3 H3 vu x3 s3 q3 h3 => ?_⟩
  have q3 : u = vu := q3
  subst q3
  have r3 := r2.ext x3 s3
  obtain ⟨o, e1, k⟩ := Post.of h3
  cases cx : deref ρ μ3 x with
  | none => rw [cx] at e1; cases e1
  | some w =>
    rw [cx] at e1
    have vw := OpV.view r3 (OpV.mono (H1 := H1) x3 (OpV.mono (H1 := H1) x2 q1)) cx
    cases cf : fCut w l u with
    | none => simp [cf] at e1
    | some rv =>
      simp [cf] at e1
      subst e1
      have kk : ∀ F' ι' H' v, Ext F3 ι3 H3 F' ι' H' → RS X.K cad F' ι' μ3 H' → RvR X.K cad H3 F' ι' H' rv v → Q v H' := fun F' ι' H' v x s z => k F' ι' H' v x s z.op
      unfold fCut at cf
      split at cf
      · cases cf
        obtain ⟨a, rfl, vs, e2, r⟩ := vw
        exact .inl ⟨a, vs, rfl, SqL.of e2, fun p hp => fin_own s3 kk hp ⟨_, rfl, cut_VRs r _ _⟩⟩
      · cases cf
        obtain ⟨a, vs, rfl, e2, r⟩ := vw_tup vw
        refine .inr (.inl ⟨a, vs, rfl, SqT.sub s3 e2, fun hw => ?_, fun _ p hp => fin_tup s3 kk hp (cut_VRs r _ _)⟩)
        refine fin_sh s3 kk (VR.tup_.mpr ⟨a, vs, rfl, e2, ?_⟩)
        have e3 : ∀ ds : List D, ds.length = vs.length → cutD ds l u = ds := fun ds hl => by
          unfold cutD
          rw [hl, hw.1, hw.2, List.drop_zero, Nat.sub_zero, ← hl, List.take_length]
        rw [e3 _ r.len]
        exact r
      · split at cf
        · next h => cases cf; exact .inr (.inr ⟨_, vw_str vw, line_eq.mpr h, fin_str s3 kk⟩)
        · cases cf
      · cases cf
/-! ### displays -/
def eTup (as : MA) : ME := fun ρ μ => (as ρ μ).bind fun ds μ1 => if ds.length ≤ 16777216 then .ok (.sh (.tup ds)) μ1 else .stk
def eLst (as : MA) : ME := fun ρ μ => (as ρ μ).bind fun ds μ1 => if ds.length ≤ 16777216 then .ok (.own (.lst ds)) μ1 else .stk
theorem de_tup {es : List Expr} {x1} {as : MA} (h : PA X es (tDs X.K cad W as)) : PE X (.Tuple es x1 pos) (tE X.K cad W (eTup as)) := by
  refine pe_imp (pe_tup h) fun σ H Q ⟨F, ι, μ, ρ, rr, q⟩ => ?_
  refine ⟨F, ι, μ, ρ, rr, q.bind fun ds μ1 F1 ι1 H1 vs x1 s1 q1 h1 => ?_⟩
  have q1 : VRs X.K cad ι1 F1 ds vs := q1
  split at h1
  · next hl => exact ⟨by rw [← q1.len]; exact line_eq.mpr hl, fun p hp => fin_tup s1 (fun F' ι' H' v x s z => h1 F' ι' H' v x s (RvR.op (ρ := ρ) (σ := σ) (r := .sh (.tup ds)) z)) hp q1⟩
  · exact h1.elim
theorem de_lst {es : List Expr} {as : MA} (h : PA X es (tDs X.K cad W as)) : PE X (.List es pos) (tE X.K cad W (eLst as)) := by
  refine pe_imp (pe_lst h) fun σ H Q ⟨F, ι, μ, ρ, rr, q⟩ => ?_
  refine ⟨F, ι, μ, ρ, rr, q.bind fun ds μ1 F1 ι1 H1 vs x1 s1 q1 h1 => ?_⟩
  have q1 : VRs X.K cad ι1 F1 ds vs := q1
  split at h1
  · next hl => exact ⟨by rw [← q1.len]; exact line_eq.mpr hl, fun p hp => fin_own s1 (fun F' ι' H' v x s z => h1 F' ι' H' v x s (RvR.op (ρ := ρ) (σ := σ) (r := .own (.lst ds)) z)) hp ⟨vs, rfl, q1⟩⟩
  · exact h1.elim
/-- {}, its keys ints and texts; tuples -/
def eDK : ME := fun _ μ => .ok (.own (.dK [])) μ
def eDT : ME := fun _ μ => .ok (.own (.dT [])) μ
theorem de_dK : PE X (.Dict [] [] pos) (tE X.K cad W eDK) := pe_imp pe_dnewK fun σ H Q ⟨F, ι, μ, ρ, rr, q⟩ p hp => fin_own rr.rs (fun F' ι' H' v x s z => q F' ι' H' v x s (RvR.op (ρ := ρ) (σ := σ) (r := .own (.dK [])) z)) hp ⟨[], rfl, rfl⟩
theorem de_dT : PE X (.Dict [] [] pos) (tE X.K cad W eDT) := pe_imp pe_dnewT fun σ H Q ⟨F, ι, μ, ρ, rr, q⟩ p hp => fin_own rr.rs (fun F' ι' H' v x s z => q F' ι' H' v x s (RvR.op (ρ := ρ) (σ := σ) (r := .own (.dT [])) z)) hp ⟨[], rfl, rfl⟩
/-- a new thing into the store -/
def eLoc (m : ME) : ME := fun ρ μ => (m ρ μ).bind fun o μ1 => match o with
  | .own ob => .ok (.sh (.loc μ1.length)) (μ1 ++ [ob])
  | _ => .stk
theorem de_loc {m : ME} (h : PE X e (tE X.K cad W m)) : PE X e (tE X.K cad W (eLoc m)) := by
  refine pe_imp h fun σ H Q ⟨F, ι, μ, ρ, rr, q⟩ => ?_
  refine ⟨F, ι, μ, ρ, rr, ?_⟩
  unfold eLoc at q
  cases c : m ρ μ with
  | stk => rw [c] at q; exact q
  | exc x μ1 => rw [c] at q; exact q
  | ok o μ1 =>
    rw [c] at q
    cases o with
    | sh d => exact q.elim
    | slot i => exact q.elim
    | own ob =>
      intro F1 ι1 H1 v x1 s1 q1
      obtain ⟨a, ho, rfl, e2, e3, e4, e5, z⟩ := q1
      have s2 := s1.push e5 e3 e2 z
      refine q F1 (ι1 ++ [a]) H1 _ ?_ s2 ?_
      · refine ⟨x1.f, x1.i.trans (pre_snoc _ _), x1.kept, x1.dom, x1.nf, fun b hb hn => ?_⟩
        rcases List.mem_append.mp hb with w | w
        · exact x1.ni b w hn
        · have : b = a := by simpa using w
          rw [this]
          exact e4
      · refine (show VR X.K cad (ι1 ++ [a]) F1 (.loc μ1.length) (.ref a) from VR.loc_.mpr ⟨a, rfl, ?_⟩)
        rw [← s1.len]
        simp
end
/-! ### built-in functions -/
def derefs (ρ : Ev) (μ : Store) : List Op → Option (List Vw)
  | [] => some []
  | o :: os => (deref ρ μ o).bind fun w => (derefs ρ μ os).map (w :: ·)
def eCB (f : List Vw → Option Rv) (as : Ev → Store → Res (List Op)) : ME := fun ρ μ => (as ρ μ).bind fun os μ1 => Res.of ((derefs ρ μ1 os).bind fun ws => (f ws).map Rv.op) μ1
def SdB (K : PySem.W.Frag) (cad : Str → Addr) (r : List V → Hp → VK → Prop) (f : List Vw → Option Rv) : Prop := ∀ {F : Hp} {ι : List Addr} {μ : Store} {H : Hp} {ws : List Vw} {vs : List V} {rv : Rv} {Q : VK}, RS K cad F ι μ H → Paired (VwR K cad F ι H) ws vs → f ws = some rv →
  (∀ F' ι' H' v, Ext F ι H F' ι' H' → RS K cad F' ι' μ H' → RvR K cad H F' ι' H' rv v → Q v H') → r vs H Q
section
variable {X : Cx} {cad : Str → Addr} {W : WX} {pos p : Pos} {e : Expr} {es : List Expr} {x : Str} {id T : String} {r : List V → Hp → VK → Prop} {f : List Vw → Option Rv} {as : Ev → Store → Res (List Op)}
theorem derefs_ok {K : PySem.W.Frag} {F H H0 : Hp} {ι : List Addr} {μ : Store} {ρ : Ev} {σ : L2.St} (rr : R K cad F ι μ ρ σ H) : ∀ {os : List Op} {vs : List V} {ws : List Vw}, OpVs K cad ρ σ H0 F ι H os vs → derefs ρ μ os = some ws → Paired (VwR K cad F ι H) ws vs
  | [], _, _, .nil, e => by cases e; exact .nil
  | o :: os, _, ws, .cons h t, e => by
    unfold derefs at e
    cases c : deref ρ μ o with
    | none => rw [c] at e; cases e
    | some w =>
      cases c2 : derefs ρ μ os with
      | none => simp [c, c2] at e
      | some ws' =>
        simp [c, c2] at e
        subst e
        exact .cons (h.view rr c) (derefs_ok rr t c2)
theorem eCB_ok {K : PySem.W.Frag} (sd : SdB K cad r f) {σ : L2.St} {H : Hp} {Q : VK} (h : tE K cad W (eCB f as) σ H Q) : tCB r (tOs K cad W as) σ H Q := by
  obtain ⟨F, ι, μ, ρ, rr, q⟩ := h
  refine ⟨F, ι, μ, ρ, rr, q.bind fun os μ1 F1 ι1 H1 vs x1 s1 q1 h1 => ?_⟩
  obtain ⟨o, e1, k⟩ := Post.of h1
  cases c : derefs ρ μ1 os with
  | none => rw [c] at e1; cases e1
  | some ws =>
    rw [c] at e1
    cases cf : f ws with
    | none => simp [cf] at e1
    | some rv =>
      simp [cf] at e1
      subst e1
      exact sd s1 (derefs_ok (rr.ext x1 s1) q1 c) cf fun F' ι' H' v x s z => k F' ι' H' v x s z.op
theorem de_callB (hc : CallR X (.builtin id) r) (sd : SdB X.K cad r f) (hg : Gl X x) (hm : X.mg x = none) (hv : bootBuiltins x = some (.builtin id)) (ha : PA X (e :: es) (tOs X.K cad W as)) (hn : x ≠ "__name__" := by decide) (hdb : (x == ("__debug__" : Str)) = false := by decide)
    (he : starEach (e :: es) X.env = (false, eval e X.env) :: starEach es X.env := by rfl) (hpl : (backTo pos (starEach es X.env)).any (·.1) = false := by rfl) : PE X (.Call (.Name x p) (e :: es) [] pos) (tE X.K cad W (eCB f as)) :=
  pe_imp (pe_callB hc hg hm hv ha hn hdb he hpl) fun σ H Q q => eCB_ok sd q
theorem de_callTy (hc : CallR X (.type T) r) (sd : SdB X.K cad r f) (hg : Gl X x) (hm : X.mg x = none) (hv : bootBuiltins x = some (.type T)) (ha : PA X (e :: es) (tOs X.K cad W as)) (hn : x ≠ "__name__" := by decide) (hdb : (x == ("__debug__" : Str)) = false := by decide)
    (he : starEach (e :: es) X.env = (false, eval e X.env) :: starEach es X.env := by rfl) (hpl : (backTo pos (starEach es X.env)).any (·.1) = false := by rfl) : PE X (.Call (.Name x p) (e :: es) [] pos) (tE X.K cad W (eCB f as)) :=
  pe_imp (pe_callTy hc hg hm hv ha hn hdb he hpl) fun σ H Q q => eCB_ok sd q
end
/-- len -/
def fLen : List Vw → Option Rv
  | [.ob (.lst ds)] => some (.sh (.int ds.length))
  | [.d (.tup ds)] => some (.sh (.int ds.length))
  | [.d (.scr ds)] => some (.sh (.int ds.length))
  | [.d (.str z)] => if z.length ≤ 16777216 then some (.sh (.int z.length)) else none
  | [.ob (.dK kvs)] => some (.sh (.int kvs.length))
  | _ => none
def fMax2 : List Vw → Option Rv
  | [.d (.int i), .d (.int j)] => some (.sh (.int (max i j)))
  | _ => none
def fMin2 : List Vw → Option Rv
  | [.d (.int i), .d (.int j)] => some (.sh (.int (min i j)))
  | _ => none
def fInt : List Vw → Option Rv
  | [.d (.int i)] => some (.sh (.int i))
  | [.d (.bl b)] => some (.sh (.int (if b then 1 else 0)))
  | _ => none
def fList : List Vw → Option Rv
  | [.ob (.lst ds)] => some (.own (.lst ds))
  | [.d (.tup ds)] => some (.own (.lst ds))
  | _ => none
def fTuple : List Vw → Option Rv
  | [.ob (.lst ds)] => some (.sh (.tup ds))
  | [.d (.tup ds)] => some (.sh (.tup ds))
  | _ => none
/-- the greatest of ints -/
def maxL : List Int → Int
  | [] => 0
  | [i] => i
  | i :: r => max i (maxL r)
def fMaxL : List Vw → Option Rv
  | [.ob (.lst ds)] => (D.ints ds).bind fun ns => if ns.length = 0 then none else some (.sh (.int (maxL ns)))
  | _ => none
def fSum : List Vw → Option Rv
  | [.ob (.lst ds)] => (D.ints ds).map fun ns => .sh (.int ns.sum)
  | _ => none
theorem maxL_mem : ∀ {ns : List Int}, ns.length ≠ 0 → maxL ns ∈ ns
  | [], h => absurd rfl h
  | [i], _ => by simp [maxL]
  | i :: j :: r, _ => by
    have ih := maxL_mem (ns := j :: r) (by simp)
    show max i (maxL (j :: r)) ∈ _
    rcases Int.le_total i (maxL (j :: r)) with h | h
    · rw [Int.max_eq_right h]; exact List.mem_cons_of_mem _ ih
    · rw [Int.max_eq_left h]; exact List.mem_cons_self
theorem maxL_ge : ∀ {ns : List Int} {y : Int}, y ∈ ns → y ≤ maxL ns
  | [], y, h => by simp at h
  | [i], y, h => by
    have : y = i := by simpa using h
    rw [this]; exact Int.le_refl _
  | i :: j :: r, y, h => by
    show y ≤ max i (maxL (j :: r))
    rcases List.mem_cons.mp h with e | e
    · rw [e]; exact Int.le_max_left _ _
    · exact Int.le_trans (maxL_ge e) (Int.le_max_right _ _)
section
variable {K : PySem.W.Frag} {cad : Str → Addr}
theorem pr1 {α β : Type} {P : α → β → Prop} {a : α} {bs : List β} (h : Paired P [a] bs) : ∃ b, bs = [b] ∧ P a b := by
  cases h with
  | cons h t => cases t; exact ⟨_, rfl, h⟩
theorem pr2 {α β : Type} {P : α → β → Prop} {a a' : α} {bs : List β} (h : Paired P [a, a'] bs) : ∃ b b', bs = [b, b'] ∧ P a b ∧ P a' b' := by
  cases h with
  | cons h t => cases t with
    | cons h' t => cases t; exact ⟨_, _, rfl, h, h'⟩
def rLenA (K : PySem.W.Frag) : List V → Hp → VK → Prop := fun xs H Q => (∃ p ys, xs = [.ref p] ∧ (SqL K H p ys ∨ SqT K H p ys) ∧ Q (.int ys.length) H) ∨ (∃ z, xs = [.str z] ∧ z.length ≤ sizeLine ∧ Q (.int z.length) H) ∨ ∃ a kvs, xs = [.ref a] ∧ Rd H a (.dK kvs) ∧ Q (.int kvs.length) H
theorem call_lenDK {X : Cx} : CallR X (.builtin "len") (fun xs H Q => ∃ a kvs, xs = [.ref a] ∧ Rd H a (.dK kvs) ∧ Q (.int kvs.length) H) := by
  intro pins s σ H vs us Q I r h
  obtain ⟨a, kvs, rfl, e, q⟩ := h
  obtain ⟨u, rfl, ru⟩ := vals1 r
  obtain rfl : u = Value.ref a := ru
  exact d_len I e fun t s' I' => ⟨.int kvs.length, H, I', ⟨t, rfl⟩, q⟩
theorem call_lenA {X : Cx} : CallR X (.builtin "len") (rLenA X.K) := call_len_seq.or (call_len_str.or call_lenDK)
theorem sd_len : SdB K cad (rLenA K) fLen := by
  intro F ι μ H ws vs rv Q rs hw e k
  unfold fLen at e
  split at e
  · cases e
    obtain ⟨v, rfl, a, rfl, us, e1, r⟩ := pr1 hw
    refine .inl ⟨a, us, rfl, .inl (SqL.of e1), ?_⟩
    rw [← r.len]
    exact fin_int rs k
  · cases e
    obtain ⟨v, rfl, h⟩ := pr1 hw
    obtain ⟨a, us, rfl, e1, r⟩ := vw_tup h
    refine .inl ⟨a, us, rfl, .inr (SqT.sub rs e1), ?_⟩
    rw [← r.len]
    exact fin_int rs k
  · cases e
    obtain ⟨v, rfl, h⟩ := pr1 hw
    obtain ⟨a, rfl, s⟩ := vw_scr h
    refine .inl ⟨a, _, rfl, .inl (rs.sub.seq s), ?_⟩
    rw [List.length_map]
    exact fin_int rs k
  · split at e
    · next hl =>
      cases e
      obtain ⟨v, rfl, h⟩ := pr1 hw
      obtain rfl := vw_str h
      exact .inr (.inl ⟨_, rfl, line_eq.mpr hl, fin_int rs k⟩)
    · cases e
  · next kvs =>
    cases e
    obtain ⟨v, rfl, a, rfl, us, e1, r⟩ := pr1 hw
    refine .inr (.inr ⟨a, _, rfl, e1, ?_⟩)
    have hl : ((kvs.map (·.1)).zip us).length = kvs.length := by
      have := r.len
      rw [List.length_map] at this
      rw [List.length_zip, List.length_map, ← this, Nat.min_self]
    rw [hl]
    exact fin_int rs k
  · cases e
theorem sd_max2 : SdB K cad (fun xs H Q => ∃ i j, xs = [.int i, .int j] ∧ Q (.int (if j > i then j else i)) H) fMax2 := by
  intro F ι μ H ws vs rv Q rs hw e k
  unfold fMax2 at e
  split at e
  · next i j =>
    cases e
    obtain ⟨v, v', rfl, h, h'⟩ := pr2 hw
    obtain rfl := vw_int h
    obtain rfl := vw_int h'
    refine ⟨i, j, rfl, ?_⟩
    rw [show (if j > i then j else i) = max i j by split <;> omega]
    exact fin_int rs k
  · cases e
theorem sd_min2 : SdB K cad (fun xs H Q => ∃ i j, xs = [.int i, .int j] ∧ Q (.int (if j < i then j else i)) H) fMin2 := by
  intro F ι μ H ws vs rv Q rs hw e k
  unfold fMin2 at e
  split at e
  · next i j =>
    cases e
    obtain ⟨v, v', rfl, h, h'⟩ := pr2 hw
    obtain rfl := vw_int h
    obtain rfl := vw_int h'
    refine ⟨i, j, rfl, ?_⟩
    rw [show (if j < i then j else i) = min i j by split <;> omega]
    exact fin_int rs k
  · cases e
theorem sd_int : SdB K cad (fun xs H Q => (∃ i, xs = [.int i] ∧ Q (.int i) H) ∨ ∃ k, xs = [.bl k] ∧ Q (.int (if k then 1 else 0)) H) fInt := by
  intro F ι μ H ws vs rv Q rs hw e k
  unfold fInt at e
  split at e
  · cases e
    obtain ⟨v, rfl, h⟩ := pr1 hw
    obtain rfl := vw_int h
    exact .inl ⟨_, rfl, fin_int rs k⟩
  · cases e
    obtain ⟨v, rfl, h⟩ := pr1 hw
    obtain rfl := vw_bl h
    exact .inr ⟨_, rfl, fin_int rs k⟩
  · cases e
theorem sd_list : SdB K cad (fun xs H Q => ∃ p ys, xs = [.ref p] ∧ (SqL K H p ys ∨ SqT K H p ys) ∧ ∀ l, H l = none → Q (.ref l) (upd H l (.lst ys))) fList := by
  intro F ι μ H ws vs rv Q rs hw e k
  unfold fList at e
  split at e
  · cases e
    obtain ⟨v, rfl, a, rfl, us, e1, r⟩ := pr1 hw
    exact ⟨a, us, rfl, .inl (SqL.of e1), fun l hl => fin_own rs k hl ⟨us, rfl, r⟩⟩
  · cases e
    obtain ⟨v, rfl, h⟩ := pr1 hw
    obtain ⟨a, us, rfl, e1, r⟩ := vw_tup h
    exact ⟨a, us, rfl, .inr (SqT.sub rs e1), fun l hl => fin_own rs k hl ⟨us, rfl, r⟩⟩
  · cases e
theorem sd_tuple : SdB K cad (fun xs H Q => ∃ p ys, xs = [.ref p] ∧ ((SqL K H p ys ∧ ∀ l, H l = none → Q (.ref l) (upd H l (.tup ys))) ∨ (SqT K H p ys ∧ Q (.ref p) H))) fTuple := by
  intro F ι μ H ws vs rv Q rs hw e k
  unfold fTuple at e
  split at e
  · cases e
    obtain ⟨v, rfl, a, rfl, us, e1, r⟩ := pr1 hw
    exact ⟨a, us, rfl, .inl ⟨SqL.of e1, fun l hl => fin_tup rs k hl r⟩⟩
  · cases e
    obtain ⟨v, rfl, h⟩ := pr1 hw
    obtain ⟨a, us, rfl, e1, r⟩ := vw_tup h
    exact ⟨a, us, rfl, .inr ⟨SqT.sub rs e1, fin_sh rs k h⟩⟩
  · cases e
theorem sd_maxL : SdB K cad (rMax K) fMaxL := by
  intro F ι μ H ws vs rv Q rs hw e k
  unfold fMaxL at e
  split at e
  · next ds =>
    cases c : D.ints ds with
    | none => simp [c] at e
    | some ns =>
      simp only [c, Option.bind_some] at e
      split at e
      · cases e
      · next hn =>
        cases e
        obtain ⟨v, rfl, a, rfl, us, e1, r⟩ := pr1 hw
        rw [ints_vals r c] at e1
        refine ⟨a, ns, rfl, SqL.of e1, by omega, fun m hm1 hm2 => ?_⟩
        have : m = maxL ns := Int.le_antisymm (maxL_ge hm1) (hm2 _ (maxL_mem hn))
        rw [this]
        exact fin_int rs k
  · cases e
theorem sd_sum : SdB K cad (rSum K) fSum := by
  intro F ι μ H ws vs rv Q rs hw e k
  unfold fSum at e
  split at e
  · next ds =>
    cases c : D.ints ds with
    | none => simp [c] at e
    | some ns =>
      simp [c] at e
      subst e
      obtain ⟨v, rfl, a, rfl, us, e1, r⟩ := pr1 hw
      rw [ints_vals r c] at e1
      exact ⟨a, ns, rfl, SqL.of e1, fin_int rs k⟩
  · cases e
end
end DL

namespace DL
open PySem PySem.Spec PyProof.Rows L2

/-! ### statements; E: the state at the def's entry -/
structure Ent where
  F : Hp
  ι : List Addr
  H : Hp
structure R0 (K : PySem.W.Frag) (cad : Str → Addr) (E : Ent) (F : Hp) (ι : List Addr) (μ : Store) (ρ : Ev) (σ : L2.St) (H : Hp) : Prop where
  r : R K cad F ι μ ρ σ H
  x : Ext E.F E.ι E.H F ι H
  fr : ∀ (i : Nat) (o : Ob) (a : Addr), ρ[i]? = some (.own o) → σ[i]? = some (some (.ref a)) → E.H a = none
inductive Fl where | nx | bk | ct | rt (r : Rv)
abbrev MS := Ev → Store → Res (Fl × Ev)
def PostS (K : PySem.W.Frag) (cad : Str → Addr) (W : WX) (E : Ent) (F : Hp) (ι : List Addr) (r : Res (Fl × Ev)) (D : Ends) : Prop := match r with
  | .ok (.nx, ρ') μ' => ∀ F' ι' σ' H', Same F F' → ι <+: ι' → R0 K cad E F' ι' μ' ρ' σ' H' → D.nx σ' H'
  | .ok (.bk, ρ') μ' => ∀ F' ι' σ' H', Same F F' → ι <+: ι' → R0 K cad E F' ι' μ' ρ' σ' H' → D.bk σ' H'
  | .ok (.ct, ρ') μ' => ∀ F' ι' σ' H', Same F F' → ι <+: ι' → R0 K cad E F' ι' μ' ρ' σ' H' → D.ct σ' H'
  | .ok (.rt rv, _) μ' => ∀ F' ι' H' v, Ext E.F E.ι E.H F' ι' H' → RS K cad F' ι' μ' H' → RvR K cad E.H F' ι' H' rv v → D.rt v H'
  | .exc x μ' => ∀ F' ι' H' σ' d, Ext E.F E.ι E.H F' ι' H' → RS K cad F' ι' μ' H' → XR K cad F' ι' x d → W (.ref (cad x.cls)) d σ' H'
  | .stk => False
def tS (K : PySem.W.Frag) (cad : Str → Addr) (W : WX) (E : Ent) (m : MS) : TS := fun D σ H => ∃ F ι μ ρ, R0 K cad E F ι μ ρ σ H ∧ PostS K cad W E F ι (m ρ μ) D
theorem PostS.ext {K : PySem.W.Frag} {cad : Str → Addr} {W : WX} {E : Ent} {F F' : Hp} {ι ι' : List Addr} {r : Res (Fl × Ev)} {D : Ends} (hf : Same F F') (hi : ι <+: ι') (h : PostS K cad W E F ι r D) : PostS K cad W E F' ι' r D := by
  cases r with
  | stk => exact h
  | exc x μ => exact h
  | ok p μ =>
    obtain ⟨f, ρ⟩ := p
    cases f with
    | nx => exact fun F2 ι2 σ2 H2 a b => h F2 ι2 σ2 H2 (hf.trans a) (hi.trans b)
    | bk => exact fun F2 ι2 σ2 H2 a b => h F2 ι2 σ2 H2 (hf.trans a) (hi.trans b)
    | ct => exact fun F2 ι2 σ2 H2 a b => h F2 ι2 σ2 H2 (hf.trans a) (hi.trans b)
    | rt rv => exact h
def mNx : MS := fun ρ μ => .ok (.nx, ρ) μ
def seqR (r : Res (Fl × Ev)) (n : MS) : Res (Fl × Ev) := match r with
  | .ok (.nx, ρ') μ' => n ρ' μ'
  | r => r
def mSeq (m n : MS) : MS := fun ρ μ => seqR (m ρ μ) n
section
variable {K : PySem.W.Frag} {cad : Str → Addr} {E : Ent} {F F' H H' H0 : Hp} {ι ι' : List Addr} {μ μ' : Store} {ρ : Ev} {σ : L2.St}
theorem R0.ext (r : R0 K cad E F ι μ ρ σ H) (x : Ext F ι H F' ι' H') (s : RS K cad F' ι' μ' H') : R0 K cad E F' ι' μ' ρ σ H' := ⟨r.r.ext x s, r.x.trans x, r.fr⟩
theorem get_set {α : Type} {l : List α} {i j : Nat} {a b : α} (h : (l.set i a)[j]? = some b) : (j = i ∧ b = a ∧ i < l.length) ∨ (j ≠ i ∧ l[j]? = some b) := by
  by_cases e : i = j
  · subst e
    by_cases hl : i < l.length
    · rw [List.getElem?_set_self hl] at h
      exact .inl ⟨rfl, (Option.some.inj h).symm, hl⟩
    · rw [List.getElem?_eq_none (by rw [List.length_set]; omega)] at h
      cases h
  · rw [List.getElem?_set_ne e] at h
    exact .inr ⟨fun z => e z.symm, h⟩
/-- a name comes to hold data -/
theorem R0.set (r : R0 K cad E F ι μ ρ σ H) {i : Nat} {d : D} {v : V} (q : VR K cad ι F d v) : R0 K cad E F ι μ (ρ.set i (.sh d)) (σ.set i (some v)) H := by
  refine ⟨⟨r.r.rs, by rw [List.length_set, List.length_set]; exact r.r.len, fun j d' e => ?_, fun j o e => ?_, fun j k o o' a e1 e2 e3 e4 => ?_⟩, r.x, fun j o a e1 e2 => ?_⟩
  · rcases get_set e with ⟨rfl, e', hl⟩ | ⟨hj, e⟩
    · cases e'
      exact ⟨v, List.getElem?_set_self (by rw [r.r.len]; exact hl), q⟩
    · obtain ⟨v', e1, q'⟩ := r.r.sh j d' e
      exact ⟨v', by rw [List.getElem?_set_ne (fun z => hj z.symm)]; exact e1, q'⟩
  · rcases get_set e with ⟨_, e', _⟩ | ⟨hj, e⟩
    · cases e'
    · obtain ⟨a, ho, e1, z⟩ := r.r.own j o e
      exact ⟨a, ho, by rw [List.getElem?_set_ne (fun z => hj z.symm)]; exact e1, z⟩
  · rcases get_set e1 with ⟨_, e', _⟩ | ⟨hj, e1⟩
    · cases e'
    rcases get_set e2 with ⟨_, e', _⟩ | ⟨hk, e2⟩
    · cases e'
    rw [List.getElem?_set_ne (fun z => hj z.symm)] at e3
    rw [List.getElem?_set_ne (fun z => hk z.symm)] at e4
    exact r.r.dis j k o o' a e1 e2 e3 e4
  · rcases get_set e1 with ⟨_, e', _⟩ | ⟨hj, e1⟩
    · cases e'
    rw [List.getElem?_set_ne (fun z => hj z.symm)] at e2
    exact r.fr j o a e1 e2
/-- a name comes to hold a new thing -/
theorem R0.setOwn (r : R0 K cad E F ι μ ρ σ H) {i : Nat} {ob : Ob} {a : Addr} {ho : HO} (h1 : F a = none) (h2 : a ∉ ι) (h3 : E.H a = none) (h4 : H a = some ho) (q : OR K cad ι F ob ho)
    (hd : ∀ (j : Nat) (o : Ob), j ≠ i → ρ[j]? = some (.own o) → σ[j]? ≠ some (some (.ref a))) : R0 K cad E F ι μ (ρ.set i (.own ob)) (σ.set i (some (.ref a))) H := by
  refine ⟨⟨r.r.rs, by rw [List.length_set, List.length_set]; exact r.r.len, fun j d' e => ?_, fun j o e => ?_, fun j k o o' b e1 e2 e3 e4 => ?_⟩, r.x, fun j o b e1 e2 => ?_⟩
  · rcases get_set e with ⟨_, e', _⟩ | ⟨hj, e⟩
    · cases e'
    · obtain ⟨v', e1, q'⟩ := r.r.sh j d' e
      exact ⟨v', by rw [List.getElem?_set_ne (fun z => hj z.symm)]; exact e1, q'⟩
  · rcases get_set e with ⟨rfl, e', hl⟩ | ⟨hj, e⟩
    · cases e'
      exact ⟨a, ho, List.getElem?_set_self (by rw [r.r.len]; exact hl), h1, h2, h4, q⟩
    · obtain ⟨b, ho', e1, z⟩ := r.r.own j o e
      exact ⟨b, ho', by rw [List.getElem?_set_ne (fun z => hj z.symm)]; exact e1, z⟩
  · rcases get_set e1 with ⟨rfl, e', hl⟩ | ⟨hj, e1⟩
    · rcases get_set e2 with ⟨rfl, _, _⟩ | ⟨hk, e2⟩
      · rfl
      · rw [List.getElem?_set_self (by rw [r.r.len]; exact hl)] at e3
        rw [List.getElem?_set_ne (fun z => hk z.symm)] at e4
        cases e3
        exact absurd e4 (hd k o' hk e2)
    · rw [List.getElem?_set_ne (fun z => hj z.symm)] at e3
      rcases get_set e2 with ⟨hk, _, hl⟩ | ⟨hk, e2⟩
      · rw [hk, List.getElem?_set_self (by rw [r.r.len]; exact hl)] at e4
        cases e4
        exact absurd e3 (hd j o hj e1)
      · rw [List.getElem?_set_ne (fun z => hk z.symm)] at e4
        exact r.r.dis j k o o' b e1 e2 e3 e4
  · rcases get_set e1 with ⟨rfl, e', hl⟩ | ⟨hj, e1⟩
    · rw [List.getElem?_set_self (by rw [r.r.len]; exact hl)] at e2
      cases e2
      exact h3
    · rw [List.getElem?_set_ne (fun z => hj z.symm)] at e2
      exact r.fr j o b e1 e2
end
section
variable {X : Cx} {cad : Str → Addr} {W : WX} {E : Ent} {pos : Pos} {e : Expr} {st : Stmt} {rest : List Stmt} {m n : MS} {ma : ME}
theorem dss_nil : PSs X [] (tS X.K cad W E mNx) := pss_imp pss_nil fun D σ H ⟨F, ι, μ, ρ, r, h⟩ => h F ι σ H (Same.refl _) List.prefix_rfl r
theorem dss_cons (h1 : PS X st (tS X.K cad W E m)) (h2 : PSs X rest (tS X.K cad W E n)) : PSs X (st :: rest) (tS X.K cad W E (mSeq m n)) := by
  refine pss_imp (pss_cons h1 h2) fun D σ H ⟨F, ι, μ, ρ, r, h⟩ => ⟨F, ι, μ, ρ, r, ?_⟩
  unfold mSeq seqR at h
  cases c : m ρ μ with
  | stk => rw [c] at h; exact h
  | exc x μ1 => rw [c] at h; exact h
  | ok p μ1 =>
    rw [c] at h
    obtain ⟨f, ρ1⟩ := p
    cases f with
    | nx => exact fun F' ι' σ' H' a b r' => ⟨F', ι', μ1, ρ1, r', PostS.ext a b h⟩
    | bk => exact h
    | ct => exact h
    | rt rv => exact h
theorem dss_one (h : PS X st (tS X.K cad W E m)) : PSs X [st] (tS X.K cad W E m) := by
  refine pss_imp (pss_cons h (dss_nil (cad := cad) (W := W) (E := E))) fun D σ H ⟨F, ι, μ, ρ, r, h⟩ => ⟨F, ι, μ, ρ, r, ?_⟩
  cases c : m ρ μ with
  | stk => rw [c] at h; exact h
  | exc x μ1 => rw [c] at h; exact h
  | ok p μ1 =>
    rw [c] at h
    obtain ⟨f, ρ1⟩ := p
    cases f with
    | nx => exact fun F' ι' σ' H' a b r' => ⟨F', ι', μ1, ρ1, r', PostS.ext a b h⟩
    | bk => exact h
    | ct => exact h
    | rt rv => exact h
/-! ### x = e -/
def mSet (i : Nat) (a : ME) : MS := fun ρ μ => (toD a ρ μ).bind fun d μ1 => .ok (.nx, ρ.set i (.sh d)) μ1
def mOwn (i : Nat) (a : ME) : MS := fun ρ μ => (a ρ μ).bind fun o μ1 => match o with
  | .own ob => .ok (.nx, ρ.set i (.own ob)) μ1
  | _ => .stk
theorem mSet_ok {K : PySem.W.Frag} {i : Nat} {D : Ends} {σ : L2.St} {H : Hp} (h : tS K cad W E (mSet i ma) D σ H) : tD K cad W (toD ma) σ H fun v H1 => D.nx (σ.set i (some v)) H1 := by
  obtain ⟨F, ι, μ, ρ, r, h⟩ := h
  refine ⟨F, ι, μ, ρ, r.r, ?_⟩
  unfold mSet at h
  cases c : toD ma ρ μ with
  | stk => rw [c] at h; exact h
  | exc x μ1 => rw [c] at h; exact fun F' ι' H' d y s q => h F' ι' H' σ d (r.x.trans y) s q
  | ok d μ1 => rw [c] at h; exact fun F' ι' H' v y s q => h F' ι' _ H' y.f y.i ((r.ext y s).set q)
theorem mOwn_ok {K : PySem.W.Frag} {i : Nat} {D : Ends} {σ : L2.St} {H : Hp} (h : tS K cad W E (mOwn i ma) D σ H) : tE K cad W ma σ H fun v H1 => D.nx (σ.set i (some v)) H1 := by
  obtain ⟨F, ι, μ, ρ, r, h⟩ := h
  refine ⟨F, ι, μ, ρ, r.r, ?_⟩
  unfold mOwn at h
  cases c : ma ρ μ with
  | stk => rw [c] at h; exact h
  | exc x μ1 => rw [c] at h; exact fun F' ι' H' d y s q => h F' ι' H' σ d (r.x.trans y) s q
  | ok o μ1 =>
    rw [c] at h
    cases o with
    | sh d => exact h.elim
    | slot j => exact h.elim
    | own ob =>
      intro F' ι' H' v y s q
      obtain ⟨a, ho, rfl, e2, e3, e4, e5, z⟩ := q
      refine h F' ι' _ H' y.f y.i ((r.ext y s).setOwn e2 e3 (r.x.dom a e4) e5 z fun j o hj ej es => ?_)
      obtain ⟨b, ho', e6, _, _, e7, _⟩ := r.r.own j o ej
      rw [es] at e6
      cases e6
      rw [e4] at e7
      cases e7
theorem ds_set (i : Nat) {x : Str} {pos' : Pos} (hN : X.N.Nodup) (he : PE X e (tE X.K cad W ma)) (hi : X.N[i]? = some x := by rfl) (hx : Loc X.env.scope x := by first | exact Or.inl rfl | exact Or.inr rfl) (hs : swapsWith e (some (.Name x pos')) pos.line X.env = pure false := by rfl)
    (hf : X.fn x = true ∨ X.env.scope.names.lookup x = some .local := by first | exact .inl rfl | exact .inr rfl) : PS X (.Assign [.Name x pos'] e pos) (tS X.K cad W E (mSet i ma)) :=
  ps_imp (ps_set (i := i) hN hi hx (de_toD he) hs hf) fun D σ H h => mSet_ok h
theorem ds_own (i : Nat) {x : Str} {pos' : Pos} (hN : X.N.Nodup) (he : PE X e (tE X.K cad W ma)) (hi : X.N[i]? = some x := by rfl) (hx : Loc X.env.scope x := by first | exact Or.inl rfl | exact Or.inr rfl) (hs : swapsWith e (some (.Name x pos')) pos.line X.env = pure false := by rfl)
    (hf : X.fn x = true ∨ X.env.scope.names.lookup x = some .local := by first | exact .inl rfl | exact .inr rfl) : PS X (.Assign [.Name x pos'] e pos) (tS X.K cad W E (mOwn i ma)) :=
  ps_imp (ps_set (i := i) hN hi hx he hs hf) fun D σ H h => mOwn_ok h
/-! ### return, an expression alone, if, pass -/
def opRv (ρ : Ev) : Op → Option Rv
  | .sh d => some (.sh d)
  | .own o => some (.own o)
  | .slot i => match ρ[i]? with
    | some (.own o) => some (.own o)
    | _ => none
def mRet (a : ME) : MS := fun ρ μ => (a ρ μ).bind fun o μ1 => match opRv ρ o with
  | some rv => .ok (.rt rv, ρ) μ1
  | none => .stk
def mRetN : MS := fun ρ μ => .ok (.rt (.sh .non), ρ) μ
def mDrop (a : ME) : MS := fun ρ μ => (a ρ μ).bind fun _ μ1 => .ok (.nx, ρ) μ1
def mIf (t : MT) (m n : MS) : MS := fun ρ μ => (t ρ μ).bind fun c μ1 => if c = true then m ρ μ1 else n ρ μ1
theorem mRet_ok {K : PySem.W.Frag} {D : Ends} {σ : L2.St} {H : Hp} (h : tS K cad W E (mRet ma) D σ H) : tE K cad W ma σ H D.rt := by
  obtain ⟨F, ι, μ, ρ, r, h⟩ := h
  refine ⟨F, ι, μ, ρ, r.r, ?_⟩
  unfold mRet at h
  cases c : ma ρ μ with
  | stk => rw [c] at h; exact h
  | exc x μ1 => rw [c] at h; exact fun F' ι' H' d y s q => h F' ι' H' σ d (r.x.trans y) s q
  | ok o μ1 =>
    rw [c] at h
    intro F' ι' H' v y s q
    have r' := r.ext y s
    cases o with
    | sh d => exact h F' ι' H' v (r.x.trans y) s q
    | own ob =>
      obtain ⟨a, ho, rfl, e2, e3, e4, e5, z⟩ := q
      exact h F' ι' H' _ (r.x.trans y) s ⟨a, ho, rfl, e2, e3, r.x.dom a e4, e5, z⟩
    | slot j =>
      obtain ⟨e1, ob, e2⟩ := q
      have h : PostS K cad W E F ι (match (match ρ[j]? with | some (.own o) => some (Rv.own o) | _ => none) with | some rv => .ok (.rt rv, ρ) μ1 | none => .stk) D := h
      rw [e2] at h
      obtain ⟨a, ho, e3, e4, e5, e6, z⟩ := r'.r.own j ob e2
      rw [e1] at e3
      cases e3
      exact h F' ι' H' _ (r.x.trans y) s ⟨a, ho, rfl, e4, e5, r.fr j ob a e2 e1, e6, z⟩
theorem ds_ret (he : PE X e (tE X.K cad W ma)) : PS X (.Return (some e) pos) (tS X.K cad W E (mRet ma)) := ps_imp (ps_ret he) fun D σ H h => mRet_ok h
theorem ds_retN : PS X (.Return none pos) (tS X.K cad W E mRetN) := ps_imp ps_retN fun D σ H ⟨F, ι, μ, ρ, r, h⟩ => h F ι H .non r.x r.r.rs (show VR X.K cad ι F DL.D.non V.non from VR.non_.mpr rfl)
theorem ds_pass : PS X (.Pass pos) (tS X.K cad W E mNx) := ps_imp ps_pass fun D σ H ⟨F, ι, μ, ρ, r, h⟩ => h F ι σ H (Same.refl _) List.prefix_rfl r
theorem ds_drop (he : PE X e (tE X.K cad W ma)) (hs : swapsWith e none pos.line X.env = pure false := by rfl) : PS X (.Expr e pos) (tS X.K cad W E (mDrop ma)) := by
  refine ps_imp (ps_expr he hs) fun D σ H ⟨F, ι, μ, ρ, r, h⟩ => ⟨F, ι, μ, ρ, r.r, ?_⟩
  unfold mDrop at h
  cases c : ma ρ μ with
  | stk => rw [c] at h; exact h
  | exc x μ1 => rw [c] at h; exact fun F' ι' H' d y s q => h F' ι' H' σ d (r.x.trans y) s q
  | ok o μ1 => rw [c] at h; exact fun F' ι' H' v y s q => h F' ι' σ H' y.f y.i (r.ext y s)
theorem ds_if {t : Expr} {body els : List Stmt} {mt : MT} {m n : MS} (ht : PT X t (tT X.K cad W mt)) (hb : PSs X body (tS X.K cad W E m)) (he : PSs X els (tS X.K cad W E n)) : PS X (.If t body els pos) (tS X.K cad W E (mIf mt m n)) := by
  refine ps_imp (ps_if ht hb he) fun D σ H ⟨F, ι, μ, ρ, r, h⟩ => ⟨F, ι, μ, ρ, r.r, ?_⟩
  unfold mIf at h
  cases c : mt ρ μ with
  | stk => rw [c] at h; exact h
  | exc x μ1 => rw [c] at h; exact fun F' ι' H' d y s q => h F' ι' H' σ d (r.x.trans y) s q
  | ok k μ1 =>
    rw [c] at h
    intro F' ι' H' v y s q
    have q : k = v := q
    subst q
    cases k with
    | true => rw [if_pos rfl]; exact ⟨F', ι', μ1, ρ, r.ext y s, PostS.ext y.f y.i h⟩
    | false => rw [if_neg Bool.false_ne_true]; exact ⟨F', ι', μ1, ρ, r.ext y s, PostS.ext y.f y.i h⟩
def mBrk : MS := fun ρ μ => .ok (.bk, ρ) μ
def mCont : MS := fun ρ μ => .ok (.ct, ρ) μ
def mStk : MS := fun _ _ => .stk
theorem ds_never (st : Stmt) : PS X st (tS X.K cad W E mStk) := ps_imp ps_never fun D σ H ⟨F, ι, μ, ρ, r, h⟩ => h
end

/-! ### things that change -/
def getOb (ρ : Ev) (μ : Store) : Op → Option Ob
  | .slot i => match ρ[i]? with
    | some (.own o) => some o
    | _ => none
  | .sh (.loc n) => μ[n]?
  | _ => none
def putOb (ρ : Ev) (μ : Store) (o : Op) (ob : Ob) : Ev × Store := match o with
  | .slot i => (ρ.set i (.own ob), μ)
  | .sh (.loc n) => (ρ, μ.set n ob)
  | _ => (ρ, μ)
theorem Ext.upd_of {F F' H H' : Hp} {ι ι' : List Addr} {a : Addr} {ho : HO} (x : Ext F ι H F' ι' H') (h : a ∉ ι → H a = none) : Ext F ι H F' ι' (upd H' a ho) := by
  refine ⟨x.f, x.i, fun b o hb e => ?_, fun b e => ?_, x.nf, x.ni⟩
  · rw [upd_ne (fun z => by
      rw [z] at hb e
      rw [h hb] at e
      cases e)]
    exact x.kept b o hb e
  · by_cases q : b = a
    · rw [q, upd_same] at e
      cases e
    · rw [upd_ne q] at e
      exact x.dom b e
section
variable {K : PySem.W.Frag} {cad : Str → Addr} {E : Ent} {F F' H H' H0 : Hp} {ι ι' : List Addr} {μ μ' : Store} {ρ : Ev} {σ : L2.St}
theorem put_ok (r : R0 K cad E F ι μ ρ σ H) {o : Op} {v : V} {ob : Ob} (q : OpV K cad ρ σ H0 F ι H o v) (e : getOb ρ μ o = some ob) : ∃ a ho, v = .ref a ∧ H a = some ho ∧ OR K cad ι F ob ho ∧
    ∀ ob' ho', OR K cad ι F ob' ho' → R0 K cad E F ι (putOb ρ μ o ob').2 (putOb ρ μ o ob').1 σ (upd H a ho') := by
  cases o with
  | own o => cases e
  | slot i =>
    obtain ⟨e1, o, e2⟩ := q
    have e : (match ρ[i]? with | some (.own o) => some o | _ => none) = some ob := e
    rw [e2] at e
    cases e
    obtain ⟨a, ho, e3, e4, e5, e6, z⟩ := r.r.own i _ e2
    rw [e1] at e3
    cases e3
    have hE : E.H a = none := r.fr i _ a e2 e1
    have hl : i < ρ.length := (List.getElem?_eq_some_iff.mp e2).1
    refine ⟨a, ho, rfl, e6, z, fun ob' ho' z' => ?_⟩
    show R0 K cad E F ι μ (ρ.set i (.own ob')) σ (upd H a ho')
    refine ⟨⟨?_, by rw [List.length_set]; exact r.r.len, fun j d ej => ?_, fun j o ej => ?_, fun j k o o' b ej ek e7 e8 => ?_⟩, r.x.upd_of fun _ => hE, fun j o b ej e7 => ?_⟩
    · refine r.r.rs.grow (Same.refl _) (fun b o' s => ?_) (fun b hb o' s => ?_) r.r.rs.sep
      · rw [upd_ne (fun w => by rw [w, e4] at s; cases s)]
        exact r.r.rs.sub b o' s
      · rw [upd_ne (show b ≠ a from fun w => e5 (w ▸ hb))]
        exact s
    · rcases get_set ej with ⟨_, e', _⟩ | ⟨hj, ej⟩
      · cases e'
      · exact r.r.sh j d ej
    · rcases get_set ej with ⟨rfl, e', _⟩ | ⟨hj, ej⟩
      · cases e'
        exact ⟨a, ho', e1, e4, e5, upd_same, z'⟩
      · obtain ⟨b, ho2, e7, e8, e9, e10, z2⟩ := r.r.own j o ej
        refine ⟨b, ho2, e7, e8, e9, ?_, z2⟩
        rw [upd_ne (show b ≠ a from fun w => hj (r.r.dis j i o _ a ej e2 (w ▸ e7) e1))]
        exact e10
    · have fix : ∀ {j : Nat} {o : Ob}, (ρ.set i (.own ob'))[j]? = some (.own o) → ∃ o2, ρ[j]? = some (.own o2) := fun {j o} h => by
        rcases get_set h with ⟨rfl, _, _⟩ | ⟨_, h⟩
        · exact ⟨_, e2⟩
        · exact ⟨_, h⟩
      obtain ⟨o1, f1⟩ := fix ej
      obtain ⟨o2, f2⟩ := fix ek
      exact r.r.dis j k o1 o2 b f1 f2 e7 e8
    · rcases get_set ej with ⟨rfl, _, _⟩ | ⟨hj, ej⟩
      · rw [e1] at e7
        cases e7
        exact hE
      · exact r.fr j o b ej e7
  | sh d =>
    cases d with
    | loc n =>
      obtain ⟨a, rfl, e1⟩ := VR.loc_.mp (show VR K cad ι F (.loc n) v from q)
      have e : μ[n]? = some ob := e
      obtain ⟨ho, e2, z⟩ := r.r.rs.obj n ob a e e1
      have ha : a ∈ ι := List.mem_of_getElem? e1
      refine ⟨a, ho, rfl, e2, z, fun ob' ho' z' => ?_⟩
      show R0 K cad E F ι (μ.set n ob') ρ σ (upd H a ho')
      have x : Ext F ι H F ι (upd H a ho') := Ext.put e1
      exact r.ext x (r.r.rs.put e1 z')
    | _ => cases e
end
end DL

namespace DL
open PySem PySem.Spec PyProof.Rows L2

/-! ### xs.append(e), xs.extend(e) -/
def putRes (ρ : Ev) (μ : Store) (o : Op) (ob : Ob) : Res (Fl × Ev) := .ok (.nx, (putOb ρ μ o ob).1) (putOb ρ μ o ob).2
def lstAt (ρ : Ev) (μ : Store) (o : Op) : Option (List D) := match getOb ρ μ o with
  | some (.lst xs) => some xs
  | _ => none
def mApp (rcv a : ME) : MS := fun ρ μ => (rcv ρ μ).bind fun o μ1 => match lstAt ρ μ1 o with
  | none => .stk
  | some _ => (toD a ρ μ1).bind fun d μ2 => match lstAt ρ μ2 o with
    | none => .stk
    | some xs => if xs.length < 16777216 then putRes ρ μ2 o (.lst (xs ++ [d])) else .stk
def mExt (rcv a : ME) : MS := fun ρ μ => (rcv ρ μ).bind fun o μ1 => match lstAt ρ μ1 o with
  | none => .stk
  | some _ => (toD a ρ μ1).bind fun d μ2 => match lstAt ρ μ2 o with
    | none => .stk
    | some xs => match d with
      | .lst ys => if xs.length + ys.length ≤ 16777216 then putRes ρ μ2 o (.lst (xs ++ ys)) else .stk
      | _ => .stk
section
variable {K : PySem.W.Frag} {cad : Str → Addr} {E : Ent} {W : WX} {F F' H H' H0 : Hp} {ι ι' : List Addr} {μ μ' : Store} {ρ : Ev} {σ : L2.St}
theorem lstAt_ob {o : Op} {xs : List D} (h : lstAt ρ μ o = some xs) : getOb ρ μ o = some (.lst xs) := by
  unfold lstAt at h
  split at h
  · next e => cases h; exact e
  · cases h
theorem lstAt_ty (r : R0 K cad E F ι μ ρ σ H) {o : Op} {v : V} {xs : List D} (q : OpV K cad ρ σ H0 F ι H o v) (e : lstAt ρ μ o = some xs) : tyV K "list" v H := by
  obtain ⟨a, ho, rfl, e1, ⟨vs, rfl, _⟩, _⟩ := put_ok r q (lstAt_ob e)
  exact .inl ⟨rfl, vs, SqL.of e1⟩
/-- behind an expression: what a statement asks -/
theorem PostS.bind {α β : Type} {rl : Rl α β} {ro : Res α} {f : α → Store → Res (Fl × Ev)} {D : Ends} {Q : β → Hp → Prop} {F1 : Hp} {ι1 : List Addr} {H1 : Hp} (h : PostS K cad W E F ι (ro.bind f) D) (hx : Ext E.F E.ι E.H F1 ι1 H1)
    (k : ∀ a μ1 F2 ι2 H2 b, ro = .ok a μ1 → Ext F1 ι1 H1 F2 ι2 H2 → RS K cad F2 ι2 μ1 H2 → rl.r H1 F2 ι2 H2 a b → PostS K cad W E F ι (f a μ1) D → Q b H2) : Post K cad W rl F1 ι1 H1 σ ro Q := by
  cases ro with
  | stk => exact h
  | exc x μ1 => exact fun F' ι' H' d y s q => h F' ι' H' σ d (hx.trans y) s q
  | ok a μ1 => exact fun F' ι' H' b y s q => k a μ1 F' ι' H' b rfl y s q h
end
/-- the form of a method's call -/
structure MB (X : Cx) (o : Expr) (name : Str) (apos : Pos) (e : Expr) (es : List Expr) (cpos : Pos) : Prop where
  hbase : attributeBase o name X.env (eval o X.env) = eval o X.env
  hfew : ((backTo cpos (starEach (e :: es) X.env)).all (fun x => !x.1) && (backToKw cpos (keywordEach [] X.env)).all (fun x => x.1.isSome) && decide ((e :: es).length + ([] : List Keyword).length + (if ([] : List Keyword).isEmpty then 0 else 1) < 30)) = true
  hline : (apos.endLine == cpos.line) = true
  hs : starEach (e :: es) X.env = (false, eval e X.env) :: starEach es X.env
  hplain : (backTo cpos (starEach es X.env)).any (·.1) = false
section
variable {X : Cx} {cad : Str → Addr} {W : WX} {E : Ent} {pos apos : Pos} {o e : Expr} {mo me : ME}
theorem ds_app (ho : PE X o (tE X.K cad W mo)) (he : PE X e (tE X.K cad W me)) {p : Pos} (mb : MB X o "append" apos e [] p := by exact ⟨rfl, rfl, rfl, rfl, rfl⟩) (hs : swapsWith (.Call (.Attribute o "append" apos) [e] [] p) none pos.line X.env = pure false := by rfl) :
    PS X (.Expr (.Call (.Attribute o "append" apos) [e] [] p) pos) (tS X.K cad W E (mApp mo me)) := by
  refine ps_imp (ps_expr (pe_bm PySem.F.plainAttrs_list PySem.F.slot_list_append PySem.F.type_list_append mt_append ho (pa_cons (de_toD he) pa_nil mb.hs) mb.hbase mb.hfew mb.hline mb.hs mb.hplain) hs) fun D σ H ⟨F, ι, μ, ρ, r, h⟩ => ?_
  refine ⟨F, ι, μ, ρ, r.r, h.bind r.x fun oo μ1 F1 ι1 H1 v _ x1 s1 q1 h1 => ?_⟩
  have r1 := r.ext x1 s1
  cases c : lstAt ρ μ1 oo with
  | none => rw [c] at h1; exact h1.elim
  | some xs0 =>
    rw [c] at h1
    refine ⟨lstAt_ty r1 q1 c, F1, ι1, μ1, ρ, r1.r, h1.bind r1.x fun d μ2 F2 ι2 H2 v _ x2 s2 q2 h2 => ?_⟩
    have r2 := r1.ext x2 s2
    have q2 : VR X.K cad ι2 F2 d v := q2
    cases c2 : lstAt ρ μ2 oo with
    | none => rw [c2] at h2; exact h2.elim
    | some xs =>
      rw [c2] at h2
      by_cases hl : xs.length < 16777216
      · simp only [if_pos hl] at h2
        obtain ⟨a, ho, rfl, e1, ⟨us, rfl, ru⟩, k⟩ := put_ok r2 (OpV.mono (H1 := H1) x2 q1) (lstAt_ob c2)
        refine ⟨a, us, v, rfl, rfl, e1, ?_, ?_⟩
        · rw [← ru.len, sizeLine_eq]
          exact hl
        · exact h2 F2 ι2 σ _ (x1.f.trans x2.f) (x1.i.trans x2.i) (k (.lst (xs ++ [d])) _ ⟨_, rfl, ru.app (VRs.cons q2 VRs.nil)⟩)
      · simp only [if_neg hl] at h2
        exact h2.elim
theorem ds_ext (ho : PE X o (tE X.K cad W mo)) (he : PE X e (tE X.K cad W me)) {p : Pos} (mb : MB X o "extend" apos e [] p := by exact ⟨rfl, rfl, rfl, rfl, rfl⟩) (hs : swapsWith (.Call (.Attribute o "extend" apos) [e] [] p) none pos.line X.env = pure false := by rfl) :
    PS X (.Expr (.Call (.Attribute o "extend" apos) [e] [] p) pos) (tS X.K cad W E (mExt mo me)) := by
  refine ps_imp (ps_expr (pe_bm PySem.F.plainAttrs_list PySem.F.slot_list_extend PySem.F.type_list_extend mt_extend ho (pa_cons (de_toD he) pa_nil mb.hs) mb.hbase mb.hfew mb.hline mb.hs mb.hplain) hs) fun D σ H ⟨F, ι, μ, ρ, r, h⟩ => ?_
  refine ⟨F, ι, μ, ρ, r.r, h.bind r.x fun oo μ1 F1 ι1 H1 v _ x1 s1 q1 h1 => ?_⟩
  have r1 := r.ext x1 s1
  cases c : lstAt ρ μ1 oo with
  | none => rw [c] at h1; exact h1.elim
  | some xs0 =>
    rw [c] at h1
    refine ⟨lstAt_ty r1 q1 c, F1, ι1, μ1, ρ, r1.r, h1.bind r1.x fun d μ2 F2 ι2 H2 v _ x2 s2 q2 h2 => ?_⟩
    have r2 := r1.ext x2 s2
    have q2 : VR X.K cad ι2 F2 d v := q2
    cases c2 : lstAt ρ μ2 oo with
    | none => rw [c2] at h2; exact h2.elim
    | some xs =>
      rw [c2] at h2
      cases d with
      | lst ys =>
        by_cases hl : xs.length + ys.length ≤ 16777216
        · simp only [if_pos hl] at h2
          obtain ⟨a, ho, rfl, e1, ⟨us, rfl, ru⟩, k⟩ := put_ok r2 (OpV.mono (H1 := H1) x2 q1) (lstAt_ob c2)
          obtain ⟨b, ws, rfl, e2, rw'⟩ := VR.lst_.mp q2
          refine ⟨a, b, us, ws, rfl, rfl, e1, s2.sub _ _ e2, ?_, ?_⟩
          · rw [← ru.len, ← rw'.len]
            exact line_eq.mpr hl
          · exact h2 F2 ι2 σ _ (x1.f.trans x2.f) (x1.i.trans x2.i) (k (.lst (xs ++ ys)) _ ⟨_, rfl, ru.app rw'⟩)
        · simp only [if_neg hl] at h2
          exact h2.elim
      | _ => exact h2.elim
end

/-! ### o[i] = v -/
def putD {κ : Type} [DecidableEq κ] (kvs : List (κ × D)) (k : κ) (v : D) : List (κ × D) :=
  if (kvs.any fun kv => decide (kv.1 = k)) = true then kvs.map (fun kv => if kv.1 = k then (kv.1, v) else kv) else kvs ++ [(k, v)]
def fSet : Ob → D → D → Option Ob
  | .lst xs, .int k, d => (ixN xs.length k).map fun j => .lst (xs.set j d)
  | .dK kvs, k, d => k.key.bind fun k => if kvs.length < 16777216 then some (.dK (putD kvs k d)) else none
  | .dT kvs, .tup ks, d => (D.keys ks).bind fun k => if kvs.length < 16777216 then some (.dT (putD kvs k d)) else none
  | _, _, _ => none
def mSetIt (v o i : ME) : MS := fun ρ μ => (toD v ρ μ).bind fun d μ1 => (o ρ μ1).bind fun oo μ2 => (toD i ρ μ2).bind fun k μ3 => match (getOb ρ μ3 oo).bind fun ob => fSet ob k d with
  | some ob' => putRes ρ μ3 oo ob'
  | none => .stk
section
variable {K : PySem.W.Frag} {cad : Str → Addr} {E : Ent} {W : WX} {F F' H H' H0 : Hp} {ι ι' : List Addr} {μ μ' : Store} {ρ : Ev} {σ : L2.St}
theorem zip_any {κ : Type} [DecidableEq κ] (k : κ) : ∀ {kvs : List (κ × D)} {vs : List V}, VRs K cad ι F (kvs.map (·.2)) vs → (((kvs.map (·.1)).zip vs).any fun kv => decide (kv.1 = k)) = kvs.any fun kv => decide (kv.1 = k)
  | [], _, h => by cases h; rfl
  | (k', d) :: kvs, _, h => by
    obtain ⟨v, vs, rfl, r, t⟩ := h
    rw [List.map_cons, List.zip_cons_cons, List.any_cons, List.any_cons, zip_any k t]
theorem zip_repl {κ : Type} [DecidableEq κ] (k : κ) {d : D} {v : V} (q : VR K cad ι F d v) : ∀ {kvs : List (κ × D)} {vs : List V}, VRs K cad ι F (kvs.map (·.2)) vs → ∃ us, ((kvs.map (·.1)).zip vs).map (fun kv => if kv.1 = k then (kv.1, v) else kv) = ((kvs.map fun kv => if kv.1 = k then (kv.1, d) else kv).map (·.1)).zip us ∧
    VRs K cad ι F ((kvs.map fun kv => if kv.1 = k then (kv.1, d) else kv).map (·.2)) us
  | [], _, h => ⟨[], by cases h; rfl, rfl⟩
  | (k', d') :: kvs, _, h => by
    obtain ⟨v', vs, rfl, r, t⟩ := h
    obtain ⟨us, e, z⟩ := zip_repl k q t
    by_cases c : k' = k
    · refine ⟨v :: us, ?_, ?_⟩
      · simp only [List.map_cons, List.zip_cons_cons, c, if_true, List.cons.injEq, true_and]
        exact e
      · simp only [List.map_cons, c, if_true]
        exact ⟨v, us, rfl, q, z⟩
    · refine ⟨v' :: us, ?_, ?_⟩
      · simp only [List.map_cons, List.zip_cons_cons, c, if_false, List.cons.injEq, true_and]
        exact e
      · simp only [List.map_cons, c, if_false]
        exact ⟨v', us, rfl, r, z⟩
theorem zip_put {κ : Type} [DecidableEq κ] (k : κ) {d : D} {v : V} (q : VR K cad ι F d v) {kvs : List (κ × D)} {vs : List V} (h : VRs K cad ι F (kvs.map (·.2)) vs) : ∃ us, putK ((kvs.map (·.1)).zip vs) k v = ((putD kvs k d).map (·.1)).zip us ∧ VRs K cad ι F ((putD kvs k d).map (·.2)) us := by
  unfold putK putD
  rw [zip_any k h]
  by_cases c : (kvs.any fun kv => decide (kv.1 = k)) = true
  · rw [if_pos c, if_pos c]
    exact zip_repl k q h
  · rw [if_neg c, if_neg c]
    refine ⟨vs ++ [v], ?_, ?_⟩
    · rw [List.map_append, List.zip_append (by have := h.len; rw [List.length_map] at this ⊢; exact this)]
      rfl
    · rw [List.map_append]
      exact h.app ⟨v, [], rfl, q, rfl⟩
theorem zip_len {κ : Type} {kvs : List (κ × D)} {vs : List V} (h : VRs K cad ι F (kvs.map (·.2)) vs) : ((kvs.map (·.1)).zip vs).length = kvs.length := by
  have := h.len
  rw [List.length_map] at this
  rw [List.length_zip, List.length_map, ← this, Nat.min_self]
def rSetD : V → V → V → Hp → (Hp → Prop) → Prop := fun o i v H Q => ∃ a H', o = .ref a ∧ DPut H a i v H' ∧ Q H'
def rSetA : V → V → V → Hp → (Hp → Prop) → Prop := fun o i v H Q => rSetL o i v H Q ∨ rSetD o i v H Q
theorem set_all {X : Cx} (hu : X.A.units + 100 < cLine) : PSet X rSetA := by
  intro pins s σ H o i v ov iv u Q I ro ri rv h
  rcases h with h | ⟨a, H', rfl, g, q⟩
  · exact set_list pins s σ H o i v ov iv u Q I ro ri rv h
  · cases ro
    exact d_setItem (by omega) I g ri rv fun s' I' => ⟨H', I', q⟩
/-- by values: the thing at a changes -/
theorem fSet_ok (rs : RS K cad F ι μ H) {ob ob' : Ob} {k d : D} {vk vd : V} {a : Addr} {ho : HO} (e : fSet ob k d = some ob') (h1 : H a = some ho) (z : OR K cad ι F ob ho) (qk : VR K cad ι F k vk) (qd : VR K cad ι F d vd) {Q : Hp → Prop} (kk : ∀ ho', OR K cad ι F ob' ho' → Q (upd H a ho')) : rSetA (.ref a) vk vd H Q := by
  cases ob with
  | lst xs =>
    cases k with
    | int i =>
      have e : (ixN xs.length i).map (fun j => Ob.lst (xs.set j d)) = some ob' := e
      obtain ⟨vs, rfl, r⟩ := z
      cases c : ixN xs.length i with
      | none => simp [c] at e
      | some j =>
        simp [c] at e
        subst e
        exact .inl ⟨a, vs, i, j, rfl, VR.int_.mp qk, h1, by rw [← r.len]; exact c, kk _ ⟨_, rfl, r.set j qd⟩⟩
    | _ => cases e
  | dK kvs =>
    have e : (k.key.bind fun k => if kvs.length < 16777216 then some (Ob.dK (putD kvs k d)) else none) = some ob' := by cases k <;> exact e
    obtain ⟨vs, rfl, r⟩ := z
    cases c : k.key with
    | none => simp [c] at e
    | some k1 =>
      simp only [c, Option.bind_some] at e
      by_cases hl : kvs.length < 16777216
      · rw [if_pos hl] at e
        cases e
        obtain ⟨us, e2, r2⟩ := zip_put k1 qd r
        refine .inr ⟨a, _, rfl, .inl ⟨_, k1, h1, key_VR qk c, by rw [zip_len r, sizeLine_eq]; exact hl, rfl⟩, ?_⟩
        rw [e2]
        exact kk _ ⟨us, rfl, r2⟩
      · rw [if_neg hl] at e
        cases e
  | dT kvs =>
    cases k with
    | tup ks =>
      have e : ((D.keys ks).bind fun k => if kvs.length < 16777216 then some (Ob.dT (putD kvs k d)) else none) = some ob' := e
      obtain ⟨vs, rfl, r⟩ := z
      cases c : D.keys ks with
      | none => simp [c] at e
      | some k1 =>
        simp only [c, Option.bind_some] at e
        by_cases hl : kvs.length < 16777216
        · rw [if_pos hl] at e
          cases e
          obtain ⟨us, e2, r2⟩ := zip_put k1 qd r
          obtain ⟨b, ws, rfl, e3, r3⟩ := VR.tup_.mp qk
          rw [keys_VRs r3 c] at e3
          refine .inr ⟨a, _, rfl, .inr ⟨_, k1, b, h1, rfl, rs.sub _ _ e3, by rw [zip_len r, sizeLine_eq]; exact hl, rfl⟩, ?_⟩
          rw [e2]
          exact kk _ ⟨us, rfl, r2⟩
        · rw [if_neg hl] at e
          cases e
    | _ => cases e
  | ins _ _ => cases e
  | lkK _ => cases e
  | lkT _ => cases e
  | dead => cases e
end
section
variable {X : Cx} {cad : Str → Addr} {W : WX} {E : Ent} {pos pos' : Pos} {v o i : Expr} {mv mo mi : ME}
theorem ds_setit (hu : X.A.units + 100 < cLine) (hv : PE X v (tE X.K cad W mv)) (ho : PE X o (tE X.K cad W mo)) (hi : PE X i (tE X.K cad W mi)) (hs : swapsWithSole [.Subscript o i pos'] v pos.line X.env = pure false := by rfl) (hw : swappedStores [.Subscript o i pos'] v X.env = pure none := by rfl)
    (h1 : (assignEach [.Subscript o i pos'] X.env).map (·.2) = [assign (.Subscript o i pos') X.env] := by rfl) (hg : ∀ u, assign (.Subscript o i pos') X.env u = (do
      let ov ← holding [u] (eval o X.env)
      let iv ← holding [u, ov] (eval i X.env)
      standAt pos'
      holding [u, ov, iv] (setItem ov iv u)
      release [u, ov, iv] []) := by intro _; rfl) :
    PS X (.Assign [.Subscript o i pos'] v pos) (tS X.K cad W E (mSetIt mv mo mi)) := by
  refine ps_imp (ps_asg (de_toD hv) (pg_sub ho (de_toD hi) (set_all hu) hg) hs hw h1) fun D σ H ⟨F, ι, μ, ρ, r, h⟩ => ?_
  refine ⟨F, ι, μ, ρ, r.r, h.bind r.x fun d μ1 F1 ι1 H1 vd _ x1 s1 q1 h1 => ?_⟩
  have r1 := r.ext x1 s1
  refine ⟨F1, ι1, μ1, ρ, r1.r, h1.bind r1.x fun oo μ2 F2 ι2 H2 vo _ x2 s2 q2 h2 => ?_⟩
  have r2 := r1.ext x2 s2
  refine ⟨F2, ι2, μ2, ρ, r2.r, h2.bind r2.x fun k μ3 F3 ι3 H3 vk _ x3 s3 q3 h3 => ?_⟩
  have r3 := r2.ext x3 s3
  have q1 : VR X.K cad ι3 F3 d vd := VR.mono (x2.f.trans x3.f) (x2.i.trans x3.i) _ _ q1
  have q3 : VR X.K cad ι3 F3 k vk := q3
  cases c : getOb ρ μ3 oo with
  | none => rw [c] at h3; exact h3.elim
  | some ob =>
    rw [c] at h3
    cases c2 : fSet ob k d with
    | none => simp only [Option.bind_some, c2] at h3; exact h3.elim
    | some ob' =>
      simp only [Option.bind_some, c2] at h3
      obtain ⟨a, ho, rfl, e1, z, kk⟩ := put_ok r3 (OpV.mono (H1 := H1) x3 q2) c
      exact fSet_ok s3 c2 e1 z q3 q1 fun ho' z' => h3 F3 ι3 σ _ (x1.f.trans (x2.f.trans x3.f)) (x1.i.trans (x2.i.trans x3.i)) (kk ob' ho' z')
end

/-! ### targets -/
def GOk (K : PySem.W.Frag) (cad : Str → Addr) (t : TG) (g : D → Ev → Option Ev) (ws : List Nat) : Prop := ∀ {F : Hp} {ι : List Addr} {μ : Store} {ρ ρ' : Ev} {σ : L2.St} {H : Hp} {d : D} {v : V} {Q : L2.St → Hp → Prop}, R K cad F ι μ ρ σ H → VR K cad ι F d v → g d ρ = some ρ' →
  (∀ σ', R K cad F ι μ ρ' σ' H → σ'.length = σ.length → (∀ j, j ∉ ws → σ'[j]? = σ[j]?) → (∀ (i : Nat) (o : Ob), ρ'[i]? = some (.own o) → ρ[i]? = some (.own o) ∧ σ'[i]? = σ[i]?) → Q σ' H) → t v σ H Q
def gN (i : Nat) : D → Ev → Option Ev := fun d ρ => some (ρ.set i (.sh d))
def setsE : List Nat → List D → Ev → Ev
  | i :: is, d :: ds, ρ => setsE is ds (ρ.set i (.sh d))
  | _, _, ρ => ρ
def gT (is : List Nat) : D → Ev → Option Ev := fun d ρ => match d with
  | .tup ds => if ds.length = is.length then some (setsE is ds ρ) else none
  | _ => none
def gNames : List Nat → TGs
  | [] => gNil
  | i :: is => gCons (gName i) (gNames is)
section
variable {K : PySem.W.Frag} {cad : Str → Addr}
/-- setting one name, over R alone -/
theorem R.set1 {F : Hp} {ι : List Addr} {μ : Store} {ρ : Ev} {σ : L2.St} {H : Hp} (r : R K cad F ι μ ρ σ H) {i : Nat} {d : D} {v : V} (q : VR K cad ι F d v) : R K cad F ι μ (ρ.set i (.sh d)) (σ.set i (some v)) H := by
  refine ⟨r.rs, by rw [List.length_set, List.length_set]; exact r.len, fun j d' e => ?_, fun j o e => ?_, fun j k o o' a e1 e2 e3 e4 => ?_⟩
  · rcases get_set e with ⟨rfl, e', hl⟩ | ⟨hj, e⟩
    · cases e'
      exact ⟨v, List.getElem?_set_self (by rw [r.len]; exact hl), q⟩
    · obtain ⟨v', e1, q'⟩ := r.sh j d' e
      exact ⟨v', by rw [List.getElem?_set_ne (fun z => hj z.symm)]; exact e1, q'⟩
  · rcases get_set e with ⟨_, e', _⟩ | ⟨hj, e⟩
    · cases e'
    · obtain ⟨a, ho, e1, z⟩ := r.own j o e
      exact ⟨a, ho, by rw [List.getElem?_set_ne (fun z => hj z.symm)]; exact e1, z⟩
  · rcases get_set e1 with ⟨_, e', _⟩ | ⟨hj, e1⟩
    · cases e'
    rcases get_set e2 with ⟨_, e', _⟩ | ⟨hk, e2⟩
    · cases e'
    rw [List.getElem?_set_ne (fun z => hj z.symm)] at e3
    rw [List.getElem?_set_ne (fun z => hk z.symm)] at e4
    exact r.dis j k o o' a e1 e2 e3 e4
theorem g_name (i : Nat) : GOk K cad (gName i) (gN i) [i] := by
  intro F ι μ ρ ρ' σ H d v Q r q e k
  cases e
  refine k _ (r.set1 q) (List.length_set ..) (fun j hj => List.getElem?_set_ne (fun z => hj (by simp [z]))) fun j o e => ?_
  rcases get_set e with ⟨_, e', _⟩ | ⟨hj, e⟩
  · cases e'
  · exact ⟨e, List.getElem?_set_ne (fun z => hj z.symm)⟩
theorem gs_names : ∀ (is : List Nat) {F : Hp} {ι : List Addr} {μ : Store} {ρ : Ev} {σ : L2.St} {H : Hp} {ds : List D} {vs : List V} {Q : L2.St → Hp → Prop}, R K cad F ι μ ρ σ H → VRs K cad ι F ds vs → ds.length = is.length →
    (∀ σ', R K cad F ι μ (setsE is ds ρ) σ' H → σ'.length = σ.length → (∀ j, j ∉ is → σ'[j]? = σ[j]?) → (∀ (i : Nat) (o : Ob), (setsE is ds ρ)[i]? = some (.own o) → ρ[i]? = some (.own o) ∧ σ'[i]? = σ[i]?) → Q σ' H) → gNames is vs σ H Q
  | [], F, ι, μ, ρ, σ, H, ds, vs, Q, r, q, hl, k => by
    have : ds = [] := List.eq_nil_of_length_eq_zero hl
    subst this
    exact ⟨VRs.of_nil q, k σ r rfl (fun _ _ => rfl) fun _ _ e => ⟨e, rfl⟩⟩
  | i :: is, F, ι, μ, ρ, σ, H, [], vs, Q, r, q, hl, k => by cases hl
  | i :: is, F, ι, μ, ρ, σ, H, d :: ds, vs, Q, r, q, hl, k => by
    obtain ⟨v, vs, rfl, q1, q2⟩ := q
    refine ⟨v, vs, rfl, ?_⟩
    refine gs_names is (r.set1 (i := i) q1) q2 (by simpa using hl) fun σ' r' h0 h1 h2 => k σ' r' (h0.trans (List.length_set ..)) (fun j hj => ?_) fun j o e => ?_
    · simp only [List.mem_cons, not_or] at hj
      rw [h1 j hj.2]
      exact List.getElem?_set_ne (fun z => hj.1 z.symm)
    · obtain ⟨e1, e2⟩ := h2 j o e
      rcases get_set e1 with ⟨_, e', _⟩ | ⟨hj, e1⟩
      · cases e'
      · exact ⟨e1, e2.trans (List.getElem?_set_ne (fun z => hj z.symm))⟩
theorem g_tup {n : Nat} (is : List Nat) (hn : is.length = n) : GOk K cad (gTup K n (gNames is)) (gT is) is := by
  intro F ι μ ρ ρ' σ H d v Q r q e k
  unfold gT at e
  split at e
  · next ds =>
    split at e
    · next hl =>
      cases e
      obtain ⟨a, vs, rfl, e1, rv⟩ := VR.tup_.mp q
      exact ⟨a, vs, rfl, SqT.sub r.rs e1, by rw [← rv.len, hl, hn], gs_names is r rv hl k⟩
    · cases e
  · cases e
theorem R0.of_g {E : Ent} {F : Hp} {ι : List Addr} {μ : Store} {ρ ρ' : Ev} {σ σ' : L2.St} {H : Hp} (r : R0 K cad E F ι μ ρ σ H) (r' : R K cad F ι μ ρ' σ' H) (h : ∀ (i : Nat) (o : Ob), ρ'[i]? = some (.own o) → ρ[i]? = some (.own o) ∧ σ'[i]? = σ[i]?) : R0 K cad E F ι μ ρ' σ' H :=
  ⟨r', r.x, fun i o a e1 e2 => by
    obtain ⟨e3, e4⟩ := h i o e1
    rw [e4] at e2
    exact r.fr i o a e3 e2⟩
end
end DL

namespace DL
open PySem PySem.Spec PyProof.Rows L2

/-! ### what is walked -/
structure ItR (K : PySem.W.Frag) (cad : Str → Addr) (F : Hp) (ι : List Addr) (J : It) (xs : List D) : Prop where
  go : ∀ {i : Nat} {F1 : Hp} {ι1 : List Addr} {μ1 : Store} {H1 : Hp}, Same F F1 → ι <+: ι1 → RS K cad F1 ι1 μ1 H1 → i < xs.length → J.go i H1
  yl : ∀ {i : Nat} {d : D} {F1 : Hp} {ι1 : List Addr} {μ1 : Store} {H1 : Hp} {x : V} {H2 : Hp}, Same F F1 → ι <+: ι1 → RS K cad F1 ι1 μ1 H1 → xs[i]? = some d → J.yld i H1 x H2 → ∃ F2, Ext F1 ι1 H1 F2 ι1 H2 ∧ RS K cad F2 ι1 μ1 H2 ∧ VR K cad ι1 F2 d x
  st : ∀ {i : Nat} {F1 : Hp} {ι1 : List Addr} {μ1 : Store} {H1 : Hp}, Same F F1 → ι <+: ι1 → RS K cad F1 ι1 μ1 H1 → xs.length ≤ i → J.stop i H1
abbrev MI := Ev → Store → Res (List D)
def rlI (K : PySem.W.Frag) (cad : Str → Addr) : Rl (List D) It := ⟨fun _ F ι _ xs J => ItR K cad F ι J xs, fun _ q => q⟩
def tI (K : PySem.W.Frag) (cad : Str → Addr) (W : WX) (m : MI) : TI := fun σ H Q => ∃ F ι μ ρ, R K cad F ι μ ρ σ H ∧ Post K cad W (rlI K cad) F ι H σ (m ρ μ) Q
theorem pi_imp {X : Cx} {tg e : Expr} {t t' : TI} (h : PI X tg e t) (k : ∀ σ H Q, t' σ H Q → t σ H Q) : PI X tg e t' := ⟨fun pins s σ H Q I q => h.run pins s σ H Q I (k σ H Q q)⟩
theorem pi_or {X : Cx} {tg e : Expr} {t t' : TI} (h : PI X tg e t) (h' : PI X tg e t') : PI X tg e (fun σ H Q => t σ H Q ∨ t' σ H Q) := ⟨fun pins s σ H Q I q => q.elim (h.run pins s σ H Q I) (h'.run pins s σ H Q I)⟩
def keyD : Key → D
  | .inl i => .int i
  | .inr s => .str s
def D.items : D → Option (List D)
  | .lst ds => some ds
  | .tup ds => some ds
  | .scr ns => some (ns.map .int)
  | .dK ks vs => if ks.length = vs.length then some (ks.map keyD) else none
  | .dT ks vs => if ks.length = vs.length then some (ks.map fun k => .tup (k.map keyD)) else none
  | _ => none
def iSeq (m : ME) : MI := fun ρ μ => (toD m ρ μ).bind fun d μ1 => Res.of d.items μ1
section
variable {K : PySem.W.Frag} {cad : Str → Addr} {F F' H H' : Hp} {ι ι' : List Addr} {μ : Store}
theorem VR.keyD {k : Key} : VR K cad ι F (keyD k) (kV k) := by
  cases k with
  | inl i => exact VR.int_.mpr rfl
  | inr s => exact VR.str_.mpr rfl
theorem VRs.keyD : ∀ {k : List Key}, VRs K cad ι F (k.map DL.keyD) (k.map kV)
  | [] => rfl
  | _ :: k => ⟨_, _, rfl, VR.keyD, VRs.keyD (k := k)⟩
theorem it_list {a : Addr} {vs : List V} {ds : List D} (e : F a = some (.lst vs)) (r : VRs K cad ι F ds vs) : ItR K cad F ι (Itl K a) ds := by
  refine ⟨fun {i F1 ι1 μ1 H1} hf hi rs hl => ?_, fun {i d F1 ι1 μ1 H1 x H2} hf hi rs ed y => ?_, fun {i F1 ι1 μ1 H1} hf hi rs hl => ?_⟩
  · obtain ⟨v, ev, _⟩ := r.get (List.getElem?_eq_getElem hl)
    exact ⟨vs, v, SqL.of (rs.sub _ _ (hf _ _ e)), ev⟩
  · obtain ⟨rfl, y⟩ := y
    obtain ⟨v, ev, q⟩ := r.get ed
    have := y vs (SqL.of (rs.sub _ _ (hf _ _ e)))
    rw [ev] at this
    cases this
    exact ⟨F1, Ext.refl _ _ _, rs, VR.mono hf hi _ _ q⟩
  · exact ⟨vs, SqL.of (rs.sub _ _ (hf _ _ e)), by rw [← r.len]; exact hl⟩
theorem it_tup {a : Addr} {vs : List V} {ds : List D} (e : F a = some (.tup vs)) (r : VRs K cad ι F ds vs) : ItR K cad F ι (Itt K a) ds := by
  refine ⟨fun {i F1 ι1 μ1 H1} hf hi rs hl => ?_, fun {i d F1 ι1 μ1 H1 x H2} hf hi rs ed y => ?_, fun {i F1 ι1 μ1 H1} hf hi rs hl => ?_⟩
  · obtain ⟨v, ev, _⟩ := r.get (List.getElem?_eq_getElem hl)
    exact ⟨vs, v, SqT.of (rs.sub _ _ (hf _ _ e)), ev⟩
  · obtain ⟨rfl, y⟩ := y
    obtain ⟨v, ev, q⟩ := r.get ed
    have := y vs (SqT.of (rs.sub _ _ (hf _ _ e)))
    rw [ev] at this
    cases this
    exact ⟨F1, Ext.refl _ _ _, rs, VR.mono hf hi _ _ q⟩
  · exact ⟨vs, SqT.of (rs.sub _ _ (hf _ _ e)), by rw [← r.len]; exact hl⟩
theorem it_scr {a : Addr} {ns : List Int} (e : SqL K F a (ns.map V.int)) : ItR K cad F ι (Itl K a) (ns.map .int) := by
  refine ⟨fun {i F1 ι1 μ1 H1} hf hi rs hl => ?_, fun {i d F1 ι1 μ1 H1 x H2} hf hi rs ed y => ?_, fun {i F1 ι1 μ1 H1} hf hi rs hl => ?_⟩
  · rw [List.length_map] at hl
    exact ⟨_, .int ns[i], rs.sub.seq (hf.seq e), by rw [List.getElem?_map, List.getElem?_eq_getElem hl]; rfl⟩
  · obtain ⟨rfl, y⟩ := y
    have := y _ (rs.sub.seq (hf.seq e))
    rw [List.getElem?_map] at ed this
    cases c : ns[i]? with
    | none => rw [c] at ed; cases ed
    | some n =>
      rw [c] at ed this
      cases ed
      cases this
      exact ⟨F1, Ext.refl _ _ _, rs, VR.int_.mpr rfl⟩
  · rw [List.length_map] at hl
    exact ⟨_, rs.sub.seq (hf.seq e), by rw [List.length_map]; exact hl⟩
/-- a tuple that is tracked may be known to F -/
theorem know_tup (rs : RS K cad F ι μ H) {q : Addr} {vs : List V} (e : H q = some (.tup vs)) : ∃ F2, Ext F ι H F2 ι H ∧ RS K cad F2 ι μ H ∧ F2 q = some (.tup vs) ∧ Same F F2 := by
  cases c : F q with
  | some o =>
    have := rs.sub _ _ c
    rw [e] at this
    cases this
    exact ⟨F, Ext.refl _ _ _, rs, c, Same.refl _⟩
  | none =>
    have hi : q ∉ ι := fun h => by
      obtain ⟨n, hn, e1⟩ := List.getElem_of_mem h
      have hm : n < μ.length := by rw [← rs.len]; exact hn
      obtain ⟨ho, e2, z⟩ := rs.obj n μ[n] q (List.getElem?_eq_getElem hm) (by rw [List.getElem?_eq_getElem hn, e1])
      rw [e] at e2
      cases e2
      exact z.notup
    refine ⟨upd F q (.tup vs), ⟨same_new c, List.prefix_rfl, fun _ _ _ h => h, fun _ h => h, fun a h1 h2 => ?_, fun a h1 h2 => absurd h1 h2⟩, rs.freeze e hi c, upd_same, same_new c⟩
    by_cases hq : a = q
    · rw [hq]
      exact ⟨hi, .inr ⟨vs, e⟩⟩
    · rw [upd_ne hq] at h2
      exact absurd h1 h2
theorem it_dK {a : Addr} {o : Obj} {ks : List Key} {vs : List V} (e : F a = some (.frz o (.dK (ks.zip vs)))) (hl : ks.length = vs.length) : ItR K cad F ι (Itk a o (ks.zip vs)) (ks.map keyD) := by
  have zl : (ks.zip vs).length = ks.length := by rw [List.length_zip, ← hl, Nat.min_self]
  refine ⟨fun {i F1 ι1 μ1 H1} hf hi rs h => ?_, fun {i d F1 ι1 μ1 H1 x H2} hf hi rs ed y => ?_, fun {i F1 ι1 μ1 H1} hf hi rs h => ?_⟩
  · rw [List.length_map] at h
    exact ⟨rs.sub _ _ (hf _ _ e), by rw [zl]; exact h⟩
  · obtain ⟨rfl, k, v, e1, rfl⟩ := y
    have e2 : ks[i]? = some k := by
      have := congrArg (Option.map Prod.fst) e1
      rw [← List.getElem?_map, List.map_fst_zip (by omega)] at this
      exact this
    rw [List.getElem?_map, e2] at ed
    cases ed
    exact ⟨F1, Ext.refl _ _ _, rs, VR.keyD⟩
  · rw [List.length_map] at h
    exact ⟨rs.sub _ _ (hf _ _ e), by rw [zl]; exact h⟩
theorem it_dT {a : Addr} {o : Obj} {ks : List (List Key)} {vs : List V} (e : F a = some (.frz o (.dT (ks.zip vs)))) (hl : ks.length = vs.length) : ItR K cad F ι (Itkt a o (ks.zip vs)) (ks.map fun k => .tup (k.map keyD)) := by
  have zl : (ks.zip vs).length = ks.length := by rw [List.length_zip, ← hl, Nat.min_self]
  refine ⟨fun {i F1 ι1 μ1 H1} hf hi rs h => ?_, fun {i d F1 ι1 μ1 H1 x H2} hf hi rs ed y => ?_, fun {i F1 ι1 μ1 H1} hf hi rs h => ?_⟩
  · rw [List.length_map] at h
    exact ⟨rs.sub _ _ (hf _ _ e), by rw [zl]; exact h⟩
  · obtain ⟨rfl, k, v, q, e1, rfl, eq⟩ := y
    have e2 : ks[i]? = some k := by
      have := congrArg (Option.map Prod.fst) e1
      rw [← List.getElem?_map, List.map_fst_zip (by omega)] at this
      exact this
    rw [List.getElem?_map, e2] at ed
    cases ed
    obtain ⟨F2, x2, r2, e3, _⟩ := know_tup rs eq
    exact ⟨F2, x2, r2, VR.tup_.mpr ⟨q, _, rfl, e3, VRs.keyD⟩⟩
  · rw [List.length_map] at h
    exact ⟨rs.sub _ _ (hf _ _ e), by rw [zl]; exact h⟩
theorem it_range {lo : Int} {n : Nat} : ItR K cad F ι (Itr lo n) ((List.range n).map fun i : Nat => .int (lo + i)) := by
  refine ⟨fun {i F1 ι1 μ1 H1} hf hi rs h => ?_, fun {i d F1 ι1 μ1 H1 x H2} hf hi rs ed y => ?_, fun {i F1 ι1 μ1 H1} hf hi rs h => ?_⟩
  · rw [List.length_map, List.length_range] at h
    exact h
  · obtain ⟨rfl, rfl⟩ := y
    rw [List.getElem?_map] at ed
    cases c : (List.range n)[i]? with
    | none => rw [c] at ed; cases ed
    | some j =>
      rw [c] at ed
      cases ed
      have : j = i := by
        have h1 := (List.getElem?_eq_some_iff.mp c).1
        rw [List.getElem?_eq_getElem h1, List.getElem_range] at c
        exact (Option.some.inj c).symm
      subst this
      exact ⟨F1, Ext.refl _ _ _, rs, VR.int_.mpr rfl⟩
  · rw [List.length_map, List.length_range] at h
    exact h
/-- enumerate -/
def enumD (ds : List D) : List D := ds.zipIdx.map fun p => .tup [.int (p.2 : Nat), p.1]
theorem it_enum {a : Addr} {vs : List V} {ds : List D} (e : F a = some (.lst vs)) (r : VRs K cad ι F ds vs) : ItR K cad F ι (Ite K a) (enumD ds) := by
  have ln : (enumD ds).length = ds.length := by unfold enumD; rw [List.length_map, List.length_zipIdx]
  refine ⟨fun {i F1 ι1 μ1 H1} hf hi rs hl => ?_, fun {i d F1 ι1 μ1 H1 x H2} hf hi rs ed y => ?_, fun {i F1 ι1 μ1 H1} hf hi rs hl => ?_⟩
  · rw [ln] at hl
    obtain ⟨v, ev, _⟩ := r.get (List.getElem?_eq_getElem hl)
    exact ⟨vs, v, SqL.of (rs.sub _ _ (hf _ _ e)), ev⟩
  · obtain ⟨T, x1, rfl, nT, rfl, y⟩ := y
    have hx := y vs (SqL.of (rs.sub _ _ (hf _ _ e)))
    obtain ⟨d1, e1, q1⟩ := r.got hx
    have ed : ((ds.zipIdx.map fun p => DL.D.tup [.int (p.2 : Nat), p.1]))[i]? = some d := ed
    rw [List.getElem?_map, List.getElem?_zipIdx, e1] at ed
    simp at ed
    subst ed
    refine ⟨_, Ext.newF rs nT, rs.newF nT, VR.tup_.mpr ⟨T, _, rfl, upd_same, ?_⟩⟩
    exact VRs.cons (VR.int_.mpr rfl) (VRs.cons (VR.mono (same_new (rs.fresh nT).1) List.prefix_rfl _ _ (VR.mono hf hi _ _ q1)) VRs.nil)
  · rw [ln] at hl
    exact ⟨vs, SqL.of (rs.sub _ _ (hf _ _ e)), by rw [← r.len]; exact hl⟩
theorem it_rev {a : Addr} {vs : List V} {ds : List D} (e : F a = some (.lst vs)) (r : VRs K cad ι F ds vs) : ItR K cad F ι (Itv K a vs.length) ds.reverse := by
  have ln := r.len
  refine ⟨fun {i F1 ι1 μ1 H1} hf hi rs hl => ?_, fun {i d F1 ι1 μ1 H1 x H2} hf hi rs ed y => ?_, fun {i F1 ι1 μ1 H1} hf hi rs hl => ?_⟩
  · rw [List.length_reverse, ln] at hl
    have : vs.length - 1 - i < vs.length := by omega
    exact ⟨hl, vs, vs[vs.length - 1 - i], SqL.of (rs.sub _ _ (hf _ _ e)), List.getElem?_eq_getElem this⟩
  · obtain ⟨rfl, y⟩ := y
    have hx := y vs (SqL.of (rs.sub _ _ (hf _ _ e)))
    obtain ⟨d1, e1, q1⟩ := r.got hx
    have hl : i < ds.length := by
      have := (List.getElem?_eq_some_iff.mp ed).1
      rwa [List.length_reverse] at this
    rw [List.getElem?_reverse hl, ln, e1] at ed
    cases ed
    exact ⟨F1, Ext.refl _ _ _, rs, VR.mono hf hi _ _ q1⟩
  · rw [List.length_reverse, ln] at hl
    exact hl
end
section
variable {X : Cx} {cad : Str → Addr} {W : WX} {pos p tpos : Pos} {e tg : Expr} {me : ME}
theorem di_seq (he : PE X e (tE X.K cad W me)) : PI X tg e (tI X.K cad W (iSeq me)) := by
  refine pi_imp (pi_or (pi_list (de_toD he)) (pi_or (pi_tup (de_toD he)) (pi_keys (de_toD he)))) fun σ H Q ⟨F, ι, μ, ρ, r, q⟩ => ?_
  unfold iSeq at q
  cases c : toD me ρ μ with
  | stk => rw [c] at q; exact q.elim
  | exc x μ1 => rw [c] at q; exact .inl ⟨F, ι, μ, ρ, r, by rw [c]; exact q⟩
  | ok d μ1 =>
    rw [c] at q
    obtain ⟨xs, ei, k⟩ := Post.of q
    cases d with
    | lst ds =>
      cases ei
      refine .inl ⟨F, ι, μ, ρ, r, ?_⟩
      rw [c]
      intro F1 ι1 H1 v x1 s1 q1
      obtain ⟨a, vs, rfl, e1, rv⟩ := VR.lst_.mp (show VR X.K cad ι1 F1 (.lst xs) v from q1)
      exact ⟨a, rfl, ⟨vs, SqL.of (s1.sub _ _ e1)⟩, k F1 ι1 H1 _ x1 s1 (it_list e1 rv)⟩
    | scr ns =>
      cases ei
      refine .inl ⟨F, ι, μ, ρ, r, ?_⟩
      rw [c]
      intro F1 ι1 H1 v x1 s1 q1
      obtain ⟨a, rfl, e1⟩ := VR.scr_.mp (show VR X.K cad ι1 F1 (.scr ns) v from q1)
      exact ⟨a, rfl, ⟨_, s1.sub.seq e1⟩, k F1 ι1 H1 _ x1 s1 (it_scr e1)⟩
    | tup ds =>
      cases ei
      refine .inr (.inl ⟨F, ι, μ, ρ, r, ?_⟩)
      rw [c]
      intro F1 ι1 H1 v x1 s1 q1
      obtain ⟨a, vs, rfl, e1, rv⟩ := VR.tup_.mp (show VR X.K cad ι1 F1 (.tup xs) v from q1)
      exact ⟨a, rfl, ⟨vs, SqT.of (s1.sub _ _ e1)⟩, k F1 ι1 H1 _ x1 s1 (it_tup e1 rv)⟩
    | dK ks ds =>
      have ei : (if ks.length = ds.length then some (ks.map keyD) else none) = some xs := ei
      by_cases hl : ks.length = ds.length
      · rw [if_pos hl] at ei
        cases ei
        refine .inr (.inr ⟨F, ι, μ, ρ, r, ?_⟩)
        rw [c]
        intro F1 ι1 H1 v x1 s1 q1
        have q1 : VR X.K cad ι1 F1 (.dK ks ds) v := q1
        unfold VR at q1
        obtain ⟨a, o, vs, rfl, e1, l, rv⟩ := q1
        exact ⟨a, o, rfl, .inl ⟨_, s1.sub _ _ e1, k F1 ι1 H1 _ x1 s1 (it_dK e1 l)⟩⟩
      · rw [if_neg hl] at ei
        cases ei
    | dT ks ds =>
      have ei : (if ks.length = ds.length then some (ks.map fun k => .tup (k.map keyD)) else none) = some xs := ei
      by_cases hl : ks.length = ds.length
      · rw [if_pos hl] at ei
        cases ei
        refine .inr (.inr ⟨F, ι, μ, ρ, r, ?_⟩)
        rw [c]
        intro F1 ι1 H1 v x1 s1 q1
        have q1 : VR X.K cad ι1 F1 (.dT ks ds) v := q1
        unfold VR at q1
        obtain ⟨a, o, vs, rfl, e1, l, rv⟩ := q1
        exact ⟨a, o, rfl, .inr ⟨_, s1.sub _ _ e1, k F1 ι1 H1 _ x1 s1 (it_dT e1 l)⟩⟩
      · rw [if_neg hl] at ei
        cases ei
    | _ => cases ei
/-- range(n), range(a, b) -/
def rangeD (lo hi : Int) : Option (List D) := if -4611686018427387904 ≤ lo ∧ lo < 4611686018427387904 ∧ -4611686018427387904 ≤ hi ∧ hi < 4611686018427387904 then some ((List.range (hi - lo).toNat).map fun i : Nat => .int (lo + i)) else none
def iRange1 (m : ME) : MI := fun ρ μ => (toD m ρ μ).bind fun d μ1 => match d with
  | .int n => Res.of (rangeD 0 n) μ1
  | _ => .stk
def iRange2 (a b : ME) : MI := fun ρ μ => (toD a ρ μ).bind fun d μ1 => (toD b ρ μ1).bind fun d' μ2 => match d, d' with
  | .int i, .int j => Res.of (rangeD i j) μ2
  | _, _ => .stk
theorem di_range1 (hg : Gl X "range") (hm : X.mg "range" = none) (he : PE X e (tE X.K cad W me)) (hs : starEach [e] X.env = [(false, eval e X.env)] := by rfl) : PI X tg (.Call (.Name "range" p) [e] [] pos) (tI X.K cad W (iRange1 me)) := by
  refine pi_imp (pi_range1 hg hm (pa_cons (de_toD he) pa_nil (by rw [hs]; rfl)) hs) fun σ H Q ⟨F, ι, μ, ρ, r, q⟩ => ?_
  refine ⟨F, ι, μ, ρ, r, q.bind fun d μ1 F1 ι1 H1 v x1 s1 q1 h1 => ?_⟩
  cases d with
  | int n =>
    obtain ⟨xs, ei, k⟩ := Post.of h1
    unfold rangeD at ei
    split at ei
    · next hb =>
      cases ei
      refine ⟨n, by rw [VR.int_.mp (show VR X.K cad ι1 F1 (.int n) v from q1)], by omega, by omega, ?_⟩
      have := k F1 ι1 H1 _ (Ext.refl _ _ _) s1 (it_range (K := X.K) (cad := cad) (F := F1) (ι := ι1) (lo := 0) (n := (n - 0).toNat))
      rwa [Int.sub_zero] at this
    · cases ei
  | _ => exact h1.elim
theorem di_range2 {e2 : Expr} {m2 : ME} (hg : Gl X "range") (hm : X.mg "range" = none) (he : PE X e (tE X.K cad W me)) (he2 : PE X e2 (tE X.K cad W m2)) (hs : starEach [e, e2] X.env = [(false, eval e X.env), (false, eval e2 X.env)] := by rfl) (hs2 : starEach [e2] X.env = [(false, eval e2 X.env)] := by rfl) :
    PI X tg (.Call (.Name "range" p) [e, e2] [] pos) (tI X.K cad W (iRange2 me m2)) := by
  refine pi_imp (pi_range2 hg hm (pa_cons (de_toD he) (pa_cons (de_toD he2) pa_nil (by rw [hs2]; rfl)) (by rw [hs, hs2])) hs hs2) fun σ H Q ⟨F, ι, μ, ρ, r, q⟩ => ?_
  refine ⟨F, ι, μ, ρ, r, q.bind fun d μ1 F1 ι1 H1 v x1 s1 q1 h1 => ?_⟩
  refine ⟨F1, ι1, μ1, ρ, r.ext x1 s1, h1.bind fun d2 μ2 F2 ι2 H2 v2 x2 s2 q2 h2 => ?_⟩
  cases d with
  | int n =>
    cases d2 with
    | int m =>
      obtain ⟨xs, ei, k⟩ := Post.of h2
      unfold rangeD at ei
      split at ei
      · next hb =>
        cases ei
        refine ⟨n, m, by rw [VR.int_.mp (show VR X.K cad ι1 F1 (.int n) v from q1), VR.int_.mp (show VR X.K cad ι2 F2 (.int m) v2 from q2)], ⟨by omega, by omega, by omega, by omega⟩, ?_⟩
        exact k F2 ι2 H2 _ (Ext.refl _ _ _) s2 it_range
      · cases ei
    | _ => exact h2.elim
  | _ => exact h2.elim
def iEnumD (m : ME) : MI := fun ρ μ => (toD m ρ μ).bind fun d μ1 => match d with
  | .lst ds => .ok (enumD ds) μ1
  | _ => .stk
def iRevD (m : ME) : MI := fun ρ μ => (toD m ρ μ).bind fun d μ1 => match d with
  | .lst ds => .ok ds.reverse μ1
  | _ => .stk
theorem di_enum {elts : List Expr} {kk : Nat} (hg : Gl X "enumerate") (hm : X.mg "enumerate" = none) (he : PE X e (tE X.K cad W me)) (hs : starEach [e] X.env = [(false, eval e X.env)] := by rfl) : PI X (.Tuple elts kk tpos) (.Call (.Name "enumerate" p) [e] [] pos) (tI X.K cad W (iEnumD me)) := by
  refine pi_imp (pi_enum hg hm (pa_cons (de_toD he) pa_nil (by rw [hs]; rfl)) hs) fun σ H Q ⟨F, ι, μ, ρ, r, q⟩ => ?_
  refine ⟨F, ι, μ, ρ, r, q.bind fun d μ1 F1 ι1 H1 v x1 s1 q1 h1 => ?_⟩
  cases d with
  | lst ds =>
    obtain ⟨a, vs, rfl, e1, rv⟩ := VR.lst_.mp (show VR X.K cad ι1 F1 (.lst ds) v from q1)
    exact ⟨a, vs, rfl, SqL.of (s1.sub _ _ e1), h1 F1 ι1 H1 _ (Ext.refl _ _ _) s1 (it_enum e1 rv)⟩
  | _ => exact h1.elim
theorem di_rev (hg : Gl X "reversed") (hm : X.mg "reversed" = none) (he : PE X e (tE X.K cad W me)) (hs : starEach [e] X.env = [(false, eval e X.env)] := by rfl) : PI X tg (.Call (.Name "reversed" p) [e] [] pos) (tI X.K cad W (iRevD me)) := by
  refine pi_imp (pi_reversed hg hm (pa_cons (de_toD he) pa_nil (by rw [hs]; rfl)) hs) fun σ H Q ⟨F, ι, μ, ρ, r, q⟩ => ?_
  refine ⟨F, ι, μ, ρ, r, q.bind fun d μ1 F1 ι1 H1 v x1 s1 q1 h1 => ?_⟩
  cases d with
  | lst ds =>
    obtain ⟨a, vs, rfl, e1, rv⟩ := VR.lst_.mp (show VR X.K cad ι1 F1 (.lst ds) v from q1)
    exact ⟨a, vs, rfl, SqL.of (s1.sub _ _ e1), h1 F1 ι1 H1 _ (Ext.refl _ _ _) s1 (it_rev e1 rv)⟩
  | _ => exact h1.elim
end
end DL

namespace DL
open PySem PySem.Spec PyProof.Rows L2

/-! ### for -/
def loopR (r : Res (Fl × Ev)) (k : MS) : Res (Fl × Ev) := match r with
  | .ok (.nx, ρ2) μ2 => k ρ2 μ2
  | .ok (.ct, ρ2) μ2 => k ρ2 μ2
  | .ok (.bk, ρ2) μ2 => .ok (.nx, ρ2) μ2
  | r => r
def forL (g : D → Ev → Option Ev) (b : MS) : List D → MS
  | [], ρ, μ => .ok (.nx, ρ) μ
  | x :: xs, ρ, μ => match g x ρ with
    | none => .stk
    | some ρ1 => loopR (b ρ1 μ) (forL g b xs)
def mFor (i : MI) (g : D → Ev → Option Ev) (b : MS) : MS := fun ρ μ => (i ρ μ).bind fun xs μ1 => forL g b xs ρ μ1
/-- no wish at all -/
abbrev WT : WX := fun _ _ _ _ => True
section
variable {X : Cx} {cad : Str → Addr} {W : WX} {E : Ent} {pos : Pos} {tg iter : Expr} {body : List Stmt} {mi : MI} {t : TG} {g : D → Ev → Option Ev} {b : MS} {ws : List Nat}
theorem ds_for (hp : PassesOwn (model X.prog X.w) X.A X.env X.xe) (hc : X.calm = true) (hi : PI X tg iter (tI X.K cad W mi)) (hg : PG X tg t) (gk : GOk X.K cad t g ws) (hb : PSs X body (tS X.K cad W E b)) (hs : ∀ x, foldedSetIterable iter X.env x = pure x := by intro _; rfl) :
    PS X (.For tg iter body [] pos) (tS X.K cad W E (mFor mi g b)) := by
  refine ps_imp (ps_for hp hc hi hg hb hs) fun D σ H ⟨F, ι, μ, ρ, r, h⟩ => ?_
  refine ⟨F, ι, μ, ρ, r.r, h.bind r.x fun xs μ1 F1 ι1 H1 J _ x1 s1 q1 h1 => ?_⟩
  have q1 : ItR X.K cad F1 ι1 J xs := q1
  have h1 : PostS X.K cad W E F1 ι1 (forL g b xs ρ μ1) D := PostS.ext x1.f x1.i h1
  let P : Nat → L2.St → Hp → Prop := fun i σ H => ∃ F2 ι2 μ2 ρ2, Same F1 F2 ∧ ι1 <+: ι2 ∧ R0 X.K cad E F2 ι2 μ2 ρ2 σ H ∧ PostS X.K cad W E F1 ι1 (forL g b (xs.drop i) ρ2 μ2) D
  refine ⟨fun i m σ H => i ≤ xs.length ∧ m = xs.length - i ∧ P i σ H, ⟨xs.length, Nat.zero_le _, rfl, F1, ι1, μ1, ρ, Same.refl _, List.prefix_rfl, r.ext x1 s1, h1⟩, ?_⟩
  rintro i m σ2 H2 ⟨hl, rfl, F2, ι2, μ2, ρ2, hf, hi2, r2, h2⟩
  by_cases hlt : i < xs.length
  · refine .inr ⟨q1.go hf hi2 r2.r.rs hlt, P (i + 1), fun σ' H' p => ⟨xs.length - (i + 1), by omega, hlt, rfl, p⟩, fun x H3 y => ?_⟩
    obtain ⟨F3, x3, s3, v3⟩ := q1.yl hf hi2 r2.r.rs (List.getElem?_eq_getElem hlt) y
    have r3 := r2.ext x3 s3
    have ed : xs.drop i = xs[i] :: xs.drop (i + 1) := List.drop_eq_getElem_cons hlt
    rw [ed] at h2
    unfold forL at h2
    unfold loopR at h2
    cases cg : g xs[i] ρ2 with
    | none => rw [cg] at h2; exact h2.elim
    | some ρ4 =>
      rw [cg] at h2
      dsimp only at h2
      refine gk r3.r v3 cg fun σ4 r4 _ _ h4 => ?_
      have r4 := r3.of_g r4 h4
      refine ⟨F3, ι2, μ2, ρ4, r4, ?_⟩
      have hf3 : Same F1 F3 := hf.trans x3.f
      have hi3 : ι1 <+: ι2 := hi2
      cases cb : b ρ4 μ2 with
      | stk => rw [cb] at h2; exact h2
      | exc x μ5 => rw [cb] at h2; exact h2
      | ok p μ5 =>
        rw [cb] at h2
        obtain ⟨f, ρ5⟩ := p
        cases f with
        | nx => exact fun F5 ι5 σ5 H5 a5 b5 r5 => ⟨F5, ι5, μ5, ρ5, hf3.trans a5, hi3.trans b5, r5, h2⟩
        | ct => exact fun F5 ι5 σ5 H5 a5 b5 r5 => ⟨F5, ι5, μ5, ρ5, hf3.trans a5, hi3.trans b5, r5, h2⟩
        | bk => exact fun F5 ι5 σ5 H5 a5 b5 r5 => h2 F5 ι5 σ5 H5 (hf3.trans a5) (hi3.trans b5) r5
        | rt rv => exact h2
  · have e : i = xs.length := by omega
    subst e
    rw [List.drop_length] at h2
    exact .inl ⟨q1.st hf hi2 r2.r.rs (Nat.le_refl _), h2 F2 ι2 σ2 H2 hf hi2 r2⟩
end

/-! ### while -/
def whileL (c : MT) (b : MS) : Nat → MS
  | 0, _, _ => .stk
  | n + 1, ρ, μ => (c ρ μ).bind fun k μ1 => if k = true then loopR (b ρ μ1) (whileL c b n) else .ok (.nx, ρ) μ1
section
variable {X : Cx} {cad : Str → Addr} {W : WX} {E : Ent} {pos : Pos} {c : Expr} {body : List Stmt} {mc : MT} {b : MS} {n : Nat}
theorem ds_while (hp : PassesOwn (model X.prog X.w) X.A X.env X.xe) (hc : PT X c (tT X.K cad W mc)) (hb : PSs X body (tS X.K cad W E b)) : PS X (.While c body [] pos) (tS X.K cad W E (whileL mc b n)) := by
  refine ps_imp (ps_while hp hc hb) fun D σ H ⟨F, ι, μ, ρ, r, h⟩ => ?_
  refine ⟨fun m σ H => ∃ F2 ι2 μ2 ρ2, Same F F2 ∧ ι <+: ι2 ∧ R0 X.K cad E F2 ι2 μ2 ρ2 σ H ∧ PostS X.K cad W E F ι (whileL mc b m ρ2 μ2) D, ⟨n, F, ι, μ, ρ, Same.refl _, List.prefix_rfl, r, h⟩, ?_⟩
  rintro m σ2 H2 ⟨F2, ι2, μ2, ρ2, hf, hi, r2, h2⟩
  cases m with
  | zero => exact h2.elim
  | succ m =>
    unfold whileL at h2
    unfold loopR at h2
    refine ⟨F2, ι2, μ2, ρ2, r2.r, h2.bind r2.x fun k μ3 F3 ι3 H3 k' _ x3 s3 q3 h3 => ?_⟩
    have q3 : k = k' := q3
    subst q3
    have r3 := r2.ext x3 s3
    have hf3 : Same F F3 := hf.trans x3.f
    have hi3 : ι <+: ι3 := hi.trans x3.i
    cases k with
    | false =>
      rw [if_neg Bool.false_ne_true] at h3 ⊢
      exact h3 F3 ι3 σ2 H3 hf3 hi3 r3
    | true =>
      rw [if_pos rfl] at h3 ⊢
      refine ⟨fun σ' H' => ∃ F2 ι2 μ2 ρ2, Same F F2 ∧ ι <+: ι2 ∧ R0 X.K cad E F2 ι2 μ2 ρ2 σ' H' ∧ PostS X.K cad W E F ι (whileL mc b m ρ2 μ2) D, fun σ' H' p => ⟨m, Nat.lt_succ_self _, p⟩, F3, ι3, μ3, ρ2, r3, ?_⟩
      cases cb : b ρ2 μ3 with
      | stk => rw [cb] at h3; exact h3
      | exc x μ5 => rw [cb] at h3; exact h3
      | ok p μ5 =>
        rw [cb] at h3
        obtain ⟨f, ρ5⟩ := p
        cases f with
        | nx => exact fun F5 ι5 σ5 H5 a5 b5 r5 => ⟨F5, ι5, μ5, ρ5, hf3.trans a5, hi3.trans b5, r5, h3⟩
        | ct => exact fun F5 ι5 σ5 H5 a5 b5 r5 => ⟨F5, ι5, μ5, ρ5, hf3.trans a5, hi3.trans b5, r5, h3⟩
        | bk => exact fun F5 ι5 σ5 H5 a5 b5 r5 => h3 F5 ι5 σ5 H5 (hf3.trans a5) (hi3.trans b5) r5
        | rt rv => exact h3
end

/-! ### comprehensions -/
def wipeE (ρ : Ev) : List Nat → Ev
  | [] => ρ
  | v :: vs => (wipeE ρ vs).set v .no
def lcL (g : D → Ev → Option Ev) (t : MT) (e : ME) (ρ : Ev) : List D → Store → List D → Res (List D)
  | [], μ, acc => .ok acc μ
  | x :: xs, μ, acc => match g x ρ with
    | none => .stk
    | some ρ1 => (t ρ1 μ).bind fun c μ1 => if c = true then (toD e ρ1 μ1).bind fun d μ2 => if acc.length < 16777216 then lcL g t e ρ xs μ2 (acc ++ [d]) else .stk else lcL g t e ρ xs μ1 acc
def eLc (i : MI) (g : D → Ev → Option Ev) (ws : List Nat) (t : MT) (e : ME) : ME := fun ρ μ => (i ρ μ).bind fun xs μ1 => (lcL g t e (wipeE ρ ws) xs μ1 []).bind fun ds μ2 => .ok (.own (.lst ds)) μ2
def mYes : MT := fun _ μ => .ok true μ
section
variable {K : PySem.W.Frag} {cad : Str → Addr} {F F' H H' : Hp} {ι ι' : List Addr} {μ : Store} {ρ : Ev} {σ : L2.St}
theorem R.unset {i : Nat} (r : R K cad F ι μ ρ σ H) : R K cad F ι μ (ρ.set i .no) (σ.set i none) H := by
  refine ⟨r.rs, by rw [List.length_set, List.length_set]; exact r.len, fun j d' e => ?_, fun j o e => ?_, fun j k o o' a e1 e2 e3 e4 => ?_⟩
  · rcases get_set e with ⟨_, e', _⟩ | ⟨hj, e⟩
    · cases e'
    · obtain ⟨v', e1, q'⟩ := r.sh j d' e
      exact ⟨v', by rw [List.getElem?_set_ne (fun z => hj z.symm)]; exact e1, q'⟩
  · rcases get_set e with ⟨_, e', _⟩ | ⟨hj, e⟩
    · cases e'
    · obtain ⟨a, ho, e1, z⟩ := r.own j o e
      exact ⟨a, ho, by rw [List.getElem?_set_ne (fun z => hj z.symm)]; exact e1, z⟩
  · rcases get_set e1 with ⟨_, e', _⟩ | ⟨hj, e1⟩
    · cases e'
    rcases get_set e2 with ⟨_, e', _⟩ | ⟨hk, e2⟩
    · cases e'
    rw [List.getElem?_set_ne (fun z => hj z.symm)] at e3
    rw [List.getElem?_set_ne (fun z => hk z.symm)] at e4
    exact r.dis j k o o' a e1 e2 e3 e4
theorem R.wipe (r : R K cad F ι μ ρ σ H) : ∀ ws : List Nat, R K cad F ι μ (wipeE ρ ws) (L2.wipe σ ws) H
  | [] => r
  | w :: ws => (R.wipe r ws).unset
theorem wipe_get {σ : L2.St} : ∀ {ws : List Nat} {j : Nat}, j ∈ ws → j < σ.length → (L2.wipe σ ws)[j]? = some none
  | w :: ws, j, h, hl => by
    unfold L2.wipe
    by_cases e : w = j
    · rw [e]
      exact List.getElem?_set_self (by rw [wipe_length]; exact hl)
    · rw [List.getElem?_set_ne e]
      rcases List.mem_cons.mp h with z | z
      · exact absurd z.symm e
      · exact wipe_get z hl
theorem wipe_same {σ σ' : L2.St} {ws : List Nat} (hl : σ'.length = σ.length) (h : ∀ j, j ∉ ws → σ'[j]? = (L2.wipe σ ws)[j]?) : L2.wipe σ' ws = L2.wipe σ ws := by
  refine List.ext_getElem? fun j => ?_
  by_cases hj : j ∈ ws
  · by_cases hlt : j < σ.length
    · rw [wipe_get hj hlt, wipe_get hj (by rw [hl]; exact hlt)]
    · rw [List.getElem?_eq_none (by rw [wipe_length]; omega), List.getElem?_eq_none (by rw [wipe_length]; omega)]
  · rw [wipe_out hj, h j hj]
end
section
variable {X : Cx} {cad : Str → Addr} {W : WX} {E : Ent} {pos : Pos} {elt tg iter : Expr} {ifs : List Expr} {scope : Scope} {own : List (Str × Nat)} {mi : MI} {t : TG} {g : D → Ev → Option Ev} {mt : MT} {me : ME}
theorem eLc_ok {K : PySem.W.Frag} (gk : GOk K cad t g (own.map (·.2))) {σ : L2.St} {H : Hp} {Q : VK} (h : tE K cad W (eLc mi g (own.map (·.2)) mt me) σ H Q) : tLc (tI K cad W mi) t (tT K cad WT mt) (tD K cad WT (toD me)) (own.map (·.2)) σ H Q := by
  generalize own.map (·.2) = ws at gk h ⊢
  obtain ⟨F, ι, μ, ρ, r, h⟩ := h
  refine ⟨F, ι, μ, ρ, r, h.bind fun xs μ1 F1 ι1 H1 J x1 s1 q1 h1 => ?_⟩
  have q1 : ItR K cad F1 ι1 J xs := q1
  have rw1 := (r.ext x1 s1).wipe ws
  intro D hD
  let P : Nat → Hp → Prop := fun i H => ∃ F2 ι2 μ2 acc vs, Ext F1 ι1 H1 F2 ι2 H ∧ RS K cad F2 ι2 μ2 H ∧ H D = some (.lst vs) ∧ F2 D = none ∧ D ∉ ι2 ∧ VRs K cad ι2 F2 acc vs ∧
    Post K cad W (rlE K cad ρ σ) F1 ι1 H1 σ ((lcL g mt me (wipeE ρ ws) (xs.drop i) μ2 acc).bind fun ds μ3 => .ok (.own (.lst ds)) μ3) Q
  have hx0 : Ext F1 ι1 H1 F1 ι1 (upd H1 D (.lst [])) := Ext.newH hD
  refine ⟨fun i m H => i ≤ xs.length ∧ m = xs.length - i ∧ P i H, ⟨xs.length, Nat.zero_le _, rfl, F1, ι1, μ1, [], [], hx0, s1.newH hD, upd_same, (s1.fresh hD).1, (s1.fresh hD).2, rfl, h1⟩, ?_⟩
  rintro i m H2 ⟨hl, rfl, F2, ι2, μ2, acc, vs, x2, s2, e2, f2, n2, rv, h2⟩
  have hDne : H2 D ≠ none := by rw [e2]; intro z; cases z
  by_cases hlt : i < xs.length
  · refine .inr ⟨q1.go x2.f x2.i s2 hlt, P (i + 1), fun H' p => ⟨xs.length - (i + 1), by omega, hlt, rfl, p⟩, fun x H3 y => ?_⟩
    obtain ⟨F3, x3, s3, v3⟩ := q1.yl x2.f x2.i s2 (List.getElem?_eq_getElem hlt) y
    have orl : OR K cad ι2 F2 (.lst acc) (.lst vs) := ⟨vs, rfl, rv⟩
    have x13 := x2.trans x3
    have e3 := x3.kept D _ n2 e2
    have f3 := x3.apart f2 e2 orl
    have ed : xs.drop i = xs[i] :: xs.drop (i + 1) := List.drop_eq_getElem_cons hlt
    rw [ed] at h2
    unfold lcL at h2
    cases cg : g xs[i] (wipeE ρ ws) with
    | none => rw [cg] at h2; exact h2.elim
    | some ρ4 =>
      rw [cg] at h2
      dsimp only at h2
      refine gk (rw1.ext x13 s3) v3 cg fun σ4 r4 l4 g4 _ => ?_
      refine ⟨wipe_same (by rw [l4, wipe_length]) g4, F3, ι2, μ2, ρ4, r4, ?_⟩
      cases ct : mt ρ4 μ2 with
      | stk => rw [ct] at h2; exact h2
      | exc x μ5 => exact fun _ _ _ _ _ _ _ => trivial
      | ok c μ5 =>
        rw [ct] at h2
        intro F5 ι5 H5 c' x5 s5 q5
        have q5 : c = c' := q5
        subst q5
        have n3 : D ∉ ι2 := n2
        have orl3 : OR K cad ι2 F3 (.lst acc) (.lst vs) := orl.mono x3.f List.prefix_rfl
        have e5 := x5.kept D _ n3 e3
        have f5 := x5.apart f3 e3 orl3
        have n5 : D ∉ ι5 := fun z => by have := x5.ni D z n3; rw [e3] at this; cases this
        have orl5 : OR K cad ι5 F5 (.lst acc) (.lst vs) := orl3.mono x5.f x5.i
        have x15 := x13.trans x5
        cases c with
        | false =>
          rw [if_neg Bool.false_ne_true]
          obtain ⟨_, ev, rv5⟩ := orl5
          cases ev
          exact ⟨F5, ι5, μ5, acc, vs, x15, s5, e5, f5, n5, rv5, h2⟩
        | true =>
          rw [if_pos rfl]
          refine ⟨F5, ι5, μ5, ρ4, r4.ext x5 s5, ?_⟩
          have h2 : Post K cad W (rlE K cad ρ σ) F1 ι1 H1 σ (((toD me ρ4 μ5).bind fun d μ2 => if acc.length < 16777216 then lcL g mt me (wipeE ρ ws) (xs.drop (i + 1)) μ2 (acc ++ [d]) else .stk).bind fun ds μ3 => .ok (.own (.lst ds)) μ3) Q := h2
          cases cd : toD me ρ4 μ5 with
          | stk => rw [cd] at h2; exact h2
          | exc x μ6 => exact fun _ _ _ _ _ _ _ => trivial
          | ok d μ6 =>
            rw [cd] at h2
            intro F6 ι6 H6 v x6 s6 q6
            have q6 : VR K cad ι6 F6 d v := q6
            have e6 := x6.kept D _ n5 e5
            have f6 := x6.apart f5 e5 orl5
            have n6 : D ∉ ι6 := fun z => by have := x6.ni D z n5; rw [e5] at this; cases this
            obtain ⟨_, ev, rv6⟩ := orl5.mono x6.f x6.i
            cases ev
            have h2 : Post K cad W (rlE K cad ρ σ) F1 ι1 H1 σ ((if acc.length < 16777216 then lcL g mt me (wipeE ρ ws) (xs.drop (i + 1)) μ6 (acc ++ [d]) else .stk).bind fun ds μ3 => .ok (.own (.lst ds)) μ3) Q := h2
            by_cases hz : acc.length < 16777216
            · rw [if_pos hz] at h2
              refine ⟨vs, e6, by rw [← rv6.len, sizeLine_eq]; exact hz, F6, ι6, μ6, acc ++ [d], vs ++ [v], (x15.trans x6).upd_of fun _ => hD, ?_, upd_same, f6, n6, rv6.app (VRs.cons q6 VRs.nil), h2⟩
              refine s6.grow (Same.refl _) (fun b o' z => ?_) (fun b hb o' z => ?_) s6.sep
              · rw [upd_ne (fun w => by rw [w, f6] at z; cases z)]
                exact s6.sub b o' z
              · rw [upd_ne (show b ≠ D from fun w => n6 (w ▸ hb))]
                exact z
            · rw [if_neg hz] at h2
              exact h2.elim
  · have e : i = xs.length := by omega
    subst e
    rw [List.drop_length] at h2
    refine .inl ⟨q1.st x2.f x2.i s2 (Nat.le_refl _), ?_⟩
    exact h2 F2 ι2 H2 (.ref D) x2 s2 ⟨D, .lst vs, rfl, f2, n2, hD, e2, vs, rfl, rv⟩
theorem de_lc (hc : X.calm = true) (hN : X.N.Nodup) (hi : PI X tg iter (tI X.K cad W mi)) (ok : BlkOk X.N X.env.scope scope own)
    (hg : ∀ (s : Shared) (H : Hp) (C : Addr) (cl : List (Str × Addr)) (fp : List Addr), PG (X.blk s H scope (compEnvC scope cl C X.env) fp) tg t) (gk : GOk X.K cad t g (own.map (·.2)))
    (ht : ∀ (s : Shared) (H : Hp) (C : Addr) (cl : List (Str × Addr)) (fp : List Addr), PTs (X.blk s H scope (compEnvC scope cl C X.env) fp) ifs (tT X.K cad WT mt))
    (he : ∀ (s : Shared) (H : Hp) (C : Addr) (cl : List (Str × Addr)) (fp : List Addr), PE (X.blk s H scope (compEnvC scope cl C X.env) fp) elt (tE X.K cad WT me)) (hs : ∀ x, foldedSetIterable iter X.env x = pure x := by intro _; rfl) :
    PE X (.ListComp elt [⟨tg, iter, ifs, 0⟩] scope pos) (tE X.K cad W (eLc mi g (own.map (·.2)) mt me)) :=
  pe_imp (pe_lc hc hN hi ok hg ht (fun s H C cl fp => de_toD (he s H C cl fp)) hs) fun σ H Q h => eLc_ok gk h
theorem dts_nil {Y : Cx} : PTs Y [] (tT Y.K cad W mYes) := ⟨fun pins s σ H Q I h => pts_nil.run pins s σ H Q I (by
  obtain ⟨F, ι, μ, ρ, r, q⟩ := h
  exact q F ι H true (Ext.refl _ _ _) r.rs rfl)⟩
/-- y = [..] on one line -/
theorem ds_setLc (i : Nat) {y : Str} {py spos : Pos} (hc : X.calm = true) (hN : X.N.Nodup) (hyl : X.env.scope.names.lookup y = some .local) (hsw : swapsWith (.ListComp elt [⟨tg, iter, ifs, 0⟩] scope pos) (some (.Name y py)) spos.line X.env = pure true)
    (hi : PI X tg iter (tI X.K cad W mi)) (ok : BlkOk X.N X.env.scope scope own)
    (hg : ∀ (s : Shared) (H : Hp) (C : Addr) (cl : List (Str × Addr)) (fp : List Addr), PG (X.blk s H scope (compEnvC scope cl C X.env) fp) tg t) (gk : GOk X.K cad t g (own.map (·.2)))
    (ht : ∀ (s : Shared) (H : Hp) (C : Addr) (cl : List (Str × Addr)) (fp : List Addr), PTs (X.blk s H scope (compEnvC scope cl C X.env) fp) ifs (tT X.K cad WT mt))
    (he : ∀ (s : Shared) (H : Hp) (C : Addr) (cl : List (Str × Addr)) (fp : List Addr), PE (X.blk s H scope (compEnvC scope cl C X.env) fp) elt (tE X.K cad WT me)) (hy : X.N[i]? = some y := by rfl) (hs : ∀ x, foldedSetIterable iter X.env x = pure x := by intro _; rfl) :
    PS X (.Assign [.Name y py] (.ListComp elt [⟨tg, iter, ifs, 0⟩] scope pos) spos) (tS X.K cad W E (mSet i (eLc mi g (own.map (·.2)) mt me))) := by
  refine ps_imp (ps_setLc (i := i) hc hN hy hyl hsw hi ok hg ht (te := tD X.K cad WT (toD me)) (fun s H C cl fp => de_toD (he s H C cl fp)) hs) fun D σ H h => ?_
  have h := mSet_ok h
  obtain ⟨F, ι, μ, ρ, r, q⟩ := h
  exact eLc_ok gk ⟨F, ι, μ, ρ, r, q.toD⟩
theorem ds_ownLc (i : Nat) {y : Str} {py spos : Pos} (hc : X.calm = true) (hN : X.N.Nodup) (hyl : X.env.scope.names.lookup y = some .local) (hsw : swapsWith (.ListComp elt [⟨tg, iter, ifs, 0⟩] scope pos) (some (.Name y py)) spos.line X.env = pure true)
    (hi : PI X tg iter (tI X.K cad W mi)) (ok : BlkOk X.N X.env.scope scope own)
    (hg : ∀ (s : Shared) (H : Hp) (C : Addr) (cl : List (Str × Addr)) (fp : List Addr), PG (X.blk s H scope (compEnvC scope cl C X.env) fp) tg t) (gk : GOk X.K cad t g (own.map (·.2)))
    (ht : ∀ (s : Shared) (H : Hp) (C : Addr) (cl : List (Str × Addr)) (fp : List Addr), PTs (X.blk s H scope (compEnvC scope cl C X.env) fp) ifs (tT X.K cad WT mt))
    (he : ∀ (s : Shared) (H : Hp) (C : Addr) (cl : List (Str × Addr)) (fp : List Addr), PE (X.blk s H scope (compEnvC scope cl C X.env) fp) elt (tE X.K cad WT me)) (hy : X.N[i]? = some y := by rfl) (hs : ∀ x, foldedSetIterable iter X.env x = pure x := by intro _; rfl) :
    PS X (.Assign [.Name y py] (.ListComp elt [⟨tg, iter, ifs, 0⟩] scope pos) spos) (tS X.K cad W E (mOwn i (eLc mi g (own.map (·.2)) mt me))) := by
  refine ps_imp (ps_setLc (i := i) hc hN hy hyl hsw hi ok hg ht (te := tD X.K cad WT (toD me)) (fun s H C cl fp => de_toD (he s H C cl fp)) hs) fun D σ H h => ?_
  exact eLc_ok gk (mOwn_ok h)
end
/-! ### defs -/
def startE (n : Nat) (ds : List D) : Ev := ds.map .sh ++ List.replicate (n - ds.length) .no
/-- a def by its body: n names, p parameters -/
def endR (r : Res (Fl × Ev)) : Res Rv := match r with
  | .ok (.rt rv, _) μ' => .ok rv μ'
  | .ok (.nx, _) μ' => .ok (.sh .non) μ'
  | .ok _ _ => .stk
  | .exc x μ' => .exc x μ'
  | .stk => .stk
def runB (n p : Nat) (b : MS) : List D → Store → Res Rv := fun ds μ => if ds.length = p then endR (b (startE n ds) μ) else .stk
/-- no exception may leave it -/
def noXR (r : Res Rv) : Res Rv := match r with
  | .exc _ _ => .stk
  | r => r
def noX (m : List D → Store → Res Rv) : List D → Store → Res Rv := fun ds μ => noXR (m ds μ)
def rlR (K : PySem.W.Frag) (cad : Str → Addr) : Rl Rv V := ⟨fun H0 F ι H r v => RvR K cad H0 F ι H r v, fun {H H1 F ι H' a b} h q => (rlE K cad [] []).mono h q⟩
def spM (K : PySem.W.Frag) (cad : Str → Addr) (p : Nat) (m : List D → Store → Res Rv) : Sp := fun vs H Q E => ∃ F ι μ ds, RS K cad F ι μ H ∧ VRs K cad ι F ds vs ∧ ds.length = p ∧ Post K cad (fun c d _ H => E c d H) (rlR K cad) F ι H [] (m ds μ) Q
section
variable {P : Program} {w : World} {K : PySem.W.Frag} {mg : Str → Option Value} {base : Heap} {cad : Str → Addr}
theorem start_R {F H : Hp} {ι : List Addr} {μ : Store} {ds : List D} {vs : List V} {N : List Str} (rs : RS K cad F ι μ H) (q : VRs K cad ι F ds vs) : R K cad F ι μ (startE N.length ds) (start N vs) H := by
  have hl := q.len
  have get : ∀ (i : Nat) (s : Sl), (startE N.length ds)[i]? = some s → (∃ d, ds[i]? = some d ∧ s = .sh d) ∨ s = .no := fun i s e => by
    unfold startE at e
    by_cases hi : i < (ds.map Sl.sh).length
    · rw [List.getElem?_append_left hi, List.getElem?_map] at e
      cases c : ds[i]? with
      | none => rw [c] at e; cases e
      | some d => rw [c] at e; cases e; exact .inl ⟨d, rfl, rfl⟩
    · rw [List.getElem?_append_right (by omega)] at e
      have := List.mem_of_getElem? e
      exact .inr (List.eq_of_mem_replicate this)
  refine ⟨rs, ?_, fun i d e => ?_, fun i o e => ?_, fun i j o o' a e1 => ?_⟩
  · unfold L2.start startE
    rw [List.length_append, List.length_append, List.length_map, List.length_map, List.length_replicate, List.length_replicate, hl]
  · rcases get i _ e with ⟨d', e1, e2⟩ | e1
    · cases e2
      obtain ⟨v, e3, q3⟩ := q.get e1
      refine ⟨v, ?_, q3⟩
      unfold L2.start
      have hi : i < vs.length := (List.getElem?_eq_some_iff.mp e3).1
      rw [List.getElem?_append_left (by rw [List.length_map]; exact hi), List.getElem?_map, e3]
      rfl
    · cases e1
  · rcases get i _ e with ⟨d', e1, e2⟩ | e1
    · cases e2
    · cases e1
  · rcases get i _ e1 with ⟨d', e3, e2⟩ | e3
    · cases e2
    · cases e3
/-- THE RULE for a def that no exception leaves -/
theorem fn0 {x qual : Str} {st : Stmt} {f : Addr} {fd : FuncData} {N ps : List Str} {k : Nat} {b : MS} (F : Fun K x qual st f fd) (S : FnScope N ps (defScope st))
    (hb : ∀ (cdv : Value) (A : Around) (outer : List Env) (s : Shared) (H : Hp) (E : XK) (E0 : Ent), Room k (A.deeper (envOfC qual (defScope st) s.heap.objs.size f cdv)) → PSs (cxOf CX0 P w K mg base N qual (defScope st) f cdv A outer s H E).nox (defBody st) (tS K cad WT E0 b)) :
    FnOk P w K mg base CX0 (k + 1) f fd ps (spM K cad ps.length (noX (runB N.length ps.length b))) := by
  refine F.ok S (fun vs H Q E h => ?_) (fun cdv A outer s H vs Q E hr h => ?_)
  · obtain ⟨F, ι, μ, ds, rs, q, hl, _⟩ := h
    rw [← q.len, hl]
  · obtain ⟨F, ι, μ, ds, rs, q, hl, h⟩ := h
    refine ⟨_, hb cdv A outer s H E ⟨F, ι, H⟩ hr, F, ι, μ, startE N.length ds, ⟨start_R rs q, Ext.refl _ _ _, fun i o a e => ?_⟩, ?_⟩
    · have := (start_R (N := N) rs q).own i o e
      obtain ⟨a', ho, e1, e2, e3, e4, _⟩ := this
      exfalso
      unfold startE at e
      by_cases hi : i < (ds.map Sl.sh).length
      · rw [List.getElem?_append_left hi, List.getElem?_map] at e
        cases c : ds[i]? with
        | none => rw [c] at e; cases e
        | some d => rw [c] at e; cases e
      · rw [List.getElem?_append_right (by omega)] at e
        cases List.eq_of_mem_replicate (List.mem_of_getElem? e)
    · unfold noX noXR runB at h
      rw [if_pos hl] at h
      unfold endR at h
      cases c : b (startE N.length ds) μ with
      | stk => rw [c] at h; exact h
      | exc y μ1 => exact fun _ _ _ _ _ _ _ _ => trivial
      | ok p μ1 =>
        rw [c] at h
        obtain ⟨fl, ρ1⟩ := p
        cases fl with
        | nx => exact fun F' ι' σ' H' _ _ r' => h F' ι' H' .non r'.x r'.r.rs (VR.non_.mpr rfl : VR K cad ι' F' .non .non)
        | bk => exact h.elim
        | ct => exact h.elim
        | rt rv => exact fun F' ι' H' v x' s' q' => h F' ι' H' v x' s' q'
end
/-! ### calls of defs -/
def eCall (m : List D → Store → Res Rv) (as : MA) : ME := fun ρ μ => (as ρ μ).bind fun ds μ1 => (m ds μ1).bind fun rv μ2 => .ok rv.op μ2
section
variable {X : Cx} {cad : Str → Addr} {W : WX} {pos p : Pos} {e : Expr} {es : List Expr} {k n : Nat} {f : Addr} {fd : FuncData} {ps : List Str} {m : List D → Store → Res Rv} {x : Str} {as : MA}
theorem noX_exc {ds : List D} {μ : Store} {y : Xc} {μ' : Store} (h : noX m ds μ = .exc y μ') : False := by
  unfold noX noXR at h
  cases c : m ds μ with
  | stk => rw [c] at h; cases h
  | exc _ _ => rw [c] at h; cases h
  | ok _ _ => rw [c] at h; cases h
theorem eCall_ok {K : PySem.W.Frag} {σ : L2.St} {H : Hp} {Q : VK} (hn : n = ps.length) (h : tE K cad W (eCall (noX m) as) σ H Q) (hl : ∀ ρ μ ds μ1, as ρ μ = .ok ds μ1 → ds.length = n) : tCall (spM K cad n (noX m)) [] E0 (tDs K cad W as) σ H Q := by
  obtain ⟨F, ι, μ, ρ, r, h⟩ := h
  refine ⟨F, ι, μ, ρ, r, ?_⟩
  unfold eCall at h
  cases c : as ρ μ with
  | stk => rw [c] at h; exact h
  | exc y μ1 => rw [c] at h; exact h
  | ok ds μ1 =>
    rw [c] at h
    intro F1 ι1 H1 vs x1 s1 q1
    have q1 : VRs K cad ι1 F1 ds vs := q1
    refine ⟨F1, ι1, μ1, ds, s1, by rw [List.append_nil]; exact q1, hl ρ μ ds μ1 c, ?_⟩
    have h : Post K cad W (rlE K cad ρ σ) F ι H σ ((noX m ds μ1).bind fun rv μ2 => .ok rv.op μ2) Q := h
    cases cm : noX m ds μ1 with
    | stk => rw [cm] at h; exact h
    | exc y μ2 => exact (noX_exc cm).elim
    | ok rv μ2 =>
      rw [cm] at h
      intro F2 ι2 H2 v x2 s2 q2
      refine h F2 ι2 H2 v (x1.trans x2) s2 ?_
      exact (rlE K cad ρ σ).mono x1.dom (RvR.op q2)
theorem de_call (G : FnOk X.prog X.w X.K X.mg X.base CX0 k f fd ps (spM X.K cad n (noX m))) (hr : Room k X.A) (hg : Gl X x) (hm : X.mg x = some (.ref f)) (hk : PySem.W.keepIn X.K (.ref f) = true) (hb : Binds X.K fd ps []) (ha : PA X (e :: es) (tDs X.K cad W as)) (hn : n = ps.length) (hl : ∀ ρ μ ds μ1, as ρ μ = .ok ds μ1 → ds.length = n)
    (hdb : (x == ("__debug__" : Str)) = false := by decide) (he : starEach (e :: es) X.env = (false, eval e X.env) :: starEach es X.env := by rfl) (hpl : (backTo pos (starEach es X.env)).any (·.1) = false := by rfl) : PE X (.Call (.Name x p) (e :: es) [] pos) (tE X.K cad W (eCall (noX m) as)) :=
  pe_imp (pe_call G hr hg hm hk hb .nil pass0 ha hdb he hpl) fun σ H Q h => eCall_ok (ps := ps) hn h hl
theorem aLen0 : ∀ (ρ : Ev) (μ : Store) (ds : List D) (μ1 : Store), aNil ρ μ = .ok ds μ1 → ds.length = 0 := fun ρ μ ds μ1 h => by cases h; rfl
theorem aLenS {m : ME} {as : MA} {n : Nat} (h : ∀ (ρ : Ev) (μ : Store) (ds : List D) (μ1 : Store), as ρ μ = .ok ds μ1 → ds.length = n) : ∀ (ρ : Ev) (μ : Store) (ds : List D) (μ1 : Store), aCons m as ρ μ = .ok ds μ1 → ds.length = n + 1 := fun ρ μ ds μ1 e => by
  unfold aCons at e
  cases c : toD m ρ μ with
  | stk => rw [c] at e; cases e
  | exc _ _ => rw [c] at e; cases e
  | ok d μ2 =>
    rw [c] at e
    cases c2 : as ρ μ2 with
    | stk => simp only [Res.bind_ok, c2, Res.bind_stk] at e; cases e
    | exc _ _ => simp only [Res.bind_ok, c2, Res.bind_exc] at e; cases e
    | ok ds2 μ3 =>
      simp only [Res.bind_ok, c2] at e
      cases e
      simp [h ρ μ2 ds2 _ c2]
end
end DL

/-! ### the order of lists of ints -/
namespace DL
open HT
theorem lexLt_irr : ∀ x : List Int, lexLt x x = false
  | [] => rfl
  | a :: x => by rw [lexLt_cons, if_pos rfl]; exact lexLt_irr x
theorem lexLt_asym : ∀ x y : List Int, lexLt x y = true → lexLt y x = false
  | [], [], h => rfl
  | [], _ :: _, _ => rfl
  | _ :: _, [], h => by cases h
  | a :: x, b :: y, h => by
    rw [lexLt_cons] at h ⊢
    by_cases e : a = b
    · rw [if_pos e] at h
      rw [if_pos e.symm]
      exact lexLt_asym x y h
    · rw [if_neg e] at h
      rw [if_neg (fun z => e z.symm)]
      have := of_decide_eq_true h
      exact decide_eq_false (by omega)
/-- not below: transitive -/
theorem lexLt_tr : ∀ x y z : List Int, lexLt y x = false → lexLt z y = false → lexLt z x = false
  | [], _, z, _, _ => by cases z <;> rfl
  | _ :: _, [], _, h, _ => by cases h
  | _ :: _, _ :: _, [], _, h => by cases h
  | a :: x, b :: y, c :: z, h1, h2 => by
    rw [lexLt_cons] at h1 h2 ⊢
    by_cases e1 : b = a
    · rw [if_pos e1] at h1
      by_cases e2 : c = b
      · rw [if_pos e2] at h2
        rw [if_pos (e2.trans e1)]
        exact lexLt_tr x y z h1 h2
      · rw [if_neg e2] at h2
        have := of_decide_eq_false h2
        rw [if_neg (by omega)]
        exact decide_eq_false (by omega)
    · rw [if_neg e1] at h1
      have q1 := of_decide_eq_false h1
      by_cases e2 : c = b
      · rw [if_neg (by omega)]
        exact decide_eq_false (by omega)
      · rw [if_neg e2] at h2
        have q2 := of_decide_eq_false h2
        rw [if_neg (by omega)]
        exact decide_eq_false (by omega)
theorem lexLt_anti : ∀ x y : List Int, lexLt x y = false → lexLt y x = false → x = y
  | [], [], _, _ => rfl
  | [], _ :: _, h, _ => by cases h
  | _ :: _, [], _, h => by cases h
  | a :: x, b :: y, h1, h2 => by
    rw [lexLt_cons] at h1 h2
    by_cases e : a = b
    · rw [if_pos e] at h1
      rw [if_pos e.symm] at h2
      rw [e, lexLt_anti x y h1 h2]
    · rw [if_neg e] at h1
      rw [if_neg (fun z => e z.symm)] at h2
      have := of_decide_eq_false h1
      have := of_decide_eq_false h2
      omega
theorem lexLt_zip (p : Int → Int → Bool) (hp : ∀ a b, p a b = decide (a < b)) : ∀ x y : List Int, lexZ p (decide (x.length < y.length)) x y = lexLt x y
  | [], [] => rfl
  | [], _ :: _ => by simp [lexZ, lexLt_nil_cons]
  | _ :: _, [] => by simp [lexZ, lexLt_cons_nil]
  | a :: x, b :: y => by
    rw [lexLt_cons, lexZ, hp, show decide ((a :: x).length < (b :: y).length) = decide (x.length < y.length) by simp, lexLt_zip p hp x y]
/-- sorted lists of lists of ints -/
def insL (x : List Int) : List (List Int) → List (List Int)
  | [] => [x]
  | y :: ys => if lexLt y x = true then y :: insL x ys else x :: y :: ys
def sortL : List (List Int) → List (List Int)
  | [] => []
  | x :: xs => insL x (sortL xs)
def SortedL (l : List (List Int)) : Prop := l.Pairwise fun a b => lexLt b a = false
theorem insL_perm (x : List Int) : ∀ l : List (List Int), (insL x l).Perm (x :: l)
  | [] => List.Perm.refl _
  | y :: ys => by
    unfold insL
    split
    · exact ((insL_perm x ys).cons y).trans (List.Perm.swap ..)
    · exact List.Perm.refl _
theorem sortL_perm : ∀ l : List (List Int), (sortL l).Perm l
  | [] => List.Perm.refl _
  | x :: xs => (insL_perm x _).trans ((sortL_perm xs).cons x)
theorem insL_sorted (x : List Int) : ∀ {l : List (List Int)}, SortedL l → SortedL (insL x l)
  | [], _ => List.pairwise_singleton ..
  | y :: ys, h => by
    obtain ⟨h1, h2⟩ := List.pairwise_cons.mp h
    unfold insL
    split
    · next c =>
      refine List.pairwise_cons.mpr ⟨fun z hz => ?_, insL_sorted x h2⟩
      rcases List.mem_cons.mp ((insL_perm x ys).mem_iff.mp hz) with e | e
      · rw [e]
        exact lexLt_asym _ _ c
      · exact h1 z e
    · next c =>
      have c : lexLt y x = false := by simpa using c
      refine List.pairwise_cons.mpr ⟨fun z hz => ?_, h⟩
      rcases List.mem_cons.mp hz with e | e
      · rw [e]
        exact c
      · exact lexLt_tr x y z c (h1 z e)
theorem sortL_sorted : ∀ l : List (List Int), SortedL (sortL l)
  | [] => List.Pairwise.nil
  | x :: xs => insL_sorted x (sortL_sorted xs)
theorem sorted_uniq : ∀ {l m : List (List Int)}, SortedL l → SortedL m → l.Perm m → l = m
  | [], m, _, _, h => (List.Perm.eq_nil h.symm).symm
  | x :: l, [], _, _, h => absurd h.length_eq (by simp)
  | x :: l, y :: m, hl, hm, h => by
    obtain ⟨l1, l2⟩ := List.pairwise_cons.mp hl
    obtain ⟨m1, m2⟩ := List.pairwise_cons.mp hm
    have e : x = y := by
      rcases List.mem_cons.mp (h.mem_iff.mp (List.mem_cons_self (a := x) (l := l))) with e | hx
      · exact e
      rcases List.mem_cons.mp (h.mem_iff.mpr (List.mem_cons_self (a := y) (l := m))) with e | hy
      · exact e.symm
      exact lexLt_anti x y (m1 x hx) (l1 y hy)
    subst e
    rw [sorted_uniq l2 m2 h.cons_inv]
end DL

/-! ### sorted of tuples of ints, at the model -/
namespace SrtT
open PySem PyProof.Rows Srt SrtO
section
variable {prog : Program} {w : World} {A : Around} {E : Value → Shared → Prop} {s : Shared}
theorem kat_lex {b z : Bool} {Q : Bool → Shared → Prop} {xs ys : List Value} {ns ms : List Int} (i : Nat) (hx : IntsAre xs ns) (hy : IntsAre ys ms) (h : Q (DL.lexZ (fun a b => decide (a < b)) z ns ms) s) : PySem.W.KatLex prog w A b z Q (xs.zip ys) i s := by
  induction hx generalizing ys ms i with
  | nil => exact PySem.W.kat_nil (by cases ms <;> exact h)
  | @cons p t xs ns hx ih =>
    cases hy with
    | nil => exact PySem.W.kat_nil h
    | @cons q u ys ms hy =>
      show PySem.W.KatLex prog w A b z Q ((Value.int p t, Value.int q u) :: xs.zip ys) i s
      refine PySem.W.kat_cons (wpAny_eqBool_int ?_)
      rw [DL.lexZ] at h
      by_cases e : p = q
      · subst e
        rw [if_pos rfl] at h
        rw [beq_self_eq_true]
        exact PySem.W.kat_yes (ih (i + 1) hy h)
      · rw [if_neg e] at h
        rw [show (p == q) = false from beq_eq_false_iff_ne.mpr e]
        exact PySem.W.kat_no (TS.oneLt_ints _ h)
abbrev TI (h : Heap) (v : Value) (ns : List Int) : Prop := TS.TupInts h v ns
theorem tup_cmp {vs : List Value} {k : Value → List Int} (hp : ∀ v ∈ vs, TI s.heap v (k v)) : SrtO.Cmp prog w A s (tuples' true) (fun p => p.1 ∈ vs) (lt2 fun v u => HT.lexLt (k v) (k u)) := by
  intro p q hm hm'
  obtain ⟨a, xs, e1, ⟨o, ho, hc, n, hd⟩, i1⟩ := hp _ hm
  obtain ⟨a', ys, e2, ⟨o', ho', hc', n', hd'⟩, i2⟩ := hp _ hm'
  show wpAny (model prog w) A (keyLt' (tuples' true) p.1 q.1) (fun r s' => s' = s ∧ r = HT.lexLt (k p.1) (k q.1)) (fun _ _ => False) s
  generalize k p.1 = ns at i1 ⊢
  generalize k q.1 = ms at i2 ⊢
  rw [e1, e2]
  refine PySem.W.kat_lt ho hd ho' hd' (kat_lex 0 i1 i2 ⟨rfl, ?_⟩)
  have l1 := i1.length
  have l2 := i2.length
  rw [Array.length_toList] at l1 l2
  rw [l1, l2]
  exact DL.lexLt_zip _ (fun _ _ => rfl) ns ms
theorem swo_lexLt (k : Value → List Int) : Swo fun v u => HT.lexLt (k v) (k u) := ⟨fun x y h => DL.lexLt_asym _ _ h, fun x y z h1 h2 => DL.lexLt_tr _ _ _ h1 h2⟩
theorem firsts {h : Heap} : ∀ {vs : List Value} {k : Value → List Int}, (∀ v ∈ vs, TI h v (k v) ∧ k v ≠ []) → ∃ fs, PySem.W.KatTups h vs fs ∧ fs.length = vs.length ∧ ∀ f, f ∈ fs → ∃ n t, f = Value.int n t
  | [], _, _ => ⟨[], PySem.W.KatTups.nil, rfl, fun f hf => by simp at hf⟩
  | v :: vs, k, x => by
    obtain ⟨fs, kt, hl, hi⟩ := firsts (vs := vs) (k := k) fun u hu => x u (List.mem_cons_of_mem _ hu)
    obtain ⟨⟨a, xs, e0, ⟨o, ho, hc, n, hdt⟩, i⟩, hn⟩ := x v (List.mem_cons_self ..)
    obtain ⟨y, ys, e⟩ : ∃ y ys, xs.toList = y :: ys := by
      cases q : xs.toList with
      | nil =>
        rw [q] at i
        exact absurd (List.eq_nil_of_length_eq_zero i.length.symm) hn
      | cons y ys => exact ⟨y, ys, rfl⟩
    obtain ⟨m, t, hy⟩ := i.all y (by rw [e]; exact List.mem_cons_self ..)
    subst e0
    refine ⟨y :: fs, PySem.W.KatTups.cons ho hc hdt ?_ kt, by simp [hl], ?_⟩
    · have z := congrArg (fun l : List Value => l[0]?) e
      simpa using z
    · intro f hf
      rcases List.mem_cons.mp hf with rfl | hf
      · exact ⟨m, t, hy⟩
      · exact hi f hf
theorem tups_sortable {a : Addr} {vs : List Value} {k : Value → List Int} (h0 : 0 < vs.length) (hp : ∀ v ∈ vs, TI s.heap v (k v) ∧ k v ≠ []) (ha : ∀ o, s.heap.get? a = some o → o.cls ≠ .type "tuple") : SortableO prog w A s a vs fun v u => HT.lexLt (k v) (k u) := by
  intro h' keep
  have hp' : ∀ v ∈ vs, TI h' v (k v) ∧ k v ≠ [] := fun v hm => ⟨(hp v hm).1.keeps fun b o e c => keep b o (fun z => by subst z; exact ha o e c) e, (hp v hm).2⟩
  obtain ⟨fs, h1, h2, h3⟩ := firsts hp'
  refine ⟨tuples' true, fun Q E hq => ?_, tup_cmp fun v hm => (hp' v hm).1⟩
  refine PySem.W.kat_kind (T := .type "int") h1 (by omega) (fun f hm => ?_) (by rfl) ?_
  · obtain ⟨x, t, rfl⟩ := h3 f hm
    exact PySem.W.Looks.now
  · have e : (Value.type "int" != Value.type "tuple") = true := by first | decide +kernel | rfl | decide
    rw [e]
    exact hq
theorem sorted_tups {l : Addr} {vs : List Value} {k : Value → List Int} {Q : Value → Shared → Prop} (hl : s.heap.IsList l vs.toArray) (hz : vs.length ≤ sizeLine) (hp : ∀ v ∈ vs, TI s.heap v (k v) ∧ k v ≠ [])
    (h : ∀ (h' : Heap) (d : Addr) (out : List Value), Srtd (fun v u => HT.lexLt (k v) (k u)) out → Stb (fun v u => HT.lexLt (k v) (k u)) out vs → (∀ b o, s.heap.get? b = some o → h'.get? b = some o) → s.heap.objs.size ≤ d → (∃ n, h'.get? d = some (seqObj "list" out.toArray n)) → Q (.ref d) { s with heap := h' }) :
    wpAny (model prog w) A (call (.builtin "sorted") [.ref l]) Q E s := by
  refine sorted_ord (swo_lexLt k) hl hz (fun h2 h₁ a ha kk => ?_) fun out hs hb => ?_
  · refine tups_sortable (s := { s with heap := h₁ }) (by omega) (fun v hm => ⟨(hp v hm).1.keeps fun b o e _ => (kk b o e).2, (hp v hm).2⟩) fun o e => ?_
    have e' : some o = some (seqObj "list" vs.toArray 0) := e.symm.trans ha
    cases e'
    intro c
    exact absurd (Value.type.inj c) (by decide)
  · exact h _ _ out hs hb (fun b o e => sortedAll_old e) (Nat.le_succ _) (sortedAll_at s.heap vs out.toArray)
end
end SrtT

namespace DL
open PySem PySem.Spec PyProof.Rows L2
/-- sorted(xs), xs a list of tuples of ints (none empty) -/
def rSortT (K : PySem.W.Frag) : List V → Hp → VK → Prop := fun vs H Q => ∃ (a : Addr) (xs : List V) (k : V → List Int), vs = [V.ref a] ∧ SqL K H a xs ∧ (∀ x ∈ xs, ∃ t, x = V.ref t ∧ H t = some (.tup ((k x).map V.int)) ∧ k x ≠ []) ∧
  ∀ ys p, ys.Perm xs → (ys.map k).Pairwise (fun a b => HT.lexLt b a = false) → H p = none → Q (.ref p) (upd H p (.lst ys))
section
variable {X : Cx}
theorem cr_sortTI : CallR X (.builtin "sorted") (rSortT X.K) := by
  intro pins s σ H vs us Q I r h
  obtain ⟨a, xs, k, rfl, hs, hx, q⟩ := h
  obtain ⟨its, rv, hl, hz⟩ := I.list hs
  obtain ⟨u, rfl, ru⟩ := vals1 r
  obtain rfl : u = Value.ref a := ru
  obtain ⟨e1, e2⟩ := refs_back rv fun x m => by
    obtain ⟨t, e, _⟩ := hx x m
    exact ⟨t, e⟩
  refine SrtT.sorted_tups (k := fun u => k (backV u)) hl.isList (by rw [← rv.length]; exact hz) (fun v hv => ?_) fun h' d out h1 h2 kp hd hn => ?_
  · obtain ⟨t, rfl⟩ := e2 v hv
    have hm : V.ref t ∈ xs := by rw [e1]; exact List.mem_map.mpr ⟨_, hv, rfl⟩
    obtain ⟨t', e, ht, hne⟩ := hx _ hm
    cases e
    obtain ⟨_, its2, r2, pt⟩ := I.hok _ _ ht
    exact ⟨⟨t, its2.toArray, rfl, pt, (show IntsAre its2.toArray.toList (k (V.ref t)) by rw [List.toList_toArray]; exact Vals.ints r2)⟩, hne⟩
  · have h3 : ∀ u ∈ out, ∃ a, u = Value.ref a := fun u hu => e2 u (h2.perm.mem_iff.mp hu)
    obtain ⟨n, hn⟩ := hn
    have hb : (out.map backV).Perm xs := by
      rw [e1]
      exact h2.perm.map backV
    refine ⟨.ref d, upd H d (.lst (out.map backV)), I.laid (t' := s.toks) kp hd ⟨?_, out, n, vals_back h3, hn⟩, rfl, q _ d hb ?_ (I.hok.fresh hd)⟩
    · rw [hb.length_eq]
      exact hz
    · rw [List.pairwise_map, List.pairwise_map]
      exact h1
end
def D.intss : List D → Option (List (List Int))
  | [] => some []
  | .tup ds :: r => (D.ints ds).bind fun ns => if ns = [] then none else (D.intss r).map (ns :: ·)
  | _ :: _ => none
def intsD (ns : List Int) : D := .tup (ns.map .int)
def insI (x : Int) : List Int → List Int
  | [] => [x]
  | y :: ys => if y < x then y :: insI x ys else x :: y :: ys
def sortI : List Int → List Int
  | [] => []
  | x :: xs => insI x (sortI xs)
theorem insI_perm (x : Int) : ∀ l : List Int, (insI x l).Perm (x :: l)
  | [] => List.Perm.refl _
  | y :: ys => by
    unfold insI
    split
    · exact ((insI_perm x ys).cons y).trans (List.Perm.swap ..)
    · exact List.Perm.refl _
theorem sortI_perm : ∀ l : List Int, (sortI l).Perm l
  | [] => List.Perm.refl _
  | x :: xs => (insI_perm x _).trans ((sortI_perm xs).cons x)
theorem insI_sorted (x : Int) : ∀ {l : List Int}, l.Pairwise (· ≤ ·) → (insI x l).Pairwise (· ≤ ·)
  | [], _ => List.pairwise_singleton ..
  | y :: ys, h => by
    obtain ⟨h1, h2⟩ := List.pairwise_cons.mp h
    unfold insI
    split
    · next c =>
      refine List.pairwise_cons.mpr ⟨fun z hz => ?_, insI_sorted x h2⟩
      rcases List.mem_cons.mp ((insI_perm x ys).mem_iff.mp hz) with e | e
      · omega
      · exact h1 z e
    · next c =>
      refine List.pairwise_cons.mpr ⟨fun z hz => ?_, h⟩
      rcases List.mem_cons.mp hz with e | e
      · omega
      · have := h1 z e
        omega
theorem sortI_sorted : ∀ l : List Int, (sortI l).Pairwise (· ≤ ·)
  | [] => List.Pairwise.nil
  | x :: xs => insI_sorted x (sortI_sorted xs)
theorem sortI_uniq : ∀ {l m : List Int}, l.Pairwise (· ≤ ·) → m.Pairwise (· ≤ ·) → l.Perm m → l = m
  | [], m, _, _, h => (List.Perm.eq_nil h.symm).symm
  | x :: l, [], _, _, h => absurd h.length_eq (by simp)
  | x :: l, y :: m, hl, hm, h => by
    obtain ⟨l1, l2⟩ := List.pairwise_cons.mp hl
    obtain ⟨m1, m2⟩ := List.pairwise_cons.mp hm
    have e : x = y := by
      rcases List.mem_cons.mp (h.mem_iff.mp (List.mem_cons_self (a := x) (l := l))) with e | hx
      · exact e
      rcases List.mem_cons.mp (h.mem_iff.mpr (List.mem_cons_self (a := y) (l := m))) with e | hy
      · exact e.symm
      have := m1 x hx
      have := l1 y hy
      omega
    subst e
    rw [sortI_uniq l2 m2 h.cons_inv]
/-- keys that are ints -/
def keyInts : List Key → Option (List Int)
  | [] => some []
  | .inl i :: r => (keyInts r).map (i :: ·)
  | .inr _ :: _ => none
def fSorted : List Vw → Option Rv
  | [.ob (.lst ds)] => match D.ints ds with
    | some ns => some (.own (.lst ((sortI ns).map .int)))
    | none => (D.intss ds).map fun nss => .own (.lst ((sortL nss).map intsD))
  | [.ob (.dK kvs)] => (keyInts (kvs.map (·.1))).bind fun ns => if ns.length < 64 then some (.own (.lst ((sortI ns).map .int))) else none
  | _ => none
def rSortA (K : PySem.W.Frag) : List V → Hp → VK → Prop := fun vs H Q => rSortedI K vs H Q ∨ rSortT K vs H Q ∨ (∃ (a : Addr) (kvs : List (Key × V)) (ks : List Int), vs = [.ref a] ∧ Rd H a (.dK kvs) ∧ kvs.map (·.1) = ks.map Sum.inl ∧ ks.length < 64 ∧
    ∀ (ys : List Int) (p : Addr), ys.Perm ks → ys.Pairwise (· ≤ ·) → H p = none → Q (.ref p) (upd H p (.lst (ys.map V.int))))
theorem cr_sortA {X : Cx} (hc : X.calm = true) : CallR X (.builtin "sorted") (rSortA X.K) := cr_sortedI.or (cr_sortTI.or (call_sortedDI hc))
section
variable {K : PySem.W.Frag} {cad : Str → Addr} {F H : Hp} {ι : List Addr} {μ : Store}
theorem ints_D : ∀ {ns : List Int}, VRs K cad ι F (ns.map .int) (ns.map V.int)
  | [] => rfl
  | _ :: ns => ⟨_, _, rfl, VR.int_.mpr rfl, ints_D (ns := ns)⟩
/-- each item's ints, by its address -/
theorem intss_k (rs : RS K cad F ι μ H) : ∀ {ds : List D} {vs : List V} {nss : List (List Int)}, VRs K cad ι F ds vs → D.intss ds = some nss → ∃ k : V → List Int, vs.map k = nss ∧ ∀ x ∈ vs, ∃ t, x = V.ref t ∧ F t = some (.tup ((k x).map V.int)) ∧ k x ≠ []
  | [], _, _, h, e => by
    cases h
    cases e
    exact ⟨fun _ => [], rfl, fun x hx => by simp at hx⟩
  | d :: ds, _, nss, h, e => by
    obtain ⟨v, vs, rfl, r, t⟩ := h
    cases d with
    | tup es =>
      have e : ((D.ints es).bind fun ns => if ns = [] then none else (D.intss ds).map (ns :: ·)) = some nss := e
      cases c : D.ints es with
      | none => rw [c] at e; cases e
      | some ns =>
        rw [c] at e
        have e : (if ns = [] then none else (D.intss ds).map (ns :: ·)) = some nss := e
        by_cases hn : ns = []
        · rw [if_pos hn] at e; cases e
        · rw [if_neg hn] at e
          cases c2 : D.intss ds with
          | none => rw [c2] at e; cases e
          | some nss' =>
            rw [c2] at e
            cases e
            obtain ⟨a, us, rfl, e1, ru⟩ := VR.tup_.mp r
            rw [ints_vals ru c] at e1
            obtain ⟨k, k1, k2⟩ := intss_k rs t c2
            refine ⟨fun x => if x = .ref a then ns else k x, ?_, fun x hx => ?_⟩
            · have : (if V.ref a = V.ref a then ns else k (.ref a)) = ns := if_pos rfl
              rw [List.map_cons, this, ← k1]
              congr 1
              refine List.map_congr_left fun x hx => ?_
              by_cases hxa : x = .ref a
              · rw [if_pos hxa]
                obtain ⟨t, e2, e3, _⟩ := k2 x hx
                rw [hxa] at e2
                cases e2
                rw [e1] at e3
                have e4 := HO.tup.inj (Option.some.inj e3)
                have inj : ∀ {l m : List Int}, l.map V.int = m.map V.int → l = m := fun {l m} h => by
                  induction l generalizing m with
                  | nil => cases m with
                    | nil => rfl
                    | cons _ _ => cases h
                  | cons x l ih => cases m with
                    | nil => cases h
                    | cons y m =>
                      rw [List.map_cons, List.map_cons] at h
                      injection h with h1 h2
                      rw [V.int.inj h1, ih h2]
                exact inj e4
              · rw [if_neg hxa]
            · dsimp only
              by_cases hxa : x = .ref a
              · rw [if_pos hxa]
                exact ⟨a, hxa, e1, hn⟩
              · rw [if_neg hxa]
                rcases List.mem_cons.mp hx with z | z
                · exact absurd z hxa
                · exact k2 x z
    | _ => cases e
theorem keyInts_ok : ∀ {ks : List Key} {ns : List Int}, keyInts ks = some ns → ks = ns.map Sum.inl
  | [], _, e => by cases e; rfl
  | .inl i :: ks, ns, e => by
    have e : (keyInts ks).map (i :: ·) = some ns := e
    cases c : keyInts ks with
    | none => rw [c] at e; cases e
    | some ms => rw [c] at e; cases e; rw [keyInts_ok c]; rfl
  | .inr _ :: _, _, e => by cases e
theorem perm_VRs {k : V → List Int} : ∀ {ys : List V}, (∀ x ∈ ys, ∃ t, x = V.ref t ∧ F t = some (.tup ((k x).map V.int)) ∧ k x ≠ []) → VRs K cad ι F ((ys.map k).map intsD) ys
  | [], _ => rfl
  | y :: ys, h => by
    obtain ⟨t, e1, e2, _⟩ := h y List.mem_cons_self
    refine ⟨y, ys, rfl, VR.tup_.mpr ⟨t, _, e1, e2, ints_D⟩, perm_VRs fun x hx => h x (List.mem_cons_of_mem _ hx)⟩
theorem sd_sorted : SdB K cad (rSortA K) fSorted := by
  intro F ι μ H ws vs rv Q rs hw e q
  match ws, hw, e with
  | [.ob (.lst ds)], hw, e =>
    obtain ⟨v, rfl, a, rfl, us, e1, r⟩ := pr1 hw
    have e : (match D.ints ds with | some ns => some (Rv.own (.lst ((sortI ns).map .int))) | none => (D.intss ds).map fun nss => .own (.lst ((sortL nss).map intsD))) = some rv := e
    cases c : D.ints ds with
    | some ns =>
      rw [c] at e
      cases e
      rw [ints_vals r c] at e1
      refine .inl ⟨a, ns, rfl, SqL.of e1, fun ns' p h1 h2 hp => ?_⟩
      have : ns' = sortI ns := sortI_uniq h2 (sortI_sorted ns) (h1.trans (sortI_perm ns).symm)
      rw [this]
      exact fin_own rs q hp ⟨_, rfl, ints_D⟩
    | none =>
      rw [c] at e
      cases c2 : D.intss ds with
      | none => rw [c2] at e; cases e
      | some nss =>
        rw [c2] at e
        cases e
        obtain ⟨k, k1, k2⟩ := intss_k rs r c2
        refine .inr (.inl ⟨a, us, k, rfl, SqL.of e1, fun x hx => ?_, fun ys p h1 h2 hp => ?_⟩)
        · obtain ⟨t, f1, f2, f3⟩ := k2 x hx
          exact ⟨t, f1, rs.sub _ _ f2, f3⟩
        · have e3 : ys.map k = sortL nss := sorted_uniq h2 (sortL_sorted nss) (((h1.map k).trans (by rw [k1])).trans (sortL_perm nss).symm)
          dsimp only at q
          rw [← e3] at q
          exact fin_own rs q hp ⟨ys, rfl, perm_VRs fun x hx => k2 x (h1.mem_iff.mp hx)⟩
  | [.ob (.dK kvs)], hw, e =>
    obtain ⟨v, rfl, a, rfl, us, e1, r⟩ := pr1 hw
    have e : ((keyInts (kvs.map (·.1))).bind fun ns => if ns.length < 64 then some (Rv.own (.lst ((sortI ns).map .int))) else none) = some rv := e
    cases c : keyInts (kvs.map (·.1)) with
    | none => rw [c] at e; cases e
    | some ns =>
      rw [c] at e
      have e : (if ns.length < 64 then some (Rv.own (.lst ((sortI ns).map .int))) else none) = some rv := e
      by_cases hl : ns.length < 64
      · rw [if_pos hl] at e
        cases e
        have lk : (kvs.map (·.1)).length = us.length := by
          have := r.len
          rw [List.length_map] at this ⊢
          exact this
        refine .inr (.inr ⟨a, _, ns, rfl, e1, ?_, hl, fun ys p h1 h2 hp => ?_⟩)
        · rw [List.map_fst_zip (by omega)]
          exact keyInts_ok c
        · have : ys = sortI ns := sortI_uniq h2 (sortI_sorted ns) (h1.trans (sortI_perm ns).symm)
          rw [this]
          exact fin_own rs q hp ⟨_, rfl, ints_D⟩
      · rw [if_neg hl] at e
        cases e
end
end DL

/-! ### a name's own thing never changes from now on; several names at once -/
namespace DL
open PySem PySem.Spec PyProof.Rows L2
def frzD : Ob → Option D
  | .lst xs => some (.lst xs)
  | .dK kvs => some (.dK (kvs.map (·.1)) (kvs.map (·.2)))
  | .dT kvs => some (.dT (kvs.map (·.1)) (kvs.map (·.2)))
  | .ins c fs => some (.ins c (fs.map (·.1)) (fs.map (·.2)))
  | _ => none
def mFrz (i : Nat) : MS := fun ρ μ => match ρ[i]? with
  | some (.own o) => (match frzD o with
    | some d => .ok (.nx, ρ.set i (.sh d)) μ
    | none => .stk)
  | _ => .stk
theorem upd_eq {H : Hp} {a : Addr} {o : HO} (h : H a = some o) : upd H a o = H := by
  funext b
  by_cases e : b = a
  · rw [e, upd_same, h]
  · rw [upd_ne e]
section
variable {K : PySem.W.Frag} {cad : Str → Addr} {E : Ent} {F F' H H' H0 : Hp} {ι ι' : List Addr} {μ μ' : Store} {ρ : Ev} {σ : L2.St}
theorem R0.frz (r : R0 K cad E F ι μ ρ σ H) {i : Nat} {o : Ob} {a : Addr} {ho : HO} {d : D} (e1 : ρ[i]? = some (.own o)) (e2 : σ[i]? = some (some (.ref a))) (q : VR K cad ι (upd F a ho) d (.ref a)) : R0 K cad E (upd F a ho) ι μ (ρ.set i (.sh d)) σ (upd H a ho) := by
  obtain ⟨a', ho', e3, e4, e5, e6, z⟩ := r.r.own i o e1
  rw [e2] at e3
  cases e3
  have sm : Same F (upd F a ho) := same_new e4
  have hE : E.H a = none := r.fr i o a e1 e2
  refine ⟨⟨?_, by rw [List.length_set]; exact r.r.len, fun j d' ej => ?_, fun j o' ej => ?_, fun j k o1 o2 b ej ek e7 e8 => ?_⟩, ?_, fun j o' b ej e7 => ?_⟩
  · refine r.r.rs.grow sm (same_upd2 r.r.rs.sub) (fun b hb o' s => ?_) fun b hb => ?_
    · rw [upd_ne (show b ≠ a from fun w => e5 (w ▸ hb))]
      exact s
    · rw [upd_ne (show b ≠ a from fun w => e5 (w ▸ hb))]
      exact r.r.rs.sep b hb
  · rcases get_set ej with ⟨hj, e', _⟩ | ⟨hj, ej⟩
    · cases e'
      rw [hj]
      exact ⟨_, e2, q⟩
    · obtain ⟨v, e7, q7⟩ := r.r.sh j d' ej
      exact ⟨v, e7, VR.mono sm List.prefix_rfl _ _ q7⟩
  · rcases get_set ej with ⟨_, e', _⟩ | ⟨hj, ej⟩
    · cases e'
    · obtain ⟨b, hb, e7, e8, e9, e10, z2⟩ := r.r.own j o' ej
      have hne : b ≠ a := fun w => hj (r.r.dis j i o' o a ej e1 (w ▸ e7) e2)
      exact ⟨b, hb, e7, by rw [upd_ne hne]; exact e8, e9, by rw [upd_ne hne]; exact e10, z2.mono sm List.prefix_rfl⟩
  · rcases get_set ej with ⟨_, e', _⟩ | ⟨hj, ej⟩
    · cases e'
    rcases get_set ek with ⟨_, e', _⟩ | ⟨hk, ek⟩
    · cases e'
    exact r.r.dis j k o1 o2 b ej ek e7 e8
  · have x1 : Ext E.F E.ι E.H (upd F a ho) ι H := r.x.frz e4 hE e5
    exact x1.upd_of fun _ => hE
  · rcases get_set ej with ⟨_, e', _⟩ | ⟨hj, ej⟩
    · cases e'
    · exact r.fr j o' b ej e7
end
section
variable {X : Cx} {cad : Str → Addr} {W : WX} {E : Ent} {rest : List Stmt} {n : MS}
theorem dss_frz (i : Nat) (h : PSs X rest (tS X.K cad W E n)) : PSs X rest (tS X.K cad W E (mSeq (mFrz i) n)) := by
  refine ⟨fun pins s σ H D I hh => ?_⟩
  obtain ⟨F, ι, μ, ρ, r, p⟩ := hh
  unfold mSeq seqR mFrz at p
  cases c : ρ[i]? with
  | none => rw [c] at p; exact p.elim
  | some sl =>
    rw [c] at p
    cases sl with
    | no => exact p.elim
    | sh d => exact p.elim
    | own o =>
      obtain ⟨a, ho, e3, e4, e5, e6, z⟩ := r.r.own i o c
      have fin : ∀ {H' : Hp} {d : DL.D} {ho' : HO}, frzD o = some d → Inv X pins σ H' s → H' = upd H a ho' → VR X.K cad ι (upd F a ho') d (.ref a) → wpAny (model X.prog X.w) X.A (execs rest X.env) (SP X pins D) X.xe s := fun {H' d ho'} ed I' eH q => by
        simp only [ed] at p
        subst eH
        exact h.run pins s σ _ D I' ⟨_, ι, μ, _, r.frz c e3 q, PostS.ext (same_new e4) List.prefix_rfl p⟩
      cases o with
      | lst xs =>
        obtain ⟨vs, rfl, rv⟩ := z
        exact fin rfl I (upd_eq e6).symm (VR.lst_.mpr ⟨a, vs, rfl, upd_same, VRs.mono (same_new e4) List.prefix_rfl _ _ rv⟩)
      | dK kvs =>
        obtain ⟨vs, rfl, rv⟩ := z
        obtain ⟨od, I'⟩ := I.lock e6 trivial
        refine fin rfl I' rfl ?_
        unfold VR
        exact ⟨a, od, vs, rfl, upd_same, by have := rv.len; rw [List.length_map] at this ⊢; exact this, VRs.mono (same_new e4) List.prefix_rfl _ _ rv⟩
      | dT kvs =>
        obtain ⟨vs, rfl, rv⟩ := z
        obtain ⟨od, I'⟩ := I.lock e6 trivial
        refine fin rfl I' rfl ?_
        unfold VR
        exact ⟨a, od, vs, rfl, upd_same, by have := rv.len; rw [List.length_map] at this ⊢; exact this, VRs.mono (same_new e4) List.prefix_rfl _ _ rv⟩
      | ins cc fs =>
        obtain ⟨dx, vs, rfl, rv⟩ := z
        refine fin rfl I (upd_eq e6).symm ?_
        unfold VR
        exact ⟨a, dx, vs, rfl, upd_same, by have := rv.len; rw [List.length_map] at this ⊢; exact this, VRs.mono (same_new e4) List.prefix_rfl _ _ rv⟩
      | lkK _ => exact p.elim
      | lkT _ => exact p.elim
      | dead => exact p.elim
/-- a, b = x, y; a, b, c = x, y, z -/
def mPar (is : List Nat) (as : MA) : MS := fun ρ μ => (as ρ μ).bind fun ds μ1 => if ds.length = is.length then .ok (.nx, setsE is ds ρ) μ1 else .stk
theorem ds_par2 (i j : Nat) {x y : Str} {a b : Expr} {as : MA} {px py pt pos : Pos} {kt k2 pt2} (hc : X.calm = true) (hN : X.N.Nodup) (ha : PA X [a, b] (tDs X.K cad W as)) (hij : i ≠ j) (hx : X.env.scope.names.lookup x = some .local) (hy : X.env.scope.names.lookup y = some .local)
    (hw : swappedStores [.Tuple [.Name x px, .Name y py] kt pt] (.Tuple [a, b] k2 pt2) X.env = pure (some [x, y])) (hi : X.N[i]? = some x := by rfl) (hj : X.N[j]? = some y := by rfl)
    (hs : swapsWithSole [.Tuple [.Name x px, .Name y py] kt pt] (.Tuple [a, b] k2 pt2) pos.line X.env = pure false := by rfl) : PS X (.Assign [.Tuple [.Name x px, .Name y py] kt pt] (.Tuple [a, b] k2 pt2) pos) (tS X.K cad W E (mPar [i, j] as)) := by
  refine ps_imp (ps_par hc hN hi hj hij hx hy ha hw hs) fun D σ H ⟨F, ι, μ, ρ, r, h⟩ => ?_
  refine ⟨F, ι, μ, ρ, r.r, h.bind r.x fun ds μ1 F1 ι1 H1 vs _ x1 s1 q1 h1 => ?_⟩
  have r1 := r.ext x1 s1
  have q1 : VRs X.K cad ι1 F1 ds vs := q1
  match ds, q1, h1 with
  | [d, d'], q1, h1 =>
    obtain ⟨v, _, rfl, v1, q2⟩ := q1
    obtain ⟨v', _, rfl, v2, q3⟩ := q2
    cases q3
    exact ⟨v, v', rfl, h1 F1 ι1 _ H1 x1.f x1.i ((r1.set v1).set v2)⟩
  | [], _, h1 => exact h1.elim
  | [_], _, h1 => exact h1.elim
  | _ :: _ :: _ :: l, _, h1 => rw [if_neg (by simp)] at h1; exact h1.elim
theorem ds_par3 (i j l : Nat) {x y z : Str} {a b c : Expr} {as : MA} {px py pz pt pos : Pos} {kt k2 pt2} (hc : X.calm = true) (hN : X.N.Nodup) (ha : PA X [a, b, c] (tDs X.K cad W as)) (hij : i ≠ j) (hil : i ≠ l) (hjl : j ≠ l) (hx : X.env.scope.names.lookup x = some .local) (hy : X.env.scope.names.lookup y = some .local) (hz : X.env.scope.names.lookup z = some .local)
    (hw : swappedStores [.Tuple [.Name x px, .Name y py, .Name z pz] kt pt] (.Tuple [a, b, c] k2 pt2) X.env = pure (some [x, y, z])) (hi : X.N[i]? = some x := by rfl) (hj : X.N[j]? = some y := by rfl) (hl : X.N[l]? = some z := by rfl)
    (hs : swapsWithSole [.Tuple [.Name x px, .Name y py, .Name z pz] kt pt] (.Tuple [a, b, c] k2 pt2) pos.line X.env = pure false := by rfl) : PS X (.Assign [.Tuple [.Name x px, .Name y py, .Name z pz] kt pt] (.Tuple [a, b, c] k2 pt2) pos) (tS X.K cad W E (mPar [i, j, l] as)) := by
  refine ps_imp (ps_par3 hc hN hi hj hl hij hil hjl hx hy hz ha hw hs) fun D σ H ⟨F, ι, μ, ρ, r, h⟩ => ?_
  refine ⟨F, ι, μ, ρ, r.r, h.bind r.x fun ds μ1 F1 ι1 H1 vs _ x1 s1 q1 h1 => ?_⟩
  have r1 := r.ext x1 s1
  have q1 : VRs X.K cad ι1 F1 ds vs := q1
  match ds, q1, h1 with
  | [d, d', d''], q1, h1 =>
    obtain ⟨v, _, rfl, v1, q2⟩ := q1
    obtain ⟨v', _, rfl, v2, q3⟩ := q2
    obtain ⟨v'', _, rfl, v3, q4⟩ := q3
    cases q4
    exact ⟨v, v', v'', rfl, h1 F1 ι1 _ H1 x1.f x1.i (((r1.set v1).set v2).set v3)⟩
  | [], _, h1 => exact h1.elim
  | [_], _, h1 => exact h1.elim
  | [_, _], _, h1 => exact h1.elim
  | _ :: _ :: _ :: _ :: l, _, h1 => rw [if_neg (by simp)] at h1; exact h1.elim
/-- a tuple taken apart: (a, b) = e -/
def mUnp (is : List Nat) (a : ME) : MS := fun ρ μ => (toD a ρ μ).bind fun d μ1 => match gT is d ρ with
  | some ρ' => .ok (.nx, ρ') μ1
  | none => .stk
theorem ds_unp {is : List Nat} {es : List Expr} {e : Expr} {k : Nat} {tp pos : Pos} {ma : ME} (he : PE X e (tE X.K cad W ma)) (hg : PG X (.Tuple es k tp) (gTup X.K is.length (gNames is))) (hs : swapsWithSole [.Tuple es k tp] e pos.line X.env = pure false := by rfl) (hw : swappedStores [.Tuple es k tp] e X.env = pure none := by rfl)
    (h1 : (assignEach [.Tuple es k tp] X.env).map (·.2) = [assign (.Tuple es k tp) X.env] := by rfl) : PS X (.Assign [.Tuple es k tp] e pos) (tS X.K cad W E (mUnp is ma)) := by
  refine ps_imp (ps_asg (de_toD he) hg hs hw h1) fun D σ H ⟨F, ι, μ, ρ, r, h⟩ => ?_
  refine ⟨F, ι, μ, ρ, r.r, h.bind r.x fun d μ1 F1 ι1 H1 v _ x1 s1 q1 h1 => ?_⟩
  have r1 := r.ext x1 s1
  cases c : gT is d ρ with
  | none => rw [c] at h1; exact h1.elim
  | some ρ' =>
    rw [c] at h1
    exact g_tup is rfl r1.r q1 c fun σ' r' _ _ g' => h1 F1 ι1 σ' H1 x1.f x1.i (r1.of_g r' g')
end
end DL

namespace DL
open PySem PySem.Spec PyProof.Rows L2
/-! ### a def by its name -/
def Def0 (P : Program) (w : World) (K : PySem.W.Frag) (mg : Str → Option Value) (base : Heap) (cad : Str → Addr) (x : Str) (j np : Nat) (m : List D → Store → Res Rv) : Prop :=
  ∃ f fd ps, ps.length = np ∧ FnOk P w K mg base CX0 j f fd ps (spM K cad np (noX m)) ∧ mg x = some (.ref f) ∧ PySem.W.keepIn K (.ref f) = true ∧ Binds K fd ps []
theorem hU_of {A : Around} {k : Nat} (hr : Room k A) : A.units + 100 < cLine := by
  have := hr.un
  omega
theorem mk0 {P : Program} {w : World} {K : PySem.W.Frag} {mg : Str → Option Value} {base : Heap} {cad : Str → Addr} {x qual : Str} {st : Stmt} {f : Addr} {fd : FuncData} {N ps : List Str} {k : Nat} {b : MS} (F : Fun K x qual st f fd) (S : FnScope N ps (defScope st)) (hm : mg x = some (.ref f)) (hb : Binds K fd ps [])
    (hB : ∀ (cdv : Value) (A : Around) (outer : List Env) (s : Shared) (H : Hp) (E : XK) (E0 : Ent), Room k (A.deeper (envOfC qual (defScope st) s.heap.objs.size f cdv)) → PSs (cxOf CX0 P w K mg base N qual (defScope st) f cdv A outer s H E).nox (defBody st) (tS K cad WT E0 b)) :
    Def0 P w K mg base cad x (k + 1) ps.length (runB N.length ps.length b) := ⟨f, fd, ps, rfl, fn0 F S hB, hm, F.kp, hb⟩
section
variable {X : Cx} {cad : Str → Addr} {W : WX} {pos p : Pos} {e : Expr} {es : List Expr} {j k np : Nat} {m : List D → Store → Res Rv} {x : Str} {as : MA}
theorem de_callD (d : Def0 X.prog X.w X.K X.mg X.base cad x j np m) (hr : Room k X.A) (hj : j ≤ k) (hg : Gl X x) (ha : PA X (e :: es) (tDs X.K cad W as)) (hl : ∀ ρ μ ds μ1, as ρ μ = .ok ds μ1 → ds.length = np)
    (hdb : (x == ("__debug__" : Str)) = false := by decide) (he : starEach (e :: es) X.env = (false, eval e X.env) :: starEach es X.env := by rfl) (hpl : (backTo pos (starEach es X.env)).any (·.1) = false := by rfl) : PE X (.Call (.Name x p) (e :: es) [] pos) (tE X.K cad W (eCall (noX m) as)) := by
  obtain ⟨f, fd, ps, hn, G, hm, hk, hb⟩ := d
  exact de_call G (hr.mono hj) hg hm hk hb ha hn.symm hl hdb he hpl
end
/-- the law's promise from its function -/
theorem law_sp {K : PySem.W.Frag} {cad : Str → Addr} {m : List D → Store → Res Rv} {H : Hp} {a : Addr} {ns : List Int} (hS : SqL K H a (ns.map V.int)) (h : ∃ μ, m [.scr ns] [] = .ok (.sh (.bl true)) μ) : spM K cad 1 (noX m) [.ref a] H (fun v _ => v = .bl true) fun _ _ _ => False := by
  obtain ⟨μ, e⟩ := h
  refine ⟨H, [], [], [.scr ns], ⟨Same.refl _, rfl, List.nodup_nil, fun a h => by simp at h, fun n o a h => by simp at h⟩, ⟨.ref a, [], rfl, VR.scr_.mpr ⟨a, rfl, hS⟩, rfl⟩, rfl, ?_⟩
  unfold noX noXR
  rw [e]
  exact fun F' ι' H' v x s q => VR.bl_.mp (show VR K cad ι' F' (.bl true) v from q)
theorem bb_len : bootBuiltins "len" = some (.builtin "len") := by decide +kernel
theorem bb_max : bootBuiltins "max" = some (.builtin "max") := by decide +kernel
theorem bb_min : bootBuiltins "min" = some (.builtin "min") := by decide +kernel
theorem bb_sum : bootBuiltins "sum" = some (.builtin "sum") := by decide +kernel
theorem bb_sorted : bootBuiltins "sorted" = some (.builtin "sorted") := by decide +kernel
theorem bb_int : bootBuiltins "int" = some (.type "int") := by decide +kernel
theorem bb_list : bootBuiltins "list" = some (.type "list") := by decide +kernel
theorem bb_tuple : bootBuiltins "tuple" = some (.type "tuple") := by decide +kernel
end DL

/-! ### reckoning with the functions over data -/
namespace DL
open PySem L2
section
variable {α β : Type} {c : Prop} [Decidable c]
@[simp] theorem bind_ok' (a : α) (μ : Store) (f : α → Store → Res β) : (Res.ok a μ).bind f = f a μ := (rfl)
@[simp] theorem bind_ite (a b : Res α) (f : α → Store → Res β) : (if c then a else b).bind f = if c then a.bind f else b.bind f := by split <;> rfl
@[simp] theorem of_some (a : α) (μ : Store) : Res.of (some a) μ = .ok a μ := (rfl)
@[simp] theorem of_ite (a b : Option α) (μ : Store) : Res.of (if c then a else b) μ = if c then Res.of a μ else Res.of b μ := by split <;> rfl
@[simp] theorem seqR_nx (ρ : Ev) (μ : Store) (n : MS) : seqR (.ok (.nx, ρ) μ) n = n ρ μ := (rfl)
@[simp] theorem seqR_rt (rv : Rv) (ρ : Ev) (μ : Store) (n : MS) : seqR (.ok (.rt rv, ρ) μ) n = .ok (.rt rv, ρ) μ := (rfl)
@[simp] theorem seqR_ct (ρ : Ev) (μ : Store) (n : MS) : seqR (.ok (.ct, ρ) μ) n = .ok (.ct, ρ) μ := (rfl)
@[simp] theorem seqR_ite (a b : Res (Fl × Ev)) (n : MS) : seqR (if c then a else b) n = if c then seqR a n else seqR b n := by split <;> rfl
@[simp] theorem loopR_nx (ρ : Ev) (μ : Store) (n : MS) : loopR (.ok (.nx, ρ) μ) n = n ρ μ := (rfl)
@[simp] theorem loopR_rt (rv : Rv) (ρ : Ev) (μ : Store) (n : MS) : loopR (.ok (.rt rv, ρ) μ) n = .ok (.rt rv, ρ) μ := (rfl)
@[simp] theorem loopR_ite (a b : Res (Fl × Ev)) (n : MS) : loopR (if c then a else b) n = if c then loopR a n else loopR b n := by split <;> rfl
@[simp] theorem endR_rt (rv : Rv) (ρ : Ev) (μ : Store) : endR (.ok (.rt rv, ρ) μ) = .ok rv μ := (rfl)
@[simp] theorem endR_nx (ρ : Ev) (μ : Store) : endR (.ok (.nx, ρ) μ) = .ok (.sh .non) μ := (rfl)
@[simp] theorem endR_ite (a b : Res (Fl × Ev)) : endR (if c then a else b) = if c then endR a else endR b := by split <;> rfl
@[simp] theorem noXR_ok (rv : Rv) (μ : Store) : noXR (.ok rv μ) = .ok rv μ := (rfl)
end
/-! ### rows -/
abbrev Row := Int × Int × Int
def rowD (r : Row) : D := .tup [.int r.1, .int r.2.1, .int r.2.2]
@[simp] theorem rowD_mk (h a b : Int) : rowD (h, a, b) = .tup [.int h, .int a, .int b] := (rfl)
def rowP (r : Row) : PyData := .tuple [.int r.1, .int r.2.1, .int r.2.2]
theorem rowD_py (r : Row) : (rowD r).py = some (rowP r) := rfl
theorem rowsD_pys : ∀ rs : List Row, D.pys (rs.map rowD) = some (rs.map rowP)
  | [] => rfl
  | r :: rs => by
    show (D.py (rowD r)).bind (fun p => (D.pys (rs.map rowD)).map (p :: ·)) = _
    rw [rowD_py, rowsD_pys rs]
    rfl
theorem rowP_lay (r : Row) : (rowP r).canLay0 = true := rfl
theorem rowsP_lay : ∀ rs : List Row, PyData.canLayAll0 (rs.map rowP) = true
  | [] => rfl
  | r :: rs => by
    show ((rowP r).canLay0 && PyData.canLayAll0 (rs.map rowP)) = true
    rw [rowP_lay, rowsP_lay rs]
    rfl
theorem rowsP_depth : ∀ rs : List Row, PyData.depthAll (rs.map rowP) ≤ 1
  | [] => Nat.zero_le _
  | r :: rs => by
    show max (PyData.depth (rowP r)) (PyData.depthAll (rs.map rowP)) ≤ 1
    have h1 : PyData.depth (rowP r) = 1 := rfl
    have := rowsP_depth rs
    omega
theorem rowsP_shaped (rs : List Row) : SeqAt.shaped (.list (rs.map rowP)) = true := by
  unfold SeqAt.shaped
  rw [Bool.and_eq_true]
  refine ⟨rowsP_lay rs, decide_eq_true ?_⟩
  show PyData.depthAll (rs.map rowP) + 1 ≤ 64
  have := rowsP_depth rs
  omega
theorem rowP_eqv (r q : Row) : PyData.eqv (rowP r) (rowP q) = decide (r = q) := by
  obtain ⟨h, a, b⟩ := r
  obtain ⟨h', a', b'⟩ := q
  show ((h == h') && ((a == a') && ((b == b') && true))) = _
  rw [Bool.and_true]
  by_cases e1 : h = h' <;> by_cases e2 : a = a' <;> by_cases e3 : b = b' <;> simp [e1, e2, e3]
theorem rowsP_eqv : ∀ rs qs : List Row, PyData.eqvAll (rs.map rowP) (qs.map rowP) = decide (rs = qs)
  | [], [] => rfl
  | [], _ :: _ => rfl
  | _ :: _, [] => rfl
  | r :: rs, q :: qs => by
    show (PyData.eqv (rowP r) (rowP q) && PyData.eqvAll (rs.map rowP) (qs.map rowP)) = _
    rw [rowP_eqv, rowsP_eqv rs qs]
    by_cases e1 : r = q <;> by_cases e2 : rs = qs <;> simp [e1, e2]
theorem fEq_rows (rs qs : List Row) : fEq (.ob (.lst (rs.map rowD))) (.ob (.lst (qs.map rowD))) = some (.sh (.bl (decide (rs = qs)))) := by
  show (Option.bind ((D.pys (rs.map rowD)).map PyData.list) fun p => Option.bind ((D.pys (qs.map rowD)).map PyData.list) fun q => if SeqAt.shaped p = true ∧ SeqAt.shaped q = true then some (Rv.sh (.bl (id (PyData.eqv p q)))) else none) = _
  rw [rowsD_pys, rowsD_pys]
  show (if SeqAt.shaped (.list (rs.map rowP)) = true ∧ SeqAt.shaped (.list (qs.map rowP)) = true then some (Rv.sh (.bl (PyData.eqvAll (rs.map rowP) (qs.map rowP)))) else none) = _
  rw [if_pos ⟨rowsP_shaped rs, rowsP_shaped qs⟩, rowsP_eqv]
theorem fNe_rows (rs qs : List Row) : fNe (.ob (.lst (rs.map rowD))) (.ob (.lst (qs.map rowD))) = some (.sh (.bl (!decide (rs = qs)))) := by
  show (Option.bind ((D.pys (rs.map rowD)).map PyData.list) fun p => Option.bind ((D.pys (qs.map rowD)).map PyData.list) fun q => if SeqAt.shaped p = true ∧ SeqAt.shaped q = true then some (Rv.sh (.bl (not (PyData.eqv p q)))) else none) = _
  rw [rowsD_pys, rowsD_pys]
  show (if SeqAt.shaped (.list (rs.map rowP)) = true ∧ SeqAt.shaped (.list (qs.map rowP)) = true then some (Rv.sh (.bl (!(PyData.eqvAll (rs.map rowP) (qs.map rowP))))) else none) = _
  rw [if_pos ⟨rowsP_shaped rs, rowsP_shaped qs⟩, rowsP_eqv]
@[simp] theorem fEq_int (i j : Int) : fEq (.d (.int i)) (.d (.int j)) = some (.sh (.bl (decide (i = j)))) := by
  show some (Rv.sh (.bl (i == j))) = _
  rw [show (i == j) = decide (i = j) from rfl]
@[simp] theorem fNe_int (i j : Int) : fNe (.d (.int i)) (.d (.int j)) = some (.sh (.bl (!decide (i = j)))) := by
  show some (Rv.sh (.bl (!(i == j)))) = _
  rw [show (i == j) = decide (i = j) from rfl]
theorem fNe_rows_nil (rs : List Row) : fNe (.ob (.lst (rs.map rowD))) (.ob (.lst [])) = some (.sh (.bl (!decide (rs = [])))) := fNe_rows rs []
theorem fEq_rows_nil (rs : List Row) : fEq (.ob (.lst (rs.map rowD))) (.ob (.lst [])) = some (.sh (.bl (decide (rs = [])))) := fEq_rows rs []
/-- sorted rows -/
def rowL (r : Row) : List Int := [r.1, r.2.1, r.2.2]
def rowLt (r q : Row) : Bool := HT.lexLt (rowL r) (rowL q)
def insR (x : Row) : List Row → List Row
  | [] => [x]
  | y :: ys => if rowLt y x = true then y :: insR x ys else x :: y :: ys
def sortR : List Row → List Row
  | [] => []
  | x :: xs => insR x (sortR xs)
theorem insR_L (x : Row) : ∀ l : List Row, (insR x l).map rowL = insL (rowL x) (l.map rowL)
  | [] => rfl
  | y :: ys => by
    unfold insR
    rw [List.map_cons, insL]
    show List.map rowL (if HT.lexLt (rowL y) (rowL x) = true then y :: insR x ys else x :: y :: ys) = _
    split
    · rw [List.map_cons, insR_L x ys]
    · rfl
theorem sortR_L : ∀ l : List Row, (sortR l).map rowL = sortL (l.map rowL)
  | [] => rfl
  | x :: xs => by
    show (insR x (sortR xs)).map rowL = insL (rowL x) (sortL (xs.map rowL))
    rw [insR_L, sortR_L xs]
theorem rows_intss : ∀ rs : List Row, D.intss (rs.map rowD) = some (rs.map rowL)
  | [] => rfl
  | r :: rs => by
    show ((D.ints [.int r.1, .int r.2.1, .int r.2.2]).bind fun ns => if ns = [] then none else (D.intss (rs.map rowD)).map (ns :: ·)) = _
    rw [rows_intss rs]
    rfl
theorem intsD_rowL (r : Row) : intsD (rowL r) = rowD r := rfl
theorem fSorted_rows (rs : List Row) : fSorted [.ob (.lst (rs.map rowD))] = some (.own (.lst ((sortR rs).map rowD))) := by
  cases rs with
  | nil => rfl
  | cons r rs =>
    show (match D.ints ((r :: rs).map rowD) with | some ns => some (Rv.own (.lst ((sortI ns).map .int))) | none => (D.intss ((r :: rs).map rowD)).map fun nss => .own (.lst ((sortL nss).map intsD))) = _
    have e : D.ints ((r :: rs).map rowD) = none := rfl
    rw [e, rows_intss]
    show some (Rv.own (.lst ((sortL ((r :: rs).map rowL)).map intsD))) = _
    rw [← sortR_L, List.map_map]
    rfl
end DL

/-! ### what the pieces do, for simp -/
namespace DL
open PySem L2
section
variable {ρ : Ev} {μ : Store} {a b c d m : ME} {t u : MT} {s n : MS} {as : MA} {os : Ev → Store → Res (List Op)} {i : Nat}
@[simp] theorem x_mIf : mIf t s n ρ μ = (t ρ μ).bind fun c μ1 => if c = true then s ρ μ1 else n ρ μ1 := (rfl)
@[simp] theorem x_mAnd : mAnd t u ρ μ = (t ρ μ).bind fun c μ1 => if c = true then u ρ μ1 else .ok false μ1 := (rfl)
@[simp] theorem x_mOr : mOr t u ρ μ = (t ρ μ).bind fun c μ1 => if c = true then .ok true μ1 else u ρ μ1 := (rfl)
@[simp] theorem x_mNot : mNot t ρ μ = (t ρ μ).bind fun c μ1 => .ok (!c) μ1 := (rfl)
def mTR (o : Op) (μ : Store) : Res Bool := match o with
  | .sh (.bl b) => .ok b μ
  | _ => .stk
@[simp] theorem x_mT : mT m ρ μ = (m ρ μ).bind mTR := (rfl)
@[simp] theorem x_mTR {k : Bool} : mTR (.sh (.bl k)) μ = .ok k μ := (rfl)
@[simp] theorem x_eB : eB t ρ μ = (t ρ μ).bind fun b μ1 => .ok (.sh (.bl b)) μ1 := (rfl)
@[simp] theorem x_eIf : eIf t a b ρ μ = (t ρ μ).bind fun c μ1 => if c = true then a ρ μ1 else b ρ μ1 := (rfl)
@[simp] theorem x_e2 {f} : e2 f a b ρ μ = (a ρ μ).bind fun x μ1 => (b ρ μ1).bind fun y μ2 => Res.of (fin2 f ρ μ2 x y) μ2 := (rfl)
@[simp] theorem x_e1 {f} : e1 f a ρ μ = (a ρ μ).bind fun x μ1 => Res.of ((deref ρ μ1 x).bind fun wx => (f wx).map Rv.op) μ1 := (rfl)
@[simp] theorem x_eC {d : D} : eC d ρ μ = .ok (.sh d) μ := (rfl)
def eVarR (i : Nat) (μ : Store) : Option Sl → Res Op
  | some (.sh d) => .ok (.sh d) μ
  | some (.own _) => .ok (.slot i) μ
  | _ => .stk
@[simp] theorem x_eVar : eVar i ρ μ = eVarR i μ ρ[i]? := by
  unfold eVar eVarR
  cases ρ[i]? with
  | none => rfl
  | some s => cases s <;> rfl
@[simp] theorem x_eVarR1 {d : D} : eVarR i μ (some (.sh d)) = .ok (.sh d) μ := (rfl)
@[simp] theorem x_eVarR2 {o : Ob} : eVarR i μ (some (.own o)) = .ok (.slot i) μ := (rfl)
@[simp] theorem x_fin2 {f x y} : fin2 f ρ μ x y = (deref ρ μ x).bind fun wx => (deref ρ μ y).bind fun wy => (f wx wy).map Rv.op := (rfl)
@[simp] theorem x_der1 {d : D} : deref ρ μ (.sh d) = d.vw μ := (rfl)
@[simp] theorem x_der2 {o : Ob} : deref ρ μ (.own o) = o.rd.map .ob := (rfl)
def slotR : Option Sl → Option Ob
  | some (.own o) => some o
  | _ => none
@[simp] theorem x_slotR {o : Ob} : slotR (some (.own o)) = some o := (rfl)
@[simp] theorem x_der3 : deref ρ μ (.slot i) = (slotR ρ[i]?).bind fun o => o.rd.map .ob := by
  show (match ρ[i]? with | some (.own o) => o.rd.map Vw.ob | _ => none) = _
  cases ρ[i]? with
  | none => rfl
  | some s => cases s <;> rfl
@[simp] theorem x_rd1 {xs : List D} : Ob.rd (.lst xs) = some (.lst xs) := (rfl)
@[simp] theorem x_rd2 {kvs} : Ob.rd (.dK kvs) = some (.dK kvs) := (rfl)
@[simp] theorem x_rd3 {kvs} : Ob.rd (.dT kvs) = some (.dT kvs) := (rfl)
@[simp] theorem x_vw1 {i : Int} : D.vw μ (.int i) = some (.d (.int i)) := (rfl)
@[simp] theorem x_vw2 {k : Bool} : D.vw μ (.bl k) = some (.d (.bl k)) := (rfl)
@[simp] theorem x_vw3 {k} : D.vw μ (.tup k) = some (.d (.tup k)) := (rfl)
@[simp] theorem x_vw4 {k} : D.vw μ (.lst k) = some (.ob (.lst k)) := (rfl)
@[simp] theorem x_vw5 {k} : D.vw μ (.str k) = some (.d (.str k)) := (rfl)
@[simp] theorem x_vw6 {k} : D.vw μ (.scr k) = some (.d (.scr k)) := (rfl)
@[simp] theorem x_vw7 {k} : D.vw μ (.loc k) = (μ[k]?).bind fun o => o.rd.map .ob := (rfl)
@[simp] theorem x_vw8 : D.vw μ .non = some (.d .non) := (rfl)
@[simp] theorem x_op1 {d : D} : Rv.op (.sh d) = .sh d := (rfl)
@[simp] theorem x_op2 {o : Ob} : Rv.op (.own o) = .own o := (rfl)
@[simp] theorem x_toD : toD m ρ μ = (m ρ μ).bind fun o μ' => Res.of o.toD μ' := (rfl)
@[simp] theorem x_toD1 {d : D} : Op.toD (.sh d) = some d := (rfl)
@[simp] theorem x_toD2 {d} : Op.toD (.own (.lst d)) = some (.lst d) := (rfl)
@[simp] theorem x_aNil : aNil ρ μ = .ok [] μ := (rfl)
@[simp] theorem x_oNil : oNil ρ μ = .ok [] μ := (rfl)
@[simp] theorem x_aCons : aCons m as ρ μ = (toD m ρ μ).bind fun d μ1 => (as ρ μ1).bind fun ds μ2 => .ok (d :: ds) μ2 := (rfl)
@[simp] theorem x_oCons : oCons m os ρ μ = (m ρ μ).bind fun d μ1 => (os ρ μ1).bind fun ds μ2 => .ok (d :: ds) μ2 := (rfl)
@[simp] theorem x_eTup : eTup as ρ μ = (as ρ μ).bind fun ds μ1 => if ds.length ≤ 16777216 then .ok (.sh (.tup ds)) μ1 else .stk := (rfl)
@[simp] theorem x_eLst : eLst as ρ μ = (as ρ μ).bind fun ds μ1 => if ds.length ≤ 16777216 then .ok (.own (.lst ds)) μ1 else .stk := (rfl)
@[simp] theorem x_eCB {f} : eCB f os ρ μ = (os ρ μ).bind fun os μ1 => Res.of ((derefs ρ μ1 os).bind fun ws => (f ws).map Rv.op) μ1 := (rfl)
@[simp] theorem x_derefs1 : derefs ρ μ [] = some [] := (rfl)
@[simp] theorem x_derefs2 {o os} : derefs ρ μ (o :: os) = (deref ρ μ o).bind fun w => (derefs ρ μ os).map (w :: ·) := (rfl)
def setItR (ρ : Ev) (μ : Store) (oo : Op) : Option Ob → Res (Fl × Ev)
  | some ob' => putRes ρ μ oo ob'
  | none => .stk
@[simp] theorem x_setItR {oo ob} : setItR ρ μ oo (some ob) = putRes ρ μ oo ob := (rfl)
@[simp] theorem x_mSetIt : mSetIt a b c ρ μ = (toD a ρ μ).bind fun d μ1 => (b ρ μ1).bind fun oo μ2 => (toD c ρ μ2).bind fun k μ3 => setItR ρ μ3 oo ((getOb ρ μ3 oo).bind fun ob => fSet ob k d) := (rfl)
@[simp] theorem x_putRes {o ob} : putRes ρ μ o ob = .ok (.nx, (putOb ρ μ o ob).1) (putOb ρ μ o ob).2 := (rfl)
@[simp] theorem x_putOb1 {ob} : putOb ρ μ (.slot i) ob = (ρ.set i (.own ob), μ) := (rfl)
@[simp] theorem x_putOb2 {ob} : putOb ρ μ (.sh (.loc i)) ob = (ρ, μ.set i ob) := (rfl)
@[simp] theorem x_getOb1 : getOb ρ μ (.slot i) = slotR ρ[i]? := by
  show (match ρ[i]? with | some (.own o) => some o | _ => none) = _
  cases ρ[i]? with
  | none => rfl
  | some s => cases s <;> rfl
@[simp] theorem x_getOb2 : getOb ρ μ (.sh (.loc i)) = μ[i]? := (rfl)
def lstR : Option Ob → Option (List D)
  | some (.lst xs) => some xs
  | _ => none
@[simp] theorem x_lstR {xs} : lstR (some (.lst xs)) = some xs := (rfl)
@[simp] theorem x_lstAt {o} : lstAt ρ μ o = lstR (getOb ρ μ o) := by
  unfold lstAt lstR
  cases getOb ρ μ o with
  | none => rfl
  | some s => cases s <;> rfl
def appR2 (ρ : Ev) (μ : Store) (o : Op) (d : D) : Option (List D) → Res (Fl × Ev)
  | none => .stk
  | some xs => if xs.length < 16777216 then putRes ρ μ o (.lst (xs ++ [d])) else .stk
@[simp] theorem x_appR2 {o d xs} : appR2 ρ μ o d (some xs) = if xs.length < 16777216 then putRes ρ μ o (.lst (xs ++ [d])) else .stk := (rfl)
def appR (a : ME) (ρ : Ev) (μ : Store) (o : Op) : Option (List D) → Res (Fl × Ev)
  | none => .stk
  | some _ => (toD a ρ μ).bind fun d μ2 => appR2 ρ μ2 o d (lstAt ρ μ2 o)
@[simp] theorem x_appR {o xs} : appR a ρ μ o (some xs) = (toD a ρ μ).bind fun d μ2 => appR2 ρ μ2 o d (lstAt ρ μ2 o) := (rfl)
@[simp] theorem x_mApp : mApp b a ρ μ = (b ρ μ).bind fun o μ1 => appR a ρ μ1 o (lstAt ρ μ1 o) := (rfl)
@[simp] theorem x_mSeq : mSeq s n ρ μ = seqR (s ρ μ) n := (rfl)
@[simp] theorem x_mNx : mNx ρ μ = .ok (.nx, ρ) μ := (rfl)
@[simp] theorem x_mSet : mSet i a ρ μ = (toD a ρ μ).bind fun d μ1 => .ok (.nx, ρ.set i (.sh d)) μ1 := (rfl)
def ownR (ρ : Ev) (i : Nat) (o : Op) (μ : Store) : Res (Fl × Ev) := match o with
  | .own ob => .ok (.nx, ρ.set i (.own ob)) μ
  | _ => .stk
@[simp] theorem x_ownR {ob} : ownR ρ i (.own ob) μ = .ok (.nx, ρ.set i (.own ob)) μ := (rfl)
@[simp] theorem x_mOwn : mOwn i a ρ μ = (a ρ μ).bind (ownR ρ i) := (rfl)
def retR (ρ : Ev) (μ : Store) : Option Rv → Res (Fl × Ev)
  | some rv => .ok (.rt rv, ρ) μ
  | none => .stk
@[simp] theorem x_retR {rv} : retR ρ μ (some rv) = .ok (.rt rv, ρ) μ := (rfl)
@[simp] theorem x_mRet : mRet a ρ μ = (a ρ μ).bind fun o μ1 => retR ρ μ1 (opRv ρ o) := (rfl)
@[simp] theorem x_opRv1 {d} : opRv ρ (.sh d) = some (.sh d) := (rfl)
@[simp] theorem x_opRv2 {d} : opRv ρ (.own d) = some (.own d) := (rfl)
@[simp] theorem x_opRv3 : opRv ρ (.slot i) = (slotR ρ[i]?).map .own := by
  show (match ρ[i]? with | some (.own o) => some (Rv.own o) | _ => none) = _
  cases ρ[i]? with
  | none => rfl
  | some s => cases s <;> rfl
@[simp] theorem x_mDrop : mDrop a ρ μ = (a ρ μ).bind fun _ μ1 => .ok (.nx, ρ) μ1 := (rfl)
@[simp] theorem x_mFor {it g} : mFor it g s ρ μ = (it ρ μ).bind fun xs μ1 => forL g s xs ρ μ1 := (rfl)
@[simp] theorem x_iSeq : iSeq m ρ μ = (toD m ρ μ).bind fun d μ1 => Res.of d.items μ1 := (rfl)
@[simp] theorem x_items1 {ds} : D.items (.lst ds) = some ds := (rfl)
@[simp] theorem x_items2 {ds} : D.items (.tup ds) = some ds := (rfl)
@[simp] theorem x_items3 {ns} : D.items (.scr ns) = some (ns.map .int) := (rfl)
def range1R (d : D) (μ : Store) : Res (List D) := match d with
  | .int n => Res.of (rangeD 0 n) μ
  | _ => .stk
@[simp] theorem x_range1R {n} : range1R (.int n) μ = Res.of (rangeD 0 n) μ := (rfl)
@[simp] theorem x_iRange1 : iRange1 m ρ μ = (toD m ρ μ).bind range1R := (rfl)
def enumR (d : D) (μ : Store) : Res (List D) := match d with
  | .lst ds => .ok (enumD ds) μ
  | _ => .stk
@[simp] theorem x_enumR {ds} : enumR (.lst ds) μ = .ok (enumD ds) μ := (rfl)
@[simp] theorem x_iEnumD : iEnumD m ρ μ = (toD m ρ μ).bind enumR := (rfl)
@[simp] theorem x_gT {is ds} : gT is (.tup ds) ρ = if ds.length = is.length then some (setsE is ds ρ) else none := (rfl)
@[simp] theorem x_gN {d} : gN i d ρ = some (ρ.set i (.sh d)) := (rfl)
@[simp] theorem x_setsE1 {is d ds} : setsE (i :: is) (d :: ds) ρ = setsE is ds (ρ.set i (.sh d)) := (rfl)
@[simp] theorem x_setsE2 : setsE [] [] ρ = ρ := (rfl)
@[simp] theorem x_eCall {f} : eCall f as ρ μ = (as ρ μ).bind fun ds μ1 => (f ds μ1).bind fun rv μ2 => .ok rv.op μ2 := (rfl)
@[simp] theorem x_noX {f ds} : noX f ds μ = noXR (f ds μ) := (rfl)
@[simp] theorem x_eLc {it g ws} : eLc it g ws t a ρ μ = (it ρ μ).bind fun xs μ1 => (lcL g t a (wipeE ρ ws) xs μ1 []).bind fun ds μ2 => .ok (.own (.lst ds)) μ2 := (rfl)
@[simp] theorem x_mYes : mYes ρ μ = .ok true μ := (rfl)
def frzR (ρ : Ev) (i : Nat) (μ : Store) : Option Ob → Res (Fl × Ev)
  | some o => (match frzD o with
    | some d => .ok (.nx, ρ.set i (.sh d)) μ
    | none => .stk)
  | none => .stk
@[simp] theorem x_frzR {xs} : frzR ρ i μ (some (.lst xs)) = .ok (.nx, ρ.set i (.sh (.lst xs))) μ := (rfl)
@[simp] theorem x_mFrz : mFrz i ρ μ = frzR ρ i μ (slotR ρ[i]?) := by
  unfold mFrz
  cases ρ[i]? with
  | none => rfl
  | some s => cases s <;> rfl
@[simp] theorem x_runB {n p ds} : runB n p s ds μ = if ds.length = p then endR (s (startE n ds) μ) else .stk := (rfl)
@[simp] theorem x_startE {n ds} : startE n ds = ds.map .sh ++ List.replicate (n - ds.length) .no := (rfl)
@[simp] theorem x_eCh2 {f g} : eCh2 f g a b c ρ μ = (a ρ μ).bind fun x μ1 => (b ρ μ1).bind fun y μ2 => chainE f ρ μ2 x y fun μ2 => (c ρ μ2).bind fun z μ3 => Res.of (fin2 g ρ μ3 y z) μ3 := (rfl)
@[simp] theorem x_eCh3 {f g h} : eCh3 f g h a b c d ρ μ = (a ρ μ).bind fun x μ1 => (b ρ μ1).bind fun y μ2 => chainE f ρ μ2 x y fun μ2 => (c ρ μ2).bind fun z μ3 => chainE g ρ μ3 y z fun μ3 => (d ρ μ3).bind fun u μ4 => Res.of (fin2 h ρ μ4 z u) μ4 := (rfl)
def chR (μ : Store) (k : Store → Res Op) : Option Op → Res Op
  | some (.sh (.bl c)) => if c = true then k μ else .ok (.sh (.bl false)) μ
  | _ => .stk
@[simp] theorem x_chR {k} {c : Bool} : chR μ k (some (.sh (.bl c))) = if c = true then k μ else .ok (.sh (.bl false)) μ := (rfl)
@[simp] theorem x_chainE {f x y k} : chainE f ρ μ x y k = chR μ k (fin2 f ρ μ x y) := (rfl)
@[simp] theorem x_mPar {is} : mPar is as ρ μ = (as ρ μ).bind fun ds μ1 => if ds.length = is.length then .ok (.nx, setsE is ds ρ) μ1 else .stk := (rfl)
@[simp] theorem x_wipe1 : wipeE ρ [] = ρ := (rfl)
@[simp] theorem x_wipe2 {vs} : wipeE ρ (i :: vs) = (wipeE ρ vs).set i .no := (rfl)
@[simp] theorem x_eDK : eDK ρ μ = .ok (.own (.dK [])) μ := (rfl)
end
/-! ### numbers -/
@[simp] theorem fAdd_int (i j : Int) : fAdd (.d (.int i)) (.d (.int j)) = some (.sh (.int (i + j))) := (rfl)
@[simp] theorem fAdd_lst (xs ys : List D) : fAdd (.ob (.lst xs)) (.ob (.lst ys)) = if xs.length + ys.length ≤ 16777216 then some (.own (.lst (xs ++ ys))) else none := (rfl)
@[simp] theorem fSub_int (i j : Int) : fSub (.d (.int i)) (.d (.int j)) = some (.sh (.int (i - j))) := (rfl)
@[simp] theorem fLe_int (i j : Int) : fLe (.d (.int i)) (.d (.int j)) = some (.sh (.bl (decide (i ≤ j)))) := (rfl)
@[simp] theorem fLt_int (i j : Int) : fLt (.d (.int i)) (.d (.int j)) = some (.sh (.bl (decide (i < j)))) := (rfl)
@[simp] theorem fGe_int (i j : Int) : fGe (.d (.int i)) (.d (.int j)) = some (.sh (.bl (decide (j ≤ i)))) := (rfl)
@[simp] theorem fGt_int (i j : Int) : fGt (.d (.int i)) (.d (.int j)) = some (.sh (.bl (decide (j < i)))) := (rfl)
@[simp] theorem fNeg_int (i : Int) : fNeg (.d (.int i)) = some (.sh (.int (-i))) := (rfl)
@[simp] theorem fMax2_int (i j : Int) : fMax2 [.d (.int i), .d (.int j)] = some (.sh (.int (max i j))) := (rfl)
@[simp] theorem fMin2_int (i j : Int) : fMin2 [.d (.int i), .d (.int j)] = some (.sh (.int (min i j))) := (rfl)
@[simp] theorem fLen_tup (ds : List D) : fLen [.d (.tup ds)] = some (.sh (.int ds.length)) := (rfl)
@[simp] theorem fLen_lst (ds : List D) : fLen [.ob (.lst ds)] = some (.sh (.int ds.length)) := (rfl)
@[simp] theorem fLen_scr (ds : List Int) : fLen [.d (.scr ds)] = some (.sh (.int ds.length)) := (rfl)
@[simp] theorem fIx_row0 (a b c : D) : fIx (.d (.tup [a, b, c])) (.d (.int 0)) = some (.sh a) := (rfl)
@[simp] theorem fIx_row1 (a b c : D) : fIx (.d (.tup [a, b, c])) (.d (.int 1)) = some (.sh b) := (rfl)
@[simp] theorem fIx_row2 (a b c : D) : fIx (.d (.tup [a, b, c])) (.d (.int 2)) = some (.sh c) := (rfl)
theorem ixN_snoc {α : Type} (xs : List α) (d : α) : ixN (xs ++ [d]).length (-1) = some xs.length := by
  unfold ixN
  rw [if_neg (by omega), if_pos (by simp only [List.length_append, List.length_singleton]; omega)]
  congr 1
  simp only [List.length_append, List.length_singleton]
  omega
theorem set_snoc {α : Type} (xs : List α) (d e : α) : (xs ++ [d]).set xs.length e = xs ++ [e] := by
  rw [List.set_append_right _ _ (Nat.le_refl _), Nat.sub_self]
  rfl
@[simp] theorem fSet_snoc (xs : List D) (d e : D) : fSet (.lst (xs ++ [d])) (.int (-1)) e = some (.lst (xs ++ [e])) := by
  show (ixN (xs ++ [d]).length (-1)).map (fun j => Ob.lst ((xs ++ [d]).set j e)) = _
  rw [ixN_snoc]
  show some (Ob.lst ((xs ++ [d]).set xs.length e)) = _
  rw [set_snoc]
@[simp] theorem fIx_snoc (xs : List D) (d : D) : fIx (.ob (.lst (xs ++ [d]))) (.d (.int (-1))) = some (.sh d) := by
  show (atI (xs ++ [d]) (-1)).map Rv.sh = _
  rw [atI_last]
  rfl
end DL

/-! ### the plain theory of stretches -/
namespace St
abbrev Row := Int × Int × Int
def In (rs : List Row) (h n : Int) : Prop := ∃ r ∈ rs, r.1 = h ∧ r.2.1 ≤ n ∧ n ≤ r.2.2
def Ok (r : Row) : Prop := r.2.1 ≤ r.2.2
def Sep (a b : Row) : Prop := a.1 < b.1 ∨ (a.1 = b.1 ∧ a.2.2 + 1 < b.2.1)
def Canon (rs : List Row) : Prop := (∀ r ∈ rs, Ok r) ∧ rs.Pairwise Sep
theorem in_nil {h n : Int} : ¬ In [] h n := fun ⟨r, hr, _⟩ => by simp at hr
theorem in_cons {r : Row} {rs : List Row} {h n : Int} : In (r :: rs) h n ↔ (r.1 = h ∧ r.2.1 ≤ n ∧ n ≤ r.2.2) ∨ In rs h n := by
  constructor
  · rintro ⟨q, hq, z⟩
    rcases List.mem_cons.mp hq with e | e
    · exact .inl (e ▸ z)
    · exact .inr ⟨q, e, z⟩
  · rintro (z | ⟨q, hq, z⟩)
    · exact ⟨r, List.mem_cons_self, z⟩
    · exact ⟨q, List.mem_cons_of_mem _ hq, z⟩
theorem in_append {rs qs : List Row} {h n : Int} : In (rs ++ qs) h n ↔ In rs h n ∨ In qs h n := by
  constructor
  · rintro ⟨q, hq, z⟩
    rcases List.mem_append.mp hq with e | e
    · exact .inl ⟨q, e, z⟩
    · exact .inr ⟨q, e, z⟩
  · rintro (⟨q, hq, z⟩ | ⟨q, hq, z⟩)
    · exact ⟨q, List.mem_append_left _ hq, z⟩
    · exact ⟨q, List.mem_append_right _ hq, z⟩
theorem in_perm {rs qs : List Row} (p : rs.Perm qs) {h n : Int} : In rs h n ↔ In qs h n :=
  ⟨fun ⟨r, hr, z⟩ => ⟨r, p.mem_iff.mp hr, z⟩, fun ⟨r, hr, z⟩ => ⟨r, p.mem_iff.mpr hr, z⟩⟩
theorem canon_nil : Canon [] := ⟨fun r h => by simp at h, List.Pairwise.nil⟩
theorem canon_cons {r : Row} {rs : List Row} : Canon (r :: rs) ↔ Ok r ∧ (∀ q ∈ rs, Sep r q) ∧ Canon rs := by
  unfold Canon
  rw [List.pairwise_cons]
  constructor
  · rintro ⟨h1, h2, h3⟩
    exact ⟨h1 r List.mem_cons_self, h2, fun q hq => h1 q (List.mem_cons_of_mem _ hq), h3⟩
  · rintro ⟨h1, h2, h3, h4⟩
    refine ⟨fun q hq => ?_, h2, h4⟩
    rcases List.mem_cons.mp hq with e | e
    · exact e ▸ h1
    · exact h3 q e
theorem canon_append {rs qs : List Row} (h1 : Canon rs) (h2 : Canon qs) (h : ∀ r ∈ rs, ∀ q ∈ qs, Sep r q) : Canon (rs ++ qs) :=
  ⟨fun r hr => (List.mem_append.mp hr).elim (h1.1 r) (h2.1 r), List.pairwise_append.mpr ⟨h1.2, h2.2, h⟩⟩
/-- the first row of a canonical list is least -/
theorem head_le {x : Row} {xs : List Row} (c : Canon (x :: xs)) {h n : Int} (i : In (x :: xs) h n) : x.1 < h ∨ (x.1 = h ∧ x.2.1 ≤ n) := by
  obtain ⟨k1, k2, _⟩ := canon_cons.mp c
  rcases in_cons.mp i with ⟨e1, e2, _⟩ | ⟨r, hr, e1, e2, e3⟩
  · exact .inr ⟨e1, e2⟩
  · have k1 : x.2.1 ≤ x.2.2 := k1
    rcases k2 r hr with s | ⟨s1, s2⟩
    · omega
    · exact .inr ⟨by omega, by omega⟩
theorem in_first {x : Row} {xs : List Row} (h : Ok x) : In (x :: xs) x.1 x.2.1 := in_cons.mpr (.inl ⟨rfl, Int.le_refl _, h⟩)
/-- beyond the first row's end nothing follows at once -/
theorem in_next {x : Row} {xs : List Row} (c : Canon (x :: xs)) : ¬ In (x :: xs) x.1 (x.2.2 + 1) := by
  obtain ⟨k1, k2, _⟩ := canon_cons.mp c
  intro i
  rcases in_cons.mp i with ⟨_, _, e⟩ | ⟨r, hr, e1, e2, e3⟩
  · omega
  · rcases k2 r hr with s | ⟨s1, s2⟩ <;> omega
/-- a set has one canonical list -/
theorem canon_ext : ∀ {xs ys : List Row}, Canon xs → Canon ys → (∀ h n, In xs h n ↔ In ys h n) → xs = ys
  | [], [], _, _, _ => rfl
  | [], y :: ys, _, c, e => absurd ((e _ _).mpr (in_first (canon_cons.mp c).1)) in_nil
  | x :: xs, [], c, _, e => absurd ((e _ _).mp (in_first (canon_cons.mp c).1)) in_nil
  | x :: xs, y :: ys, cx, cy, e => by
    obtain ⟨x1, x2, x3⟩ := canon_cons.mp cx
    obtain ⟨y1, y2, y3⟩ := canon_cons.mp cy
    have a1 := head_le cy ((e _ _).mp (in_first (xs := xs) x1))
    have a2 := head_le cx ((e _ _).mpr (in_first (xs := ys) y1))
    have e1 : x.1 = y.1 := by omega
    have e2 : x.2.1 = y.2.1 := by omega
    have x1' : x.2.1 ≤ x.2.2 := x1
    have y1' : y.2.1 ≤ y.2.2 := y1
    have e3 : x.2.2 = y.2.2 := by
      rcases Int.lt_trichotomy x.2.2 y.2.2 with l | l | l
      · exact absurd ((e _ _).mpr (in_cons.mpr (.inl ⟨e1.symm, by omega, by omega⟩))) (in_next cx)
      · exact l
      · exact absurd ((e _ _).mp (in_cons.mpr (.inl ⟨e1, by omega, by omega⟩))) (in_next cy)
    have exy : x = y := by
      obtain ⟨a, b, c⟩ := x
      obtain ⟨a', b', c'⟩ := y
      simp only at e1 e2 e3
      rw [e1, e2, e3]
    subst exy
    rw [canon_ext x3 y3 fun h n => ?_]
    constructor
    · rintro ⟨r, hr, r1, r2, r3⟩
      rcases in_cons.mp ((e h n).mp (in_cons.mpr (.inr ⟨r, hr, r1, r2, r3⟩))) with ⟨z1, z2, z3⟩ | z
      · rcases x2 r hr with s | ⟨s1, s2⟩ <;> omega
      · exact z
    · rintro ⟨r, hr, r1, r2, r3⟩
      rcases in_cons.mp ((e h n).mpr (in_cons.mpr (.inr ⟨r, hr, r1, r2, r3⟩))) with ⟨z1, z2, z3⟩ | z
      · rcases y2 r hr with s | ⟨s1, s2⟩ <;> omega
      · exact z
/-! ### merged -/
def mergeR : Row → List Row → List Row
  | l, [] => [l]
  | l, r :: rs => if l.1 = r.1 ∧ r.2.1 ≤ l.2.2 + 1 then mergeR (l.1, l.2.1, max l.2.2 r.2.2) rs else l :: mergeR r rs
def mergeS : List Row → List Row
  | [] => []
  | r :: rs => mergeR r rs
/-- by house and first -/
def Le (a b : Row) : Prop := a.1 < b.1 ∨ (a.1 = b.1 ∧ a.2.1 ≤ b.2.1)
theorem mergeR_ok : ∀ (rs : List Row) (l : Row), (∀ r ∈ l :: rs, Ok r) → (l :: rs).Pairwise Le → Canon (mergeR l rs) ∧ (∀ h n, In (mergeR l rs) h n ↔ In (l :: rs) h n) ∧ (∀ q ∈ mergeR l rs, Le l q)
  | [], l, ho, _ => ⟨canon_cons.mpr ⟨ho l List.mem_cons_self, fun q hq => by simp at hq, canon_nil⟩, fun _ _ => Iff.rfl, fun q hq => by
      have : q = l := by simpa [mergeR] using hq
      rw [this]
      exact .inr ⟨rfl, Int.le_refl _⟩⟩
  | r :: rs, l, ho, hs => by
    obtain ⟨s1, s2⟩ := List.pairwise_cons.mp hs
    obtain ⟨s3, s4⟩ := List.pairwise_cons.mp s2
    have ol : l.2.1 ≤ l.2.2 := ho l List.mem_cons_self
    have orr : r.2.1 ≤ r.2.2 := ho r (List.mem_cons_of_mem _ List.mem_cons_self)
    have lr := s1 r List.mem_cons_self
    unfold mergeR
    split
    · next c =>
      obtain ⟨c1, c2⟩ := c
      have ih := mergeR_ok rs (l.1, l.2.1, max l.2.2 r.2.2) (fun q hq => ?_) (List.pairwise_cons.mpr ⟨fun q hq => s1 q (List.mem_cons_of_mem _ hq), s4⟩)
      · obtain ⟨i1, i2, i3⟩ := ih
        refine ⟨i1, fun h n => ?_, i3⟩
        rw [i2, in_cons, in_cons, in_cons]
        show (l.1 = h ∧ l.2.1 ≤ n ∧ n ≤ max l.2.2 r.2.2) ∨ _ ↔ _
        rcases lr with z | ⟨z1, z2⟩
        · omega
        constructor
        · rintro (⟨a, b, c⟩ | z)
          · by_cases q : n ≤ l.2.2
            · exact .inl ⟨a, b, q⟩
            · exact .inr (.inl ⟨by omega, by omega, by omega⟩)
          · exact .inr (.inr z)
        · rintro (⟨a, b, c⟩ | ⟨a, b, c⟩ | z)
          · exact .inl ⟨a, b, by omega⟩
          · exact .inl ⟨by omega, by omega, by omega⟩
          · exact .inr z
      · rcases List.mem_cons.mp hq with e | e
        · rw [e]
          show l.2.1 ≤ max l.2.2 r.2.2
          omega
        · exact ho q (List.mem_cons_of_mem _ (List.mem_cons_of_mem _ e))
    · next c =>
      obtain ⟨i1, i2, i3⟩ := mergeR_ok rs r (fun q hq => ho q (List.mem_cons_of_mem _ hq)) s2
      have sep : ∀ q ∈ mergeR r rs, Sep l q := fun q hq => by
        have a := i3 q hq
        unfold Sep
        unfold Le at a lr
        omega
      refine ⟨canon_cons.mpr ⟨ol, sep, i1⟩, fun h n => ?_, fun q hq => ?_⟩
      · rw [in_cons, in_cons, i2]
      · rcases List.mem_cons.mp hq with e | e
        · rw [e]
          exact .inr ⟨rfl, Int.le_refl _⟩
        · have a := i3 q e
          unfold Le at a lr ⊢
          omega
theorem mergeS_ok {rs : List Row} (ho : ∀ r ∈ rs, Ok r) (hs : rs.Pairwise Le) : Canon (mergeS rs) ∧ ∀ h n, In (mergeS rs) h n ↔ In rs h n := by
  cases rs with
  | nil => exact ⟨canon_nil, fun _ _ => Iff.rfl⟩
  | cons r rs =>
    obtain ⟨a, b, _⟩ := mergeR_ok rs r ho hs
    exact ⟨a, b⟩
theorem mergeR_len : ∀ (rs : List Row) (l : Row), (mergeR l rs).length ≤ rs.length + 1
  | [], _ => Nat.le_refl _
  | r :: rs, l => by
    unfold mergeR
    split
    · have := mergeR_len rs (l.1, l.2.1, max l.2.2 r.2.2)
      simp only [List.length_cons]
      omega
    · have := mergeR_len rs r
      simp only [List.length_cons]
      omega
/-! ### what of one isn't in the other -/
def cutL (h last : Int) : Int → List Row → List Row
  | first, [] => if first ≤ last then [(h, first, last)] else []
  | first, o :: os => if o.1 = h ∧ o.2.1 ≤ last ∧ first ≤ o.2.2 then (if first < o.2.1 then [(h, first, o.2.1 - 1)] else []) ++ cutL h last (o.2.2 + 1) os else cutL h last first os
def cutOut (xs ys : List Row) : List Row := xs.flatMap fun r => cutL r.1 r.2.2 r.2.1 ys
theorem cutL_mem {h last : Int} : ∀ {os : List Row} {first : Int} {q : Row}, Canon os → q ∈ cutL h last first os → q.1 = h ∧ first ≤ q.2.1 ∧ q.2.1 ≤ q.2.2 ∧ q.2.2 ≤ last
  | [], first, q, _, hq => by
    unfold cutL at hq
    split at hq
    · have : q = (h, first, last) := by simpa using hq
      rw [this]
      exact ⟨rfl, Int.le_refl _, by assumption, Int.le_refl _⟩
    · simp at hq
  | o :: os, first, q, c, hq => by
    obtain ⟨c1, c2, c3⟩ := canon_cons.mp c
    have c1 : o.2.1 ≤ o.2.2 := c1
    unfold cutL at hq
    split at hq
    · next k =>
      rcases List.mem_append.mp hq with z | z
      · split at z
        · have : q = (h, first, o.2.1 - 1) := by simpa using z
          rw [this]
          refine ⟨rfl, Int.le_refl _, ?_, ?_⟩
          · show first ≤ o.2.1 - 1
            omega
          · show o.2.1 - 1 ≤ last
            omega
        · simp at z
      · obtain ⟨a, b, d, e⟩ := cutL_mem c3 z
        exact ⟨a, by omega, d, e⟩
    · exact cutL_mem c3 hq
theorem cutL_in {h last : Int} : ∀ {os : List Row} {first : Int}, Canon os → ∀ k n, In (cutL h last first os) k n ↔ k = h ∧ first ≤ n ∧ n ≤ last ∧ ¬ In os h n
  | [], first, _, k, n => by
    unfold cutL
    split
    · rw [in_cons]
      constructor
      · rintro (⟨a, b, c⟩ | z)
        · exact ⟨a.symm, b, c, in_nil⟩
        · exact absurd z in_nil
      · rintro ⟨a, b, c, _⟩
        exact .inl ⟨a.symm, b, c⟩
    · next hh => exact ⟨fun z => absurd z in_nil, fun ⟨a, b, c, _⟩ => by omega⟩
  | o :: os, first, c, k, n => by
    obtain ⟨c1, c2, c3⟩ := canon_cons.mp c
    have c1 : o.2.1 ≤ o.2.2 := c1
    unfold cutL
    split
    · next q =>
      obtain ⟨q1, q2, q3⟩ := q
      rw [in_append, cutL_in c3, in_cons]
      have later : n ≤ o.2.2 + 1 → ¬ In os h n := fun hn ⟨r, hr, r1, r2, r3⟩ => by
        rcases c2 r hr with s | ⟨s1, s2⟩ <;> omega
      have e : In (if first < o.2.1 then [(h, first, o.2.1 - 1)] else []) k n ↔ k = h ∧ first ≤ n ∧ n < o.2.1 := by
        split
        · rw [in_cons]
          constructor
          · rintro (⟨a, b, d⟩ | z)
            · have b : first ≤ n := b
              have d : n ≤ o.2.1 - 1 := d
              exact ⟨a.symm, b, by omega⟩
            · exact absurd z in_nil
          · rintro ⟨a, b, d⟩
            exact .inl ⟨a.symm, b, show n ≤ o.2.1 - 1 by omega⟩
        · exact ⟨fun z => absurd z in_nil, fun ⟨a, b, d⟩ => by omega⟩
      rw [e]
      constructor
      · rintro (⟨a, b, d⟩ | ⟨a, b, d, z⟩)
        · exact ⟨a, b, by omega, fun z => z.elim (fun ⟨_, _, _⟩ => by omega) (later (by omega))⟩
        · exact ⟨a, by omega, d, fun y => y.elim (fun ⟨_, _, _⟩ => by omega) z⟩
      · rintro ⟨a, b, d, z⟩
        by_cases w : n < o.2.1
        · exact .inl ⟨a, b, w⟩
        · refine .inr ⟨a, ?_, d, fun y => z (.inr y)⟩
          by_cases w2 : n ≤ o.2.2
          · exact absurd (.inl ⟨q1, by omega, w2⟩) z
          · omega
    · next q =>
      rw [cutL_in c3, in_cons]
      constructor
      · rintro ⟨a, b, d, z⟩
        exact ⟨a, b, d, fun y => y.elim (fun ⟨w1, w2, w3⟩ => q ⟨w1, by omega, by omega⟩) z⟩
      · rintro ⟨a, b, d, z⟩
        exact ⟨a, b, d, fun y => z (.inr y)⟩
theorem cutL_canon {h last : Int} : ∀ {os : List Row} {first : Int}, Canon os → Canon (cutL h last first os)
  | [], first, _ => by
    unfold cutL
    split
    · exact canon_cons.mpr ⟨by assumption, fun q hq => by simp at hq, canon_nil⟩
    · exact canon_nil
  | o :: os, first, c => by
    obtain ⟨c1, c2, c3⟩ := canon_cons.mp c
    have c1 : o.2.1 ≤ o.2.2 := c1
    unfold cutL
    split
    · next k =>
      refine canon_append ?_ (cutL_canon c3) fun r hr q hq => ?_
      · split
        · exact canon_cons.mpr ⟨show first ≤ o.2.1 - 1 by omega, fun q hq => by simp at hq, canon_nil⟩
        · exact canon_nil
      · split at hr
        · have : r = (h, first, o.2.1 - 1) := by simpa using hr
          rw [this]
          obtain ⟨a, b, d, e⟩ := cutL_mem c3 hq
          refine .inr ⟨a.symm, ?_⟩
          show o.2.1 - 1 + 1 < q.2.1
          omega
        · simp at hr
    · exact cutL_canon c3
theorem in_flatMap {xs : List Row} {f : Row → List Row} {h n : Int} : In (xs.flatMap f) h n ↔ ∃ r ∈ xs, In (f r) h n := by
  constructor
  · rintro ⟨q, hq, z⟩
    obtain ⟨r, hr, hq⟩ := List.mem_flatMap.mp hq
    exact ⟨r, hr, q, hq, z⟩
  · rintro ⟨r, hr, q, hq, z⟩
    exact ⟨q, List.mem_flatMap.mpr ⟨r, hr, hq⟩, z⟩
theorem canon_flatMap {f : Row → List Row} : ∀ {xs : List Row}, Canon xs → (∀ r ∈ xs, Canon (f r) ∧ ∀ q ∈ f r, q.1 = r.1 ∧ r.2.1 ≤ q.2.1 ∧ q.2.2 ≤ r.2.2) → Canon (xs.flatMap f)
  | [], _, _ => canon_nil
  | x :: xs, c, hf => by
    obtain ⟨c1, c2, c3⟩ := canon_cons.mp c
    rw [List.flatMap_cons]
    refine canon_append (hf x List.mem_cons_self).1 (canon_flatMap c3 fun r hr => hf r (List.mem_cons_of_mem _ hr)) fun p hp q hq => ?_
    obtain ⟨r, hr, hq⟩ := List.mem_flatMap.mp hq
    obtain ⟨a1, a2, a3⟩ := (hf x List.mem_cons_self).2 p hp
    obtain ⟨b1, b2, b3⟩ := (hf r (List.mem_cons_of_mem _ hr)).2 q hq
    have s := c2 r hr
    unfold Sep at s ⊢
    omega
theorem cutOut_ok {xs ys : List Row} (cx : Canon xs) (cy : Canon ys) : Canon (cutOut xs ys) ∧ ∀ h n, In (cutOut xs ys) h n ↔ In xs h n ∧ ¬ In ys h n := by
  refine ⟨canon_flatMap cx fun r hr => ⟨cutL_canon cy, fun q hq => ?_⟩, fun h n => ?_⟩
  · obtain ⟨a, b, d, e⟩ := cutL_mem cy hq
    exact ⟨a, b, e⟩
  · unfold cutOut
    rw [in_flatMap]
    constructor
    · rintro ⟨r, hr, z⟩
      obtain ⟨a, b, d, e⟩ := (cutL_in cy h n).mp z
      exact ⟨⟨r, hr, a.symm, b, d⟩, by rw [a]; exact e⟩
    · rintro ⟨⟨r, hr, a, b, d⟩, z⟩
      exact ⟨r, hr, (cutL_in cy h n).mpr ⟨a.symm, b, d, by rw [a]; exact z⟩⟩
/-! ### what both have -/
def bothL (r : Row) (ys : List Row) : List Row := ys.flatMap fun o => if o.1 = r.1 ∧ max r.2.1 o.2.1 ≤ min r.2.2 o.2.2 then [(r.1, max r.2.1 o.2.1, min r.2.2 o.2.2)] else []
def inBoth (xs ys : List Row) : List Row := xs.flatMap fun r => bothL r ys
theorem both_one {r o : Row} {h n : Int} : In (if o.1 = r.1 ∧ max r.2.1 o.2.1 ≤ min r.2.2 o.2.2 then [(r.1, max r.2.1 o.2.1, min r.2.2 o.2.2)] else []) h n ↔ (r.1 = h ∧ r.2.1 ≤ n ∧ n ≤ r.2.2) ∧ (o.1 = h ∧ o.2.1 ≤ n ∧ n ≤ o.2.2) := by
  split
  · rw [in_cons]
    constructor
    · rintro (⟨a, b, c⟩ | z)
      · have a : r.1 = h := a
        have b : max r.2.1 o.2.1 ≤ n := b
        have c : n ≤ min r.2.2 o.2.2 := c
        omega
      · exact absurd z in_nil
    · rintro ⟨⟨a, b, c⟩, d, e, f⟩
      exact .inl ⟨a, show max r.2.1 o.2.1 ≤ n by omega, show n ≤ min r.2.2 o.2.2 by omega⟩
  · exact ⟨fun z => absurd z in_nil, fun ⟨⟨a, b, c⟩, d, e, f⟩ => by omega⟩
theorem bothL_in {r : Row} {ys : List Row} {h n : Int} : In (bothL r ys) h n ↔ (r.1 = h ∧ r.2.1 ≤ n ∧ n ≤ r.2.2) ∧ In ys h n := by
  unfold bothL
  rw [in_flatMap]
  constructor
  · rintro ⟨o, ho, z⟩
    obtain ⟨a, b⟩ := both_one.mp z
    exact ⟨a, o, ho, b⟩
  · rintro ⟨a, o, ho, b⟩
    exact ⟨o, ho, both_one.mpr ⟨a, b⟩⟩
theorem bothL_ok {r : Row} {ys : List Row} (cy : Canon ys) : Canon (bothL r ys) ∧ ∀ q ∈ bothL r ys, q.1 = r.1 ∧ r.2.1 ≤ q.2.1 ∧ q.2.2 ≤ r.2.2 := by
  have key : ∀ (o : Row), ∀ q ∈ (if o.1 = r.1 ∧ max r.2.1 o.2.1 ≤ min r.2.2 o.2.2 then [(r.1, max r.2.1 o.2.1, min r.2.2 o.2.2)] else [] : List Row), q = (r.1, max r.2.1 o.2.1, min r.2.2 o.2.2) ∧ o.1 = r.1 ∧ max r.2.1 o.2.1 ≤ min r.2.2 o.2.2 := fun o q hq => by
    split at hq
    · next c => exact ⟨by simpa using hq, c⟩
    · simp at hq
  refine ⟨canon_flatMap cy fun o ho => ⟨?_, fun q hq => ?_⟩, fun q hq => ?_⟩
  · split
    · next c => exact canon_cons.mpr ⟨c.2, fun q hq => by simp at hq, canon_nil⟩
    · exact canon_nil
  · obtain ⟨e, a, b⟩ := key o q hq
    rw [e]
    exact ⟨a.symm, show o.2.1 ≤ max r.2.1 o.2.1 by omega, show min r.2.2 o.2.2 ≤ o.2.2 by omega⟩
  · obtain ⟨o, ho, hq⟩ := List.mem_flatMap.mp hq
    obtain ⟨e, a, b⟩ := key o q hq
    rw [e]
    exact ⟨rfl, show r.2.1 ≤ max r.2.1 o.2.1 by omega, show min r.2.2 o.2.2 ≤ r.2.2 by omega⟩
theorem inBoth_ok {xs ys : List Row} (cx : Canon xs) (cy : Canon ys) : Canon (inBoth xs ys) ∧ ∀ h n, In (inBoth xs ys) h n ↔ In xs h n ∧ In ys h n := by
  refine ⟨canon_flatMap cx fun r hr => bothL_ok cy, fun h n => ?_⟩
  unfold inBoth
  rw [in_flatMap]
  constructor
  · rintro ⟨r, hr, z⟩
    obtain ⟨a, b⟩ := bothL_in.mp z
    exact ⟨⟨r, hr, a⟩, b⟩
  · rintro ⟨⟨r, hr, a⟩, b⟩
    exact ⟨r, hr, bothL_in.mpr ⟨a, b⟩⟩
end St

/-! ### held by so many; how many -/
namespace St
/-- turns: house, number, one more or one less -/
abbrev Turn := Int × Int × Int
def wt (h n : Int) (t : Turn) : Int := if t.1 = h ∧ t.2.1 ≤ n then t.2.2 else 0
def wtH (h : Int) (t : Turn) : Int := if t.1 = h then t.2.2 else 0
def W (T : List Turn) (h n : Int) : Int := (T.map (wt h n)).sum
def Tot (T : List Turn) (h : Int) : Int := (T.map (wtH h)).sum
theorem W_cons {t : Turn} {T : List Turn} {h n : Int} : W (t :: T) h n = wt h n t + W T h n := by simp [W]
theorem Tot_cons {t : Turn} {T : List Turn} {h : Int} : Tot (t :: T) h = wtH h t + Tot T h := by simp [Tot]
theorem W_zero {h n : Int} : ∀ {T : List Turn}, (∀ t ∈ T, t.1 = h → n < t.2.1) → W T h n = 0
  | [], _ => rfl
  | t :: T, k => by
    rw [W_cons, W_zero fun q hq => k q (List.mem_cons_of_mem _ hq)]
    have := k t List.mem_cons_self
    unfold wt
    rw [if_neg (fun z => by have := this z.1; omega)]
    rfl
theorem Tot_zero {h : Int} : ∀ {T : List Turn}, (∀ t ∈ T, t.1 ≠ h) → Tot T h = 0
  | [], _ => rfl
  | t :: T, k => by
    rw [Tot_cons, Tot_zero fun q hq => k q (List.mem_cons_of_mem _ hq)]
    unfold wtH
    rw [if_neg (k t List.mem_cons_self)]
    rfl
def sweep (least : Int) : Int → Int → List Turn → List Row
  | _, _, [] => []
  | many, begun, t :: ts => (if least ≤ many ∧ begun < t.2.1 then [(t.1, begun, t.2.1 - 1)] else []) ++ sweep least (many + t.2.2) t.2.1 ts
theorem sweep_in {least : Int} (hl : 1 ≤ least) : ∀ (Q : List Turn) (hh many begun : Int), Q.Pairwise Le → (∀ t ∈ Q, hh < t.1 ∨ (hh = t.1 ∧ begun ≤ t.2.1)) → many + Tot Q hh = 0 → (∀ h, h ≠ hh → Tot Q h = 0) →
    ∀ h n, In (sweep least many begun Q) h n ↔ (h = hh ∧ begun ≤ n ∧ least ≤ many + W Q hh n) ∨ (h ≠ hh ∧ least ≤ W Q h n)
  | [], hh, many, begun, _, _, ht, _, h, n => by
    have e : many = 0 := by simpa [Tot] using ht
    constructor
    · intro z
      exact absurd z in_nil
    · rintro (⟨_, _, z⟩ | ⟨_, z⟩)
      · simp [W] at z
        omega
      · simp [W] at z
        omega
  | t :: Q, hh, many, begun, hs, hb, ht, h0, h, n => by
    obtain ⟨s1, s2⟩ := List.pairwise_cons.mp hs
    have hbt := hb t List.mem_cons_self
    unfold sweep
    rw [in_append]
    by_cases c : t.1 = hh
    · -- the same house
      have hb' : ∀ q ∈ Q, t.1 < q.1 ∨ (t.1 = q.1 ∧ t.2.1 ≤ q.2.1) := fun q hq => s1 q hq
      have ht' : many + t.2.2 + Tot Q t.1 = 0 := by
        rw [Tot_cons] at ht
        unfold wtH at ht
        rw [if_pos c] at ht
        rw [c]
        omega
      have h0' : ∀ h, h ≠ t.1 → Tot Q h = 0 := fun h hh' => by
        have := h0 h (by omega)
        rw [Tot_cons] at this
        unfold wtH at this
        rw [if_neg (fun z => hh' z.symm)] at this
        omega
      have ih := sweep_in hl Q t.1 (many + t.2.2) t.2.1 s2 hb' ht' h0' h n
      rw [ih]
      have em : In (if least ≤ many ∧ begun < t.2.1 then [(t.1, begun, t.2.1 - 1)] else []) h n ↔ h = hh ∧ least ≤ many ∧ begun ≤ n ∧ n < t.2.1 := by
        split
        · rw [in_cons]
          constructor
          · rintro (⟨a, b, d⟩ | z)
            · have a : t.1 = h := a
              have b : begun ≤ n := b
              have d : n ≤ t.2.1 - 1 := d
              exact ⟨by omega, by omega, b, by omega⟩
            · exact absurd z in_nil
          · rintro ⟨a, b, d, e⟩
            exact .inl ⟨show t.1 = h by omega, d, show n ≤ t.2.1 - 1 by omega⟩
        · exact ⟨fun z => absurd z in_nil, fun ⟨a, b, d, e⟩ => by omega⟩
      rw [em]
      by_cases e : h = hh
      · subst e
        by_cases l : n < t.2.1
        · have w0 : W (t :: Q) h n = 0 := W_zero fun q hq hq1 => by
            rcases List.mem_cons.mp hq with z | z
            · rw [z]; exact l
            · have := s1 q z
              unfold Le at this
              omega
          rw [w0]
          constructor
          · rintro (⟨_, a, b, _⟩ | ⟨_, a, _⟩ | ⟨a, _⟩)
            · exact .inl ⟨rfl, b, by omega⟩
            · omega
            · exact absurd c.symm a
          · rintro (⟨_, a, b⟩ | ⟨a, _⟩)
            · exact .inl ⟨rfl, by omega, a, l⟩
            · exact absurd rfl a
        · have w1 : W (t :: Q) h n = t.2.2 + W Q h n := by
            rw [W_cons]
            unfold wt
            rw [if_pos ⟨c, by omega⟩]
          rw [w1, c]
          constructor
          · rintro (⟨_, a, b, d⟩ | ⟨_, a, b⟩ | ⟨a, _⟩)
            · omega
            · exact .inl ⟨rfl, by omega, by omega⟩
            · exact absurd rfl a
          · rintro (⟨_, a, b⟩ | ⟨a, _⟩)
            · exact .inr (.inl ⟨rfl, by omega, by omega⟩)
            · exact absurd rfl a
      · have w1 : W (t :: Q) h n = W Q h n := by
          rw [W_cons]
          unfold wt
          rw [if_neg (fun z => e (by omega)), Int.zero_add]
        rw [w1]
        constructor
        · rintro (⟨a, _⟩ | ⟨a, _⟩ | ⟨_, a⟩)
          · exact absurd a e
          · exact absurd (a.trans c) e
          · exact .inr ⟨e, a⟩
        · rintro (⟨a, _⟩ | ⟨_, a⟩)
          · exact absurd a e
          · exact .inr (.inr ⟨fun z => e (z.trans c), a⟩)
    · -- a later house
      have lt : hh < t.1 := by omega
      have all : ∀ q ∈ t :: Q, q.1 ≠ hh := fun q hq => by
        rcases List.mem_cons.mp hq with z | z
        · rw [z]; exact c
        · have := s1 q z
          unfold Le at this
          omega
      have m0 : many = 0 := by
        rw [Tot_zero all] at ht
        omega
      subst m0
      have ne : ¬ (least ≤ 0 ∧ begun < t.2.1) := by omega
      rw [if_neg ne]
      have hb' : ∀ q ∈ Q, t.1 < q.1 ∨ (t.1 = q.1 ∧ t.2.1 ≤ q.2.1) := fun q hq => s1 q hq
      have ht' : 0 + t.2.2 + Tot Q t.1 = 0 := by
        have := h0 t.1 c
        rw [Tot_cons] at this
        unfold wtH at this
        rw [if_pos rfl] at this
        omega
      have h0' : ∀ h, h ≠ t.1 → Tot Q h = 0 := fun h hh' => by
        by_cases e : h = hh
        · rw [e]
          exact Tot_zero fun q hq => all q (List.mem_cons_of_mem _ hq)
        · have := h0 h e
          rw [Tot_cons] at this
          unfold wtH at this
          rw [if_neg (fun z => hh' z.symm)] at this
          omega
      have ih := sweep_in hl Q t.1 (0 + t.2.2) t.2.1 s2 hb' ht' h0' h n
      rw [ih]
      have wz : W (t :: Q) hh n = 0 := W_zero fun q hq hq1 => absurd hq1 (all q hq)
      have wz' : W Q hh n = 0 := W_zero fun q hq hq1 => absurd hq1 (all q (List.mem_cons_of_mem _ hq))
      by_cases e : h = t.1
      · subst e
        by_cases l : n < t.2.1
        · have w0 : W (t :: Q) t.1 n = 0 := W_zero fun q hq hq1 => by
            rcases List.mem_cons.mp hq with z | z
            · rw [z]; exact l
            · have := s1 q z
              unfold Le at this
              omega
          rw [w0]
          constructor
          · rintro (z | ⟨_, a, _⟩ | ⟨a, _⟩)
            · exact absurd z in_nil
            · omega
            · exact absurd rfl a
          · rintro (⟨a, _⟩ | ⟨_, a⟩) <;> omega
        · have w1 : W (t :: Q) t.1 n = t.2.2 + W Q t.1 n := by
            rw [W_cons]
            unfold wt
            rw [if_pos ⟨rfl, by omega⟩]
          rw [w1]
          constructor
          · rintro (z | ⟨_, a, b⟩ | ⟨a, _⟩)
            · exact absurd z in_nil
            · exact .inr ⟨c, by omega⟩
            · exact absurd rfl a
          · rintro (⟨a, _⟩ | ⟨_, a⟩)
            · exact absurd a c
            · exact .inr (.inl ⟨rfl, by omega, by omega⟩)
      · have w1 : W (t :: Q) h n = W Q h n := by
          rw [W_cons]
          unfold wt
          rw [if_neg (fun z => e z.1.symm), Int.zero_add]
        rw [w1]
        constructor
        · rintro (z | ⟨a, _⟩ | ⟨_, a⟩)
          · exact absurd z in_nil
          · exact absurd a e
          · by_cases e2 : h = hh
            · rw [e2, wz'] at a
              omega
            · exact .inr ⟨e2, a⟩
        · rintro (⟨a, _, b⟩ | ⟨_, a⟩)
          · rw [wz] at b
            omega
          · exact .inr (.inr ⟨e, a⟩)
/-- the turns of rows -/
def turnsOf (rs : List Row) : List Turn := rs.flatMap fun r => [(r.1, r.2.1, 1), (r.1, r.2.2 + 1, -1)]
theorem W_append {S T : List Turn} {h n : Int} : W (S ++ T) h n = W S h n + W T h n := by simp [W, List.sum_append]
theorem Tot_append {S T : List Turn} {h : Int} : Tot (S ++ T) h = Tot S h + Tot T h := by simp [Tot, List.sum_append]
theorem sum_perm : ∀ {l m : List Int}, l.Perm m → l.sum = m.sum := fun p => by
  induction p with
  | nil => rfl
  | cons x _ ih => simp [ih]
  | swap x y l => simp only [List.sum_cons]; omega
  | trans _ _ h1 h2 => exact h1.trans h2
theorem W_perm {S T : List Turn} (p : S.Perm T) {h n : Int} : W S h n = W T h n := sum_perm (p.map _)
theorem Tot_perm {S T : List Turn} (p : S.Perm T) {h : Int} : Tot S h = Tot T h := sum_perm (p.map _)
theorem turns_tot : ∀ {rs : List Row} {h : Int}, Tot (turnsOf rs) h = 0
  | [], _ => rfl
  | r :: rs, h => by
    show Tot ([(r.1, r.2.1, 1), (r.1, r.2.2 + 1, -1)] ++ turnsOf rs) h = 0
    rw [Tot_append, turns_tot, Tot_cons, Tot_cons]
    unfold wtH
    by_cases c : r.1 = h
    · simp [c, Tot]
    · simp [c, Tot]
open Classical in
/-- one, if it is there -/
noncomputable def one (rs : List Row) (h n : Int) : Int := if In rs h n then 1 else 0
theorem turns_W : ∀ {rs : List Row}, Canon rs → ∀ h n, W (turnsOf rs) h n = one rs h n
  | [], _, h, n => by
    unfold one
    rw [if_neg in_nil]
    rfl
  | r :: rs, c, h, n => by
    obtain ⟨c1, c2, c3⟩ := canon_cons.mp c
    have c1 : r.2.1 ≤ r.2.2 := c1
    show W ([(r.1, r.2.1, 1), (r.1, r.2.2 + 1, -1)] ++ turnsOf rs) h n = _
    rw [W_append, turns_W c3, W_cons, W_cons]
    have e : wt h n (r.1, r.2.1, 1) + (wt h n (r.1, r.2.2 + 1, -1) + W [] h n) = if r.1 = h ∧ r.2.1 ≤ n ∧ n ≤ r.2.2 then 1 else 0 := by
      have w0 : W [] h n = 0 := rfl
      rw [w0]
      unfold wt
      by_cases h1 : r.1 = h
      · by_cases h2 : r.2.1 ≤ n
        · by_cases h3 : n ≤ r.2.2
          · rw [if_pos ⟨h1, h2⟩, if_neg (by show ¬ (r.1 = h ∧ r.2.2 + 1 ≤ n); omega), if_pos ⟨h1, h2, h3⟩]
            rfl
          · rw [if_pos ⟨h1, h2⟩, if_pos (by show r.1 = h ∧ r.2.2 + 1 ≤ n; omega), if_neg (by omega)]
            rfl
        · rw [if_neg (by show ¬ (r.1 = h ∧ r.2.1 ≤ n); omega), if_neg (by show ¬ (r.1 = h ∧ r.2.2 + 1 ≤ n); omega), if_neg (by omega)]
          rfl
      · rw [if_neg (fun z => h1 z.1), if_neg (fun z => h1 z.1), if_neg (fun z => h1 z.1)]
        rfl
    rw [e]
    unfold one
    by_cases z : r.1 = h ∧ r.2.1 ≤ n ∧ n ≤ r.2.2
    · have nz : ¬ In rs h n := fun ⟨q, hq, q1, q2, q3⟩ => by
        rcases c2 q hq with s | ⟨s1, s2⟩ <;> omega
      rw [if_pos z, if_neg nz, if_pos (in_cons.mpr (.inl z))]
      rfl
    · rw [if_neg z]
      by_cases y : In rs h n
      · rw [if_pos y, if_pos (in_cons.mpr (.inr y))]
        rfl
      · rw [if_neg y, if_neg (fun w => (in_cons.mp w).elim z y)]
        rfl
/-- of several sets: in how many it is -/
noncomputable def many (sets : List (List Row)) (h n : Int) : Int := (sets.map fun s => one s h n).sum
def turnsAll (sets : List (List Row)) : List Turn := sets.flatMap turnsOf
theorem all_W : ∀ {sets : List (List Row)}, (∀ s ∈ sets, Canon s) → ∀ h n, W (turnsAll sets) h n = many sets h n
  | [], _, _, _ => rfl
  | s :: sets, c, h, n => by
    show W (turnsOf s ++ turnsAll sets) h n = _
    rw [W_append, turns_W (c s List.mem_cons_self), all_W fun q hq => c q (List.mem_cons_of_mem _ hq)]
    simp [many]
theorem all_tot : ∀ {sets : List (List Row)} {h : Int}, Tot (turnsAll sets) h = 0
  | [], _ => rfl
  | s :: sets, h => by
    show Tot (turnsOf s ++ turnsAll sets) h = 0
    rw [Tot_append, turns_tot, all_tot]
    rfl
theorem low_house : ∀ T : List Turn, ∃ hh : Int, ∀ t ∈ T, hh < t.1
  | [] => ⟨0, fun t h => by simp at h⟩
  | t :: T => by
    obtain ⟨hh, k⟩ := low_house T
    refine ⟨min hh t.1 - 1, fun q hq => ?_⟩
    rcases List.mem_cons.mp hq with z | z
    · rw [z]; omega
    · have := k q z
      omega
theorem sweep_all {least : Int} (hl : 1 ≤ least) {sets : List (List Row)} (c : ∀ s ∈ sets, Canon s) {T : List Turn} (p : T.Perm (turnsAll sets)) (hs : T.Pairwise Le) (h n : Int) : In (sweep least 0 0 T) h n ↔ least ≤ many sets h n := by
  obtain ⟨hh, k⟩ := low_house T
  have tz : ∀ h, Tot T h = 0 := fun h => (Tot_perm p).trans all_tot
  rw [sweep_in hl T hh 0 0 hs (fun t ht => .inl (k t ht)) (by rw [tz]; rfl) (fun h _ => tz h), ← all_W c h n, ← W_perm p]
  constructor
  · rintro (⟨e, _, z⟩ | ⟨_, z⟩)
    · rw [e]
      omega
    · exact z
  · intro z
    by_cases e : h = hh
    · have : W T h n = 0 := W_zero fun t ht h1 => by have := k t ht; omega
      omega
    · exact .inr ⟨e, z⟩
theorem sweep_okr {least : Int} : ∀ {T : List Turn} {m b : Int} {q : Row}, q ∈ sweep least m b T → Ok q
  | [], _, _, q, h => by simp [sweep] at h
  | t :: T, m, b, q, h => by
    unfold sweep at h
    rcases List.mem_append.mp h with z | z
    · split at z
      · have : q = (t.1, b, t.2.1 - 1) := by simpa using z
        rw [this]
        show b ≤ t.2.1 - 1
        omega
      · simp at z
    · exact sweep_okr z
theorem sweep_len {least : Int} : ∀ {T : List Turn} {m b : Int}, (sweep least m b T).length ≤ T.length
  | [], _, _ => Nat.le_refl _
  | t :: T, m, b => by
    unfold sweep
    have := sweep_len (least := least) (T := T) (m := m + t.2.2) (b := t.2.1)
    rw [List.length_append, List.length_cons]
    split
    · simp only [List.length_singleton]; omega
    · simp only [List.length_nil]; omega
end St

/-! ### how many rows; how many numbers; how far -/
namespace St
theorem nodup_len {α : Type} [DecidableEq α] : ∀ {l m : List α}, l.Nodup → (∀ x ∈ l, x ∈ m) → l.length ≤ m.length
  | [], _, _, _ => Nat.zero_le _
  | x :: l, m, hn, h => by
    obtain ⟨h1, h2⟩ := List.nodup_cons.mp hn
    have hx := h x List.mem_cons_self
    have ih := nodup_len (m := m.erase x) h2 fun y hy => (List.mem_erase_of_ne (fun e => h1 (by rw [← e]; exact hy))).mpr (h y (List.mem_cons_of_mem _ hy))
    rw [List.length_erase_of_mem hx] at ih
    have : 0 < m.length := List.length_pos_of_mem hx
    rw [List.length_cons]
    omega
def starts (z : List Row) : List (Int × Int) := z.map fun r => (r.1, r.2.1)
def ends (z : List Row) : List (Int × Int) := z.map fun r => (r.1, r.2.2 + 1)
theorem starts_nodup : ∀ {z : List Row}, Canon z → (starts z).Nodup
  | [], _ => List.nodup_nil
  | r :: z, c => by
    obtain ⟨c1, c2, c3⟩ := canon_cons.mp c
    refine List.nodup_cons.mpr ⟨fun hm => ?_, starts_nodup c3⟩
    obtain ⟨q, hq, e⟩ := List.mem_map.mp hm
    have c1 : r.2.1 ≤ r.2.2 := c1
    have e1 : q.1 = r.1 := congrArg (fun p : Int × Int => p.1) e
    have e2 : q.2.1 = r.2.1 := congrArg (fun p : Int × Int => p.2) e
    rcases c2 q hq with s | ⟨s1, s2⟩ <;> omega
theorem in_row {z : List Row} {r : Row} (hr : r ∈ z) {n : Int} (h1 : r.2.1 ≤ n) (h2 : n ≤ r.2.2) : In z r.1 n := ⟨r, hr, rfl, h1, h2⟩
theorem canon_before : ∀ {z : List Row}, Canon z → ∀ r ∈ z, ¬ In z r.1 (r.2.1 - 1)
  | [], _, r, hr => by simp at hr
  | x :: z, c, r, hr => by
    obtain ⟨c1, c2, c3⟩ := canon_cons.mp c
    have c1 : x.2.1 ≤ x.2.2 := c1
    intro i
    rcases List.mem_cons.mp hr with e | e
    · subst e
      rcases in_cons.mp i with ⟨_, a, _⟩ | ⟨q, hq, a, b, d⟩
      · omega
      · rcases c2 q hq with s | ⟨s1, s2⟩ <;> omega
    · rcases in_cons.mp i with ⟨a, b, d⟩ | i
      · rcases c2 r e with s | ⟨s1, s2⟩ <;> omega
      · exact canon_before c3 r e i
theorem canon_after : ∀ {z : List Row}, Canon z → ∀ r ∈ z, ¬ In z r.1 (r.2.2 + 1)
  | [], _, r, hr => by simp at hr
  | x :: z, c, r, hr => by
    obtain ⟨c1, c2, c3⟩ := canon_cons.mp c
    have c1 : x.2.1 ≤ x.2.2 := c1
    intro i
    rcases List.mem_cons.mp hr with e | e
    · subst e
      exact in_next c i
    · rcases in_cons.mp i with ⟨a, b, d⟩ | i
      · have : r.2.1 ≤ r.2.2 := c3.1 r e
        rcases c2 r e with s | ⟨s1, s2⟩ <;> omega
      · exact canon_after c3 r e i
theorem canon_size {z : List Row} (c : Canon z) {L : List (Int × Int)} (h : ∀ h n, In z h n → ¬ In z h (n - 1) → (h, n) ∈ L) : z.length ≤ L.length := by
  have := nodup_len (m := L) (starts_nodup c) fun x hx => by
    obtain ⟨r, hr, e⟩ := List.mem_map.mp hx
    rw [← e]
    exact h _ _ (in_row hr (Int.le_refl _) (c.1 r hr)) (canon_before c r hr)
  unfold starts at this
  rwa [List.length_map] at this
theorem start_mem {z : List Row} {h n : Int} (i : In z h n) (j : ¬ In z h (n - 1)) : (h, n) ∈ starts z := by
  obtain ⟨r, hr, a, b, d⟩ := i
  by_cases e : r.2.1 = n
  · exact List.mem_map.mpr ⟨r, hr, by rw [a, e]⟩
  · exact absurd ⟨r, hr, a, by omega, by omega⟩ j
theorem end_mem {z : List Row} {h n : Int} (i : In z h (n - 1)) (j : ¬ In z h n) : (h, n) ∈ ends z := by
  obtain ⟨r, hr, a, b, d⟩ := i
  by_cases e : r.2.2 + 1 = n
  · exact List.mem_map.mpr ⟨r, hr, by rw [a, e]⟩
  · exact absurd ⟨r, hr, a, by omega, by omega⟩ j
theorem both_len {xs ys z : List Row} (c : Canon z) (e : ∀ h n, In z h n ↔ In xs h n ∧ In ys h n) : z.length ≤ xs.length + ys.length := by
  have := canon_size c (L := starts xs ++ starts ys) fun h n i j => by
    obtain ⟨i1, i2⟩ := (e h n).mp i
    by_cases k : In xs h (n - 1)
    · exact List.mem_append_right _ (start_mem i2 fun k2 => j ((e _ _).mpr ⟨k, k2⟩))
    · exact List.mem_append_left _ (start_mem i1 k)
  simpa [starts] using this
theorem cut_len {xs ys z : List Row} (c : Canon z) (e : ∀ h n, In z h n ↔ In xs h n ∧ ¬ In ys h n) : z.length ≤ xs.length + ys.length := by
  have := canon_size c (L := starts xs ++ ends ys) fun h n i j => by
    obtain ⟨i1, i2⟩ := (e h n).mp i
    by_cases k : In xs h (n - 1)
    · refine List.mem_append_right _ (end_mem ?_ i2)
      exact Classical.byContradiction fun k2 => j ((e _ _).mpr ⟨k, k2⟩)
    · exact List.mem_append_left _ (start_mem i1 k)
  simpa [starts, ends] using this
/-! amounts -/
def cntR (rs : List Row) : Int := (rs.map fun r => r.2.2 - r.2.1 + 1).sum
/-- the sum of f below N -/
def sumTo (f : Nat → Int) : Nat → Int
  | 0 => 0
  | n + 1 => sumTo f n + f n
theorem sumTo_congr {f g : Nat → Int} : ∀ {N : Nat}, (∀ n, n < N → f n = g n) → sumTo f N = sumTo g N
  | 0, _ => rfl
  | N + 1, h => by
    unfold sumTo
    rw [sumTo_congr fun n hn => h n (by omega), h N (by omega)]
theorem sumTo_add {f g : Nat → Int} : ∀ {N : Nat}, sumTo (fun n => f n + g n) N = sumTo f N + sumTo g N
  | 0 => rfl
  | N + 1 => by
    unfold sumTo
    rw [sumTo_add]
    omega
theorem sumTo_zero : ∀ {N : Nat}, sumTo (fun _ => 0) N = 0
  | 0 => rfl
  | N + 1 => by
    unfold sumTo
    rw [sumTo_zero]
    rfl
theorem sumTo_iv {a b : Int} (h0 : 0 ≤ a) (h : a ≤ b + 1) : ∀ N : Nat, sumTo (fun n => if a ≤ (n : Int) ∧ (n : Int) ≤ b then 1 else 0) N = min (b + 1) N - min a N
  | 0 => by
    unfold sumTo
    omega
  | N + 1 => by
    unfold sumTo
    rw [sumTo_iv h0 h N]
    split <;> omega
theorem sumTo_pt {k : Int} {L : Int} (h0 : 0 ≤ k) : ∀ N : Nat, sumTo (fun n => if k = (n : Int) then L else 0) N = if k < (N : Int) then L else 0
  | 0 => by
    unfold sumTo
    rw [if_neg (by omega)]
  | N + 1 => by
    unfold sumTo
    rw [sumTo_pt h0 N]
    by_cases c : k < (N : Int)
    · rw [if_pos c, if_neg (by omega), if_pos (by omega)]
      omega
    · rw [if_neg c]
      by_cases d : k = (N : Int)
      · rw [if_pos d, if_pos (by omega)]
        omega
      · rw [if_neg d, if_neg (by omega)]
        rfl
/-- over the houses and the numbers -/
def total (f : Int → Int → Int) (H N : Nat) : Int := sumTo (fun h => sumTo (fun n => f h n) N) H
theorem total_add {f g : Int → Int → Int} {H N : Nat} : total (fun h n => f h n + g h n) H N = total f H N + total g H N := by
  unfold total
  rw [← sumTo_add]
  exact sumTo_congr fun h _ => sumTo_add
theorem total_congr {f g : Int → Int → Int} {H N : Nat} (e : ∀ h n, f h n = g h n) : total f H N = total g H N := by
  unfold total
  exact sumTo_congr fun h _ => sumTo_congr fun n _ => e h n
def inR (r : Row) (h n : Int) : Int := if r.1 = h ∧ r.2.1 ≤ n ∧ n ≤ r.2.2 then 1 else 0
theorem total_row {r : Row} {H N : Nat} (h0 : 0 ≤ r.1) (h1 : r.1 < H) (h2 : 0 ≤ r.2.1) (h3 : r.2.1 ≤ r.2.2) (h4 : r.2.2 < N) : total (inR r) H N = r.2.2 - r.2.1 + 1 := by
  unfold total
  have e : ∀ h, h < H → sumTo (fun n => inR r (h : Int) (n : Int)) N = if r.1 = (h : Int) then r.2.2 - r.2.1 + 1 else 0 := fun h _ => by
    by_cases c : r.1 = (h : Int)
    · rw [if_pos c]
      have : ∀ n, n < N → inR r (h : Int) (n : Int) = if r.2.1 ≤ (n : Int) ∧ (n : Int) ≤ r.2.2 then 1 else 0 := fun n _ => by
        unfold inR
        by_cases d : r.2.1 ≤ (n : Int) ∧ (n : Int) ≤ r.2.2
        · rw [if_pos ⟨c, d⟩, if_pos d]
        · rw [if_neg (fun z => d z.2), if_neg d]
      rw [sumTo_congr this, sumTo_iv h2 (by omega)]
      omega
    · rw [if_neg c]
      have : ∀ n, n < N → inR r (h : Int) (n : Int) = 0 := fun n _ => by
        unfold inR
        rw [if_neg (fun z => c z.1)]
      rw [sumTo_congr this]
      exact sumTo_zero
  rw [sumTo_congr e, sumTo_pt h0, if_pos h1]
theorem one_cons {r : Row} {rs : List Row} (c : Canon (r :: rs)) (h n : Int) : one (r :: rs) h n = inR r h n + one rs h n := by
  obtain ⟨c1, c2, c3⟩ := canon_cons.mp c
  have c1 : r.2.1 ≤ r.2.2 := c1
  unfold one inR
  by_cases z : r.1 = h ∧ r.2.1 ≤ n ∧ n ≤ r.2.2
  · have nz : ¬ In rs h n := fun ⟨q, hq, q1, q2, q3⟩ => by
      rcases c2 q hq with s | ⟨s1, s2⟩ <;> omega
    rw [if_pos z, if_neg nz, if_pos (in_cons.mpr (.inl z))]
    rfl
  · rw [if_neg z]
    by_cases y : In rs h n
    · rw [if_pos y, if_pos (in_cons.mpr (.inr y))]
      rfl
    · rw [if_neg y, if_neg (fun w => (in_cons.mp w).elim z y)]
      rfl
theorem cnt_total {H N : Nat} : ∀ {z : List Row}, Canon z → (∀ h n, In z h n → 0 ≤ h ∧ h < H ∧ 0 ≤ n ∧ n < N) → cntR z = total (one z) H N
  | [], _, _ => by
    have : ∀ h n, one [] h n = 0 := fun h n => by
      unfold one
      rw [if_neg in_nil]
    rw [total_congr this]
    unfold total
    have e : ∀ h, h < H → sumTo (fun _ => (0 : Int)) N = 0 := fun _ _ => sumTo_zero
    rw [sumTo_congr e, sumTo_zero]
    rfl
  | r :: z, c, hb => by
    obtain ⟨c1, c2, c3⟩ := canon_cons.mp c
    have c1 : r.2.1 ≤ r.2.2 := c1
    have b1 := hb r.1 r.2.1 (in_cons.mpr (.inl ⟨rfl, Int.le_refl _, c1⟩))
    have b2 := hb r.1 r.2.2 (in_cons.mpr (.inl ⟨rfl, c1, Int.le_refl _⟩))
    rw [total_congr (one_cons c), total_add, ← cnt_total c3 fun h n i => hb h n (in_cons.mpr (.inr i)), total_row b1.1 b1.2.1 b1.2.2.1 c1 b2.2.2.2]
    simp [cntR]
open Classical in
theorem one_or {x y j b : List Row} {h n : Int} (e1 : In j h n ↔ In x h n ∨ In y h n) (e2 : In b h n ↔ In x h n ∧ In y h n) : one x h n + one y h n = one j h n + one b h n := by
  unfold one
  by_cases p : In x h n <;> by_cases q : In y h n <;> simp [e1, e2, p, q]
open Classical in
theorem one_less {x y l b : List Row} {h n : Int} (e1 : In l h n ↔ In x h n ∧ ¬ In y h n) (e2 : In b h n ↔ In x h n ∧ In y h n) : one l h n + one b h n = one x h n := by
  unfold one
  by_cases p : In x h n <;> by_cases q : In y h n <;> simp [e1, e2, p, q]
/-- from 1 on, how far -/
def reachR : List Row → Int → Int
  | [], _ => 0
  | r :: rs, h => if r.1 = h ∧ r.2.1 = 1 then r.2.2 else reachR rs h
theorem reach_cases : ∀ (z : List Row) (h : Int), (∃ r ∈ z, r.1 = h ∧ r.2.1 = 1 ∧ reachR z h = r.2.2) ∨ (reachR z h = 0 ∧ ∀ r ∈ z, r.1 = h → r.2.1 ≠ 1)
  | [], h => .inr ⟨rfl, fun r hr => by simp at hr⟩
  | x :: z, h => by
    unfold reachR
    split
    · next c => exact .inl ⟨x, List.mem_cons_self, c.1, c.2, rfl⟩
    · next c =>
      rcases reach_cases z h with ⟨r, hr, a, b, d⟩ | ⟨a, b⟩
      · exact .inl ⟨r, List.mem_cons_of_mem _ hr, a, b, d⟩
      · refine .inr ⟨a, fun r hr e => ?_⟩
        rcases List.mem_cons.mp hr with k | k
        · subst k
          exact fun e2 => c ⟨e, e2⟩
        · exact b r k e
theorem reach_spec {z : List Row} (c : Canon z) (hp : ∀ h n, In z h n → 1 ≤ n) (h : Int) : 0 ≤ reachR z h ∧ (∀ n, 1 ≤ n → n ≤ reachR z h → In z h n) ∧ ¬ In z h (reachR z h + 1) := by
  rcases reach_cases z h with ⟨r, hr, a, b, d⟩ | ⟨a, b⟩
  · have o : r.2.1 ≤ r.2.2 := c.1 r hr
    rw [d]
    exact ⟨by omega, fun n h1 h2 => ⟨r, hr, a, by omega, h2⟩, a ▸ canon_after c r hr⟩
  · rw [a]
    refine ⟨Int.le_refl _, fun n h1 h2 => by omega, fun ⟨r, hr, e1, e2, e3⟩ => ?_⟩
    have := hp r.1 r.2.1 (in_row hr (Int.le_refl _) (c.1 r hr))
    exact b r hr e1 (by omega)
/-- the last of each house -/
theorem many3_1 {a b c : List Row} {h n : Int} : 1 ≤ many [a, b, c] h n ↔ In a h n ∨ In b h n ∨ In c h n := by
  unfold many one
  by_cases p : In a h n <;> by_cases q : In b h n <;> by_cases r : In c h n <;> simp [p, q, r]
theorem many3_2 {a b c : List Row} {h n : Int} : 2 ≤ many [a, b, c] h n ↔ (In a h n ∧ In b h n) ∨ (In a h n ∧ In c h n) ∨ (In b h n ∧ In c h n) := by
  unfold many one
  by_cases p : In a h n <;> by_cases q : In b h n <;> by_cases r : In c h n <;> simp [p, q, r]
theorem many3_3 {a b c : List Row} {h n : Int} : 3 ≤ many [a, b, c] h n ↔ In a h n ∧ In b h n ∧ In c h n := by
  unfold many one
  by_cases p : In a h n <;> by_cases q : In b h n <;> by_cases r : In c h n <;> simp [p, q, r]
end St

namespace Law
open PySem PySem.Spec PyProof.Rows L2 DL
def b_is_row : MS := mRet (eB (mAnd (mT (e2 fEq (eCB fLen (oCons (eVar 0) (oNil))) (eC (.int 3)))) (mAnd (mT (eCh2 fLe fLt (eC (.int 0)) (e2 fIx (eVar 0) (eC (.int 0))) (eC (.int 8)))) (mT (eCh3 fLe fLe fLe (eC (.int 1)) (e2 fIx (eVar 0) (eC (.int 1))) (e2 fIx (eVar 0) (eC (.int 2))) (eC (.int 1000000000000)))))))
def m_is_row : List D → Store → Res Rv := runB 1 1 b_is_row
def b_need_rows : MS := mFor (iEnumD (eVar 0)) (gT [1, 2]) (mIf (mOr (mT (e2 fGe (eVar 1) (eC (.int 200)))) (mNot (mT (eCall (noX m_is_row) (aCons (eVar 2) (aNil)))))) (mStk) (mNx))
def m_need_rows : List D → Store → Res Rv := runB 3 1 b_need_rows
def b_need_house : MS := mIf (mNot (mT (eCh2 fLe fLt (eC (.int 0)) (eVar 0) (eC (.int 8))))) (mStk) (mNx)
def m_need_house : List D → Store → Res Rv := runB 1 1 b_need_house
def b_merged : MS := mSeq (mOwn 1 (eLst (aNil))) (mSeq (mFor (iSeq (eCB fSorted (oCons (eVar 0) (oNil)))) (gT [2, 3, 4]) (mIf (mAnd (mT (e2 fNe (eVar 1) (eLst (aNil)))) (mAnd (mT (e2 fEq (e2 fIx (e2 fIx (eVar 1) (e1 fNeg (eC (.int 1)))) (eC (.int 0))) (eVar 2))) (mT (e2 fLe (eVar 3) (e2 fAdd (e2 fIx (e2 fIx (eVar 1) (e1 fNeg (eC (.int 1)))) (eC (.int 2))) (eC (.int 1))))))) (mSetIt (eTup (aCons (eVar 2) (aCons (e2 fIx (e2 fIx (eVar 1) (e1 fNeg (eC (.int 1)))) (eC (.int 1))) (aCons (eCB fMax2 (oCons (e2 fIx (e2 fIx (eVar 1) (e1 fNeg (eC (.int 1)))) (eC (.int 2))) (oCons (eVar 4) (oNil)))) (aNil))))) (eVar 1) (e1 fNeg (eC (.int 1)))) (mApp (eVar 1) (eTup (aCons (eVar 2) (aCons (eVar 3) (aCons (eVar 4) (aNil)))))))) (mRet (eVar 1)))
def m_merged : List D → Store → Res Rv := runB 5 1 b_merged
def b_cut_out : MS := mSeq (mOwn 2 (eLst (aNil))) (mSeq (mFor (iSeq (eVar 0)) (gT [3, 4, 5]) (mSeq (mFor (iSeq (eVar 1)) (gT [6, 7, 8]) (mIf (mAnd (mT (e2 fEq (eVar 6) (eVar 3))) (mAnd (mT (e2 fLe (eVar 7) (eVar 5))) (mT (e2 fLe (eVar 4) (eVar 8))))) (mSeq (mIf (mT (e2 fLt (eVar 4) (eVar 7))) (mApp (eVar 2) (eTup (aCons (eVar 3) (aCons (eVar 4) (aCons (e2 fSub (eVar 7) (eC (.int 1))) (aNil)))))) (mNx)) (mSet 4 (e2 fAdd (eVar 8) (eC (.int 1))))) (mNx))) (mIf (mT (e2 fLe (eVar 4) (eVar 5))) (mApp (eVar 2) (eTup (aCons (eVar 3) (aCons (eVar 4) (aCons (eVar 5) (aNil)))))) (mNx)))) (mRet (eVar 2)))
def m_cut_out : List D → Store → Res Rv := runB 9 2 b_cut_out
def b_in_both : MS := mSeq (mOwn 2 (eLst (aNil))) (mSeq (mFor (iSeq (eVar 0)) (gT [3, 4, 5]) (mFor (iSeq (eVar 1)) (gT [6, 7, 8]) (mIf (mAnd (mT (e2 fEq (eVar 6) (eVar 3))) (mT (e2 fLe (eCB fMax2 (oCons (eVar 4) (oCons (eVar 7) (oNil)))) (eCB fMin2 (oCons (eVar 5) (oCons (eVar 8) (oNil))))))) (mApp (eVar 2) (eTup (aCons (eVar 3) (aCons (eCB fMax2 (oCons (eVar 4) (oCons (eVar 7) (oNil)))) (aCons (eCB fMin2 (oCons (eVar 5) (oCons (eVar 8) (oNil)))) (aNil)))))) (mNx)))) (mRet (eVar 2)))
def m_in_both : List D → Store → Res Rv := runB 9 2 b_in_both
def b_count_of : MS := mRet (eCB fSum (oCons (eLc (iSeq (eVar 0)) (gN 1) [1] (mYes) (e2 fAdd (e2 fSub (e2 fIx (eVar 1) (eC (.int 2))) (e2 fIx (eVar 1) (eC (.int 1)))) (eC (.int 1)))) (oNil)))
def m_count_of : List D → Store → Res Rv := runB 2 1 b_count_of
def b_turns_of : MS := mSeq (mSet 1 (eLst (aNil))) (mSeq (mFor (iSeq (eVar 0)) (gN 2) (mFor (iSeq (eVar 2)) (gT [3, 4, 5]) (mSet 1 (e2 fAdd (eVar 1) (eLst (aCons (eTup (aCons (eVar 3) (aCons (eVar 4) (aCons (eC (.int 1)) (aNil))))) (aCons (eTup (aCons (eVar 3) (aCons (e2 fAdd (eVar 5) (eC (.int 1))) (aCons (e2 fSub (eC (.int 0)) (eC (.int 1))) (aNil))))) (aNil)))))))) (mRet (eCB fSorted (oCons (eVar 1) (oNil)))))
def m_turns_of : List D → Store → Res Rv := runB 6 1 b_turns_of
def b_held_by : MS := mSeq (mOwn 2 (eLst (aNil))) (mSeq (mSet 3 (eC (.int 0))) (mSeq (mSet 4 (eC (.int 0))) (mSeq (mFor (iSeq (eCall (noX m_turns_of) (aCons (eVar 0) (aNil)))) (gT [5, 6, 7]) (mSeq (mIf (mAnd (mT (e2 fGe (eVar 3) (eVar 1))) (mT (e2 fGt (eVar 6) (eVar 4)))) (mApp (eVar 2) (eTup (aCons (eVar 5) (aCons (eVar 4) (aCons (e2 fSub (eVar 6) (eC (.int 1))) (aNil)))))) (mNx)) (mSeq (mSet 3 (e2 fAdd (eVar 3) (eVar 7))) (mSet 4 (eVar 6))))) (mSeq (mFrz 2) (mRet (eCall (noX m_merged) (aCons (eVar 2) (aNil))))))))
def m_held_by : List D → Store → Res Rv := runB 8 2 b_held_by
def b_plain : MS := mSeq (mDrop (eCall (noX m_need_rows) (aCons (eVar 0) (aNil)))) (mRet (eCall (noX m_merged) (aCons (eVar 0) (aNil))))
def m_plain : List D → Store → Res Rv := runB 1 1 b_plain
def b_joined : MS := mRet (eCall (noX m_merged) (aCons (e2 fAdd (eCall (noX m_plain) (aCons (eVar 0) (aNil))) (eCall (noX m_plain) (aCons (eVar 1) (aNil)))) (aNil)))
def m_joined : List D → Store → Res Rv := runB 2 2 b_joined
def b_common : MS := mRet (eCall (noX m_in_both) (aCons (eCall (noX m_plain) (aCons (eVar 0) (aNil))) (aCons (eCall (noX m_plain) (aCons (eVar 1) (aNil))) (aNil))))
def m_common : List D → Store → Res Rv := runB 2 2 b_common
def b_less : MS := mRet (eCall (noX m_cut_out) (aCons (eCall (noX m_plain) (aCons (eVar 0) (aNil))) (aCons (eCall (noX m_plain) (aCons (eVar 1) (aNil))) (aNil))))
def m_less : List D → Store → Res Rv := runB 2 2 b_less
def b_within : MS := mRet (e2 fEq (eCall (noX m_less) (aCons (eVar 0) (aCons (eVar 1) (aNil)))) (eLst (aNil)))
def m_within : List D → Store → Res Rv := runB 2 2 b_within
def b_amount : MS := mRet (eCall (noX m_count_of) (aCons (eCall (noX m_plain) (aCons (eVar 0) (aNil))) (aNil)))
def m_amount : List D → Store → Res Rv := runB 1 1 b_amount
def b_by_many : MS := mSeq (mSet 2 (eLc (iSeq (eVar 0)) (gN 3) [3] (mYes) (eCall (noX m_plain) (aCons (eVar 3) (aNil))))) (mSeq (mIf (mNot (mT (eCh2 fLe fLe (eC (.int 1)) (eVar 1) (eCB fLen (oCons (eVar 0) (oNil)))))) (mStk) (mNx)) (mRet (eCall (noX m_held_by) (aCons (eVar 2) (aCons (eVar 1) (aNil))))))
def m_by_many : List D → Store → Res Rv := runB 4 2 b_by_many
def b_reach : MS := mSeq (mFor (iSeq (eVar 0)) (gT [2, 3, 4]) (mIf (mAnd (mT (e2 fEq (eVar 2) (eVar 1))) (mT (e2 fEq (eVar 3) (eC (.int 1))))) (mRet (eVar 4)) (mNx))) (mRet (eC (.int 0)))
def m_reach : List D → Store → Res Rv := runB 5 2 b_reach
def b_whole_to : MS := mSeq (mSet 2 (eCall (noX m_plain) (aCons (eVar 0) (aNil)))) (mSeq (mDrop (eCall (noX m_need_house) (aCons (eVar 1) (aNil)))) (mRet (eCall (noX m_reach) (aCons (eVar 2) (aCons (eVar 1) (aNil))))))
def m_whole_to : List D → Store → Res Rv := runB 3 2 b_whole_to
def b_gaps : MS := mSeq (mSet 1 (eCall (noX m_plain) (aCons (eVar 0) (aNil)))) (mSeq (mOwn 2 (eDK)) (mSeq (mFor (iSeq (eVar 1)) (gT [3, 4, 5]) (mSetIt (eVar 5) (eVar 2) (eVar 3))) (mRet (eCall (noX m_cut_out) (aCons (eLc (iSeq (eCB fSorted (oCons (eVar 2) (oNil)))) (gN 3) [3] (mYes) (eTup (aCons (eVar 3) (aCons (eC (.int 1)) (aCons (e2 fIx (eVar 2) (eVar 3)) (aNil)))))) (aCons (eVar 1) (aNil)))))))
def m_gaps : List D → Store → Res Rv := runB 6 1 b_gaps
def b__law_dice : MS := mSeq (mSet 1 (eC (.int 0))) (mSeq (mFor (iSeq (eVar 0)) (gN 2) (mSet 1 (e2 fMod (e2 fAdd (e2 fAdd (e2 fMul (eVar 1) (eC (.int 48271))) (e2 fMul (e2 fMod (eVar 2) (eC (.int 2147483647))) (eC (.int 69621)))) (eC (.int 11))) (eC (.int 2147483647))))) (mRet (eLst (aCons (eVar 0) (aCons (eC (.int 0)) (aCons (e2 fMul (eVar 1) (eCB fInt (oCons (e2 fGt (eCB fLen (oCons (eVar 0) (oNil))) (eC (.int 2))) (oNil)))) (aCons (eC (.int 0)) (aNil))))))))
def m__law_dice : List D → Store → Res Rv := runB 3 1 b__law_dice
def b__law_next : MS := mSeq (mIf (mT (e2 fGt (e2 fIx (eVar 0) (eC (.int 3))) (eC (.int 0)))) (mSeq (mSet 2 (e2 fMod (e2 fIx (eVar 0) (eC (.int 3))) (eVar 1))) (mSeq (mSetIt (e2 fDiv (e2 fIx (eVar 0) (eC (.int 3))) (eVar 1)) (eVar 0) (eC (.int 3))) (mRet (eVar 2)))) (mNx)) (mSeq (mSetIt (e2 fAdd (e2 fIx (eVar 0) (eC (.int 1))) (eC (.int 1))) (eVar 0) (eC (.int 1))) (mSeq (mIf (mT (e2 fLe (e2 fIx (eVar 0) (eC (.int 1))) (eCB fLen (oCons (e2 fIx (eVar 0) (eC (.int 0))) (oNil))))) (mSeq (mSet 3 (e2 fIx (e2 fIx (eVar 0) (eC (.int 0))) (e2 fSub (e2 fIx (eVar 0) (eC (.int 1))) (eC (.int 1))))) (mSeq (mSetIt (eIf (mT (e2 fGe (eVar 3) (e2 fPow (eC (.int 10)) (eC (.int 18))))) (e2 fDiv (eVar 3) (eVar 1)) (eC (.int 0))) (eVar 0) (eC (.int 3))) (mRet (e2 fMod (eVar 3) (eVar 1))))) (mNx)) (mSeq (mSetIt (e2 fMod (e2 fMul (e2 fIx (eVar 0) (eC (.int 2))) (eC (.int 48271))) (eC (.int 2147483647))) (eVar 0) (eC (.int 2))) (mRet (e2 fMod (e2 fDiv (e2 fIx (eVar 0) (eC (.int 2))) (eC (.int 7))) (eVar 1))))))
def m__law_next : List D → Store → Res Rv := runB 4 2 b__law_next
def b__law_rows : MS := mSeq (mOwn 4 (eLst (aNil))) (mSeq (mFor (iRange1 (eCall (noX m__law_next) (aCons (eVar 0) (aCons (e2 fAdd (eVar 3) (eC (.int 1))) (aNil))))) (gN 5) (mSeq (mSet 6 (e2 fAdd (eC (.int 1)) (eCall (noX m__law_next) (aCons (eVar 0) (aCons (eVar 2) (aNil)))))) (mSeq (mSet 7 (e2 fIx (eLst (aCons (eC (.int 0)) (aCons (eCall (noX m__law_next) (aCons (eVar 0) (aCons (eC (.int 3)) (aNil)))) (aCons (eCall (noX m__law_next) (aCons (eVar 0) (aCons (eVar 2) (aNil)))) (aNil))))) (eCall (noX m__law_next) (aCons (eVar 0) (aCons (eC (.int 3)) (aNil)))))) (mApp (eVar 4) (eTup (aCons (eCall (noX m__law_next) (aCons (eVar 0) (aCons (eVar 1) (aNil)))) (aCons (eVar 6) (aCons (eCB fMin2 (oCons (eVar 2) (oCons (e2 fAdd (eVar 6) (eVar 7)) (oNil)))) (aNil))))))))) (mRet (eVar 4)))
def m__law_rows : List D → Store → Res Rv := runB 8 4 b__law_rows
def b__law_ends : MS := mSeq (mSet 1 (eCall (noX m_gaps) (aCons (eVar 0) (aNil)))) (mSeq (mIf (mOr (mT (e2 fNe (eCall (noX m_common) (aCons (eVar 1) (aCons (eVar 0) (aNil)))) (eLst (aNil)))) (mT (e2 fNe (eCall (noX m_gaps) (aCons (eCall (noX m_joined) (aCons (eVar 0) (aCons (eVar 1) (aNil)))) (aNil))) (eLst (aNil))))) (mRet (eC (.bl false))) (mNx)) (mSeq (mFor (iRange1 (eC (.int 8))) (gN 2) (mSeq (mSet 3 (eCall (noX m_whole_to) (aCons (eCall (noX m_joined) (aCons (eVar 0) (aCons (eVar 1) (aNil)))) (aCons (eVar 2) (aNil))))) (mSeq (mIf (mT (e2 fNe (eVar 3) (eCB fMaxL (oCons (e2 fAdd (eLst (aCons (eC (.int 0)) (aNil))) (eLc (iSeq (eVar 0)) (gN 4) [4] (mT (e2 fEq (e2 fIx (eVar 4) (eC (.int 0))) (eVar 2))) (e2 fIx (eVar 4) (eC (.int 2))))) (oNil))))) (mRet (eC (.bl false))) (mNx)) (mIf (mAnd (mT (e2 fGt (eCall (noX m_whole_to) (aCons (eVar 0) (aCons (eVar 2) (aNil)))) (eC (.int 0)))) (mNot (mT (eCall (noX m_within) (aCons (eLst (aCons (eTup (aCons (eVar 2) (aCons (eC (.int 1)) (aCons (eCall (noX m_whole_to) (aCons (eVar 0) (aCons (eVar 2) (aNil)))) (aNil))))) (aNil))) (aCons (eVar 0) (aNil))))))) (mRet (eC (.bl false))) (mNx))))) (mRet (eC (.bl true)))))
def m__law_ends : List D → Store → Res Rv := runB 5 1 b__law_ends
def b_law : MS := mSeq (mSet 1 (eLoc (eCall (noX m__law_dice) (aCons (eVar 0) (aNil))))) (mSeq (mSet 2 (e2 fIx (eLst (aCons (eC (.int 20)) (aCons (e2 fPow (eC (.int 10)) (eC (.int 6))) (aCons (e2 fPow (eC (.int 10)) (eC (.int 12))) (aNil))))) (eCall (noX m__law_next) (aCons (eVar 1) (aCons (eC (.int 3)) (aNil)))))) (mSeq (mPar [3, 4, 5] (aCons (eCall (noX m__law_rows) (aCons (eVar 1) (aCons (eC (.int 8)) (aCons (eVar 2) (aCons (eC (.int 20)) (aNil)))))) (aCons (eCall (noX m__law_rows) (aCons (eVar 1) (aCons (eC (.int 8)) (aCons (eVar 2) (aCons (eC (.int 20)) (aNil)))))) (aCons (eCall (noX m__law_rows) (aCons (eVar 1) (aCons (eC (.int 8)) (aCons (eVar 2) (aCons (eC (.int 20)) (aNil)))))) (aNil))))) (mSeq (mSet 6 (eCall (noX m_common) (aCons (eVar 3) (aCons (eVar 4) (aNil))))) (mSeq (mSet 7 (eCall (noX m_joined) (aCons (eVar 3) (aCons (eVar 4) (aNil))))) (mSeq (mIf (mOr (mT (e2 fNe (eVar 7) (eCall (noX m_joined) (aCons (eVar 4) (aCons (eVar 3) (aNil)))))) (mOr (mT (e2 fNe (eVar 6) (eCall (noX m_common) (aCons (eVar 4) (aCons (eVar 3) (aNil)))))) (mOr (mT (e2 fNe (eCall (noX m_plain) (aCons (eVar 7) (aNil))) (eVar 7))) (mT (e2 fNe (eCall (noX m_plain) (aCons (eVar 6) (aNil))) (eVar 6)))))) (mRet (eC (.bl false))) (mNx)) (mSeq (mIf (mT (e2 fNe (eCall (noX m_joined) (aCons (eCall (noX m_joined) (aCons (eVar 3) (aCons (eVar 4) (aNil)))) (aCons (eVar 5) (aNil)))) (eCall (noX m_joined) (aCons (eVar 3) (aCons (eCall (noX m_joined) (aCons (eVar 4) (aCons (eVar 5) (aNil)))) (aNil)))))) (mRet (eC (.bl false))) (mNx)) (mSeq (mIf (mT (e2 fNe (eCall (noX m_common) (aCons (eVar 3) (aCons (eCall (noX m_joined) (aCons (eVar 4) (aCons (eVar 5) (aNil)))) (aNil)))) (eCall (noX m_joined) (aCons (eVar 6) (aCons (eCall (noX m_common) (aCons (eVar 3) (aCons (eVar 5) (aNil)))) (aNil)))))) (mRet (eC (.bl false))) (mNx)) (mSeq (mIf (mOr (mT (e2 fNe (eCall (noX m_joined) (aCons (eCall (noX m_less) (aCons (eVar 3) (aCons (eVar 4) (aNil)))) (aCons (eVar 6) (aNil)))) (eCall (noX m_plain) (aCons (eVar 3) (aNil))))) (mT (e2 fNe (eCall (noX m_common) (aCons (eCall (noX m_less) (aCons (eVar 3) (aCons (eVar 4) (aNil)))) (aCons (eVar 4) (aNil)))) (eLst (aNil))))) (mRet (eC (.bl false))) (mNx)) (mSeq (mIf (mOr (mT (e2 fNe (eCall (noX m_less) (aCons (eVar 3) (aCons (eCall (noX m_joined) (aCons (eVar 4) (aCons (eVar 5) (aNil)))) (aNil)))) (eCall (noX m_less) (aCons (eCall (noX m_less) (aCons (eVar 3) (aCons (eVar 4) (aNil)))) (aCons (eVar 5) (aNil)))))) (mT (e2 fNe (eCall (noX m_less) (aCons (eVar 3) (aCons (eCall (noX m_less) (aCons (eVar 3) (aCons (eVar 4) (aNil)))) (aNil)))) (eVar 6)))) (mRet (eC (.bl false))) (mNx)) (mSeq (mIf (mT (e2 fNe (e2 fAdd (eCall (noX m_amount) (aCons (eVar 3) (aNil))) (eCall (noX m_amount) (aCons (eVar 4) (aNil)))) (e2 fAdd (eCall (noX m_amount) (aCons (eVar 7) (aNil))) (eCall (noX m_amount) (aCons (eVar 6) (aNil)))))) (mRet (eC (.bl false))) (mNx)) (mSeq (mIf (mT (e2 fNe (eCall (noX m_amount) (aCons (eCall (noX m_less) (aCons (eVar 3) (aCons (eVar 4) (aNil)))) (aNil))) (e2 fSub (eCall (noX m_amount) (aCons (eVar 3) (aNil))) (eCall (noX m_amount) (aCons (eVar 6) (aNil)))))) (mRet (eC (.bl false))) (mNx)) (mSeq (mIf (mOr (mNot (mT (eCall (noX m_within) (aCons (eVar 6) (aCons (eVar 3) (aNil)))))) (mOr (mNot (mT (eCall (noX m_within) (aCons (eVar 3) (aCons (eVar 7) (aNil)))))) (mT (e2 fNe (eCall (noX m_within) (aCons (eVar 3) (aCons (eVar 4) (aNil)))) (e2 fEq (eCall (noX m_less) (aCons (eVar 3) (aCons (eVar 4) (aNil)))) (eLst (aNil))))))) (mRet (eC (.bl false))) (mNx)) (mSeq (mSet 8 (eLst (aCons (eVar 3) (aCons (eVar 4) (aCons (eVar 5) (aNil)))))) (mSeq (mIf (mOr (mT (e2 fNe (eCall (noX m_by_many) (aCons (eVar 8) (aCons (eC (.int 1)) (aNil)))) (eCall (noX m_joined) (aCons (eVar 7) (aCons (eVar 5) (aNil)))))) (mT (e2 fNe (eCall (noX m_by_many) (aCons (eVar 8) (aCons (eC (.int 3)) (aNil)))) (eCall (noX m_common) (aCons (eVar 6) (aCons (eVar 5) (aNil))))))) (mRet (eC (.bl false))) (mNx)) (mSeq (mSet 9 (eCall (noX m_joined) (aCons (eCall (noX m_joined) (aCons (eVar 6) (aCons (eCall (noX m_common) (aCons (eVar 3) (aCons (eVar 5) (aNil)))) (aNil)))) (aCons (eCall (noX m_common) (aCons (eVar 4) (aCons (eVar 5) (aNil)))) (aNil))))) (mRet (eB (mAnd (mT (e2 fEq (eCall (noX m_by_many) (aCons (eVar 8) (aCons (eC (.int 2)) (aNil)))) (eVar 9))) (mT (eCall (noX m__law_ends) (aCons (eVar 3) (aNil))))))))))))))))))))))
def m_law : List D → Store → Res Rv := runB 10 1 b_law
end Law

namespace Law
open PySem PySem.Spec PyProof.Rows L2 DL
def top (i : Nat) : Stmt := PySem.Challenge.pw_doneranges_k04_whole_rules_of_sets.main.body.getD i (.Pass ⟨0, 0, 0, 0⟩)
structure Glob (mg : Str → Option Value) : Prop where
  enumerate : mg "enumerate" = none
  int : mg "int" = none
  len : mg "len" = none
  max : mg "max" = none
  min : mg "min" = none
  range : mg "range" = none
  sorted : mg "sorted" = none
  sum : mg "sum" = none
  c_MOST_HOUSES : ∃ t, mg "MOST_HOUSES" = some (.int 8 t)
  c_MOST_NUMBER : ∃ t, mg "MOST_NUMBER" = some (.int 1000000000000 t)
  c_MOST_ROWS : ∃ t, mg "MOST_ROWS" = some (.int 200 t)
section
variable {P : Program} {w : World} {K : PySem.W.Frag} {mg : Str → Option Value} {base : Heap} {cad : Str → Addr}
abbrev s_is_row : Stmt := top 9
theorem sc_is_row : FnScope ["row"] ["row"] (defScope s_is_row) := ⟨rfl, rfl, rfl, by decide +kernel, rfl, by decide +kernel, by decide +kernel⟩
theorem ok_is_row {f : Addr} {fd : FuncData} (G : Glob mg)
    (F : Fun K "is_row" "is_row" s_is_row f fd) (hm : mg "is_row" = some (.ref f)) : Def0 P w K mg base cad "is_row" 1 1 m_is_row := by
  have hb : Binds K fd ["row"] [] := F.binds (ps := ["row"]) fun _ _ _ _ _ _ us hl => match us, hl with | [_], _ => rfl
  have h : Def0 P w K mg base cad "is_row" (0 + 1) ["row"].length (runB ["row"].length ["row"].length b_is_row) := mk0 (k := 0) (b := b_is_row) F sc_is_row hm hb (fun cdv A outer s H E E0 hr => by
    have hU := hU_of hr
    unfold b_is_row
    exact dss_one (ds_ret (PB.v (pb_and (pb_val (de_cmp (op_eqA hU) sd_eq (de_callB call_lenA sd_len (by rfl) G.len bb_len (do_cons (de_var 0) (do_nil))) (de_int))) (pb_and (pb_val (de_ch2 (op_leA hU) sd_ord (op_ltA hU) sd_ord (de_int) (de_ix (ix_all hU) sd_ix (de_var 0) (de_int)) (de_gint (by rfl) G.c_MOST_HOUSES))) (pb_one (pb_val (de_ch3 (op_leA hU) sd_ord (op_leA hU) sd_ord (op_leA hU) sd_ord (de_int) (de_ix (ix_all hU) sd_ix (de_var 0) (de_int)) (de_ix (ix_all hU) sd_ix (de_var 0) (de_int)) (de_gint (by rfl) G.c_MOST_NUMBER)))))))))
  exact h
abbrev s_need_rows : Stmt := top 10
theorem sc_need_rows : FnScope ["rows", "at", "row"] ["rows"] (defScope s_need_rows) := ⟨rfl, rfl, rfl, by decide +kernel, rfl, by decide +kernel, by decide +kernel⟩
theorem ok_need_rows {f : Addr} {fd : FuncData} (G : Glob mg)
    (d_is_row : Def0 P w K mg base cad "is_row" 1 1 m_is_row)
    (F : Fun K "need_rows" "need_rows" s_need_rows f fd) (hm : mg "need_rows" = some (.ref f)) : Def0 P w K mg base cad "need_rows" 2 1 m_need_rows := by
  have hb : Binds K fd ["rows"] [] := F.binds (ps := ["rows"]) fun _ _ _ _ _ _ us hl => match us, hl with | [_], _ => rfl
  have h : Def0 P w K mg base cad "need_rows" (1 + 1) ["rows"].length (runB ["rows", "at", "row"].length ["rows"].length b_need_rows) := mk0 (k := 1) (b := b_need_rows) F sc_need_rows hm hb (fun cdv A outer s H E E0 hr => by
    have hU := hU_of hr
    unfold b_need_rows
    exact dss_one (ds_for PassesOwn.never rfl (di_enum (by rfl) G.enumerate (de_var 0)) (pg_tup rfl (pgs_cons (pg_name (i := 1) sc_need_rows.nd rfl (by first | exact Or.inl rfl | exact Or.inr rfl)) (pgs_cons (pg_name (i := 2) sc_need_rows.nd rfl (by first | exact Or.inl rfl | exact Or.inr rfl)) (pgs_nil)))) (g_tup [1, 2] rfl) (dss_one (ds_if (PW.pt (dw_or (dt_cmp (op_geA hU) sd_ord (de_var 1) (de_gint (by rfl) G.c_MOST_ROWS)) (pw_or1 (dt_not (dt_val (de_callD d_is_row hr (by decide) (by rfl) (da_cons (de_var 2) (da_nil)) (aLenS (aLen0)))))))) (dss_one (ds_never _)) (dss_nil)))))
  exact h
abbrev s_need_house : Stmt := top 11
theorem sc_need_house : FnScope ["house"] ["house"] (defScope s_need_house) := ⟨rfl, rfl, rfl, by decide +kernel, rfl, by decide +kernel, by decide +kernel⟩
theorem ok_need_house {f : Addr} {fd : FuncData} (G : Glob mg)
    (F : Fun K "need_house" "need_house" s_need_house f fd) (hm : mg "need_house" = some (.ref f)) : Def0 P w K mg base cad "need_house" 1 1 m_need_house := by
  have hb : Binds K fd ["house"] [] := F.binds (ps := ["house"]) fun _ _ _ _ _ _ us hl => match us, hl with | [_], _ => rfl
  have h : Def0 P w K mg base cad "need_house" (0 + 1) ["house"].length (runB ["house"].length ["house"].length b_need_house) := mk0 (k := 0) (b := b_need_house) F sc_need_house hm hb (fun cdv A outer s H E E0 hr => by
    have hU := hU_of hr
    unfold b_need_house
    exact dss_one (ds_if (dt_not (dt_ch2 (op_leA hU) sd_ord (op_ltA hU) sd_ord (de_int) (de_var 0) (de_gint (by rfl) G.c_MOST_HOUSES))) (dss_one (ds_never _)) (dss_nil)))
  exact h
abbrev s_merged : Stmt := top 12
theorem sc_merged : FnScope ["rows", "found", "house", "first", "last"] ["rows"] (defScope s_merged) := ⟨rfl, rfl, rfl, by decide +kernel, rfl, by decide +kernel, by decide +kernel⟩
theorem ok_merged {f : Addr} {fd : FuncData} (G : Glob mg)
    (F : Fun K "merged" "merged" s_merged f fd) (hm : mg "merged" = some (.ref f)) : Def0 P w K mg base cad "merged" 1 1 m_merged := by
  have hb : Binds K fd ["rows"] [] := F.binds (ps := ["rows"]) fun _ _ _ _ _ _ us hl => match us, hl with | [_], _ => rfl
  have h : Def0 P w K mg base cad "merged" (0 + 1) ["rows"].length (runB ["rows", "found", "house", "first", "last"].length ["rows"].length b_merged) := mk0 (k := 0) (b := b_merged) F sc_merged hm hb (fun cdv A outer s H E E0 hr => by
    have hU := hU_of hr
    unfold b_merged
    exact dss_cons (ds_own 1 sc_merged.nd (de_lst (da_nil))) (dss_cons (ds_for PassesOwn.never rfl (di_seq (de_callB (cr_sortA (by rfl)) sd_sorted (by rfl) G.sorted bb_sorted (do_cons (de_var 0) (do_nil)))) (pg_tup rfl (pgs_cons (pg_name (i := 2) sc_merged.nd rfl (by first | exact Or.inl rfl | exact Or.inr rfl)) (pgs_cons (pg_name (i := 3) sc_merged.nd rfl (by first | exact Or.inl rfl | exact Or.inr rfl)) (pgs_cons (pg_name (i := 4) sc_merged.nd rfl (by first | exact Or.inl rfl | exact Or.inr rfl)) (pgs_nil))))) (g_tup [2, 3, 4] rfl) (dss_one (ds_if (PW.pt (dw_and (dt_cmp (op_neA hU) sd_ne (de_var 1) (de_lst (da_nil))) (dw_and (dt_cmp (op_eqA hU) sd_eq (de_ix (ix_all hU) sd_ix (de_ix (ix_all hU) sd_ix (de_var 1) (de_un un_neg sd_neg (de_int))) (de_int)) (de_var 2)) (pw_and1 (dt_cmp (op_leA hU) sd_ord (de_var 3) (de_bin op_addA sd_add (de_ix (ix_all hU) sd_ix (de_ix (ix_all hU) sd_ix (de_var 1) (de_un un_neg sd_neg (de_int))) (de_int)) (de_int))))))) (dss_one (ds_setit hU (de_tup (da_cons (de_var 2) (da_cons (de_ix (ix_all hU) sd_ix (de_ix (ix_all hU) sd_ix (de_var 1) (de_un un_neg sd_neg (de_int))) (de_int)) (da_cons (de_callB (call_max2 (by rfl)) sd_max2 (by rfl) G.max bb_max (do_cons (de_ix (ix_all hU) sd_ix (de_ix (ix_all hU) sd_ix (de_var 1) (de_un un_neg sd_neg (de_int))) (de_int)) (do_cons (de_var 4) (do_nil)))) (da_nil))))) (de_var 1) (de_un un_neg sd_neg (de_int)))) (dss_one (ds_app (de_var 1) (de_tup (da_cons (de_var 2) (da_cons (de_var 3) (da_cons (de_var 4) (da_nil)))))))))) (dss_one (ds_ret (de_var 1)))))
  exact h
abbrev s_cut_out : Stmt := top 13
theorem sc_cut_out : FnScope ["rows", "others", "found", "house", "first", "last", "other", "begin", "end"] ["rows", "others"] (defScope s_cut_out) := ⟨rfl, rfl, rfl, by decide +kernel, rfl, by decide +kernel, by decide +kernel⟩
theorem ok_cut_out {f : Addr} {fd : FuncData} (G : Glob mg)
    (F : Fun K "cut_out" "cut_out" s_cut_out f fd) (hm : mg "cut_out" = some (.ref f)) : Def0 P w K mg base cad "cut_out" 1 2 m_cut_out := by
  have hb : Binds K fd ["rows", "others"] [] := F.binds (ps := ["rows", "others"]) fun _ _ _ _ _ _ us hl => match us, hl with | [_, _], _ => rfl
  have h : Def0 P w K mg base cad "cut_out" (0 + 1) ["rows", "others"].length (runB ["rows", "others", "found", "house", "first", "last", "other", "begin", "end"].length ["rows", "others"].length b_cut_out) := mk0 (k := 0) (b := b_cut_out) F sc_cut_out hm hb (fun cdv A outer s H E E0 hr => by
    have hU := hU_of hr
    unfold b_cut_out
    exact dss_cons (ds_own 2 sc_cut_out.nd (de_lst (da_nil))) (dss_cons (ds_for PassesOwn.never rfl (di_seq (de_var 0)) (pg_tup rfl (pgs_cons (pg_name (i := 3) sc_cut_out.nd rfl (by first | exact Or.inl rfl | exact Or.inr rfl)) (pgs_cons (pg_name (i := 4) sc_cut_out.nd rfl (by first | exact Or.inl rfl | exact Or.inr rfl)) (pgs_cons (pg_name (i := 5) sc_cut_out.nd rfl (by first | exact Or.inl rfl | exact Or.inr rfl)) (pgs_nil))))) (g_tup [3, 4, 5] rfl) (dss_cons (ds_for PassesOwn.never rfl (di_seq (de_var 1)) (pg_tup rfl (pgs_cons (pg_name (i := 6) sc_cut_out.nd rfl (by first | exact Or.inl rfl | exact Or.inr rfl)) (pgs_cons (pg_name (i := 7) sc_cut_out.nd rfl (by first | exact Or.inl rfl | exact Or.inr rfl)) (pgs_cons (pg_name (i := 8) sc_cut_out.nd rfl (by first | exact Or.inl rfl | exact Or.inr rfl)) (pgs_nil))))) (g_tup [6, 7, 8] rfl) (dss_one (ds_if (PW.pt (dw_and (dt_cmp (op_eqA hU) sd_eq (de_var 6) (de_var 3)) (dw_and (dt_cmp (op_leA hU) sd_ord (de_var 7) (de_var 5)) (pw_and1 (dt_cmp (op_leA hU) sd_ord (de_var 4) (de_var 8)))))) (dss_cons (ds_if (dt_cmp (op_ltA hU) sd_ord (de_var 4) (de_var 7)) (dss_one (ds_app (de_var 2) (de_tup (da_cons (de_var 3) (da_cons (de_var 4) (da_cons (de_bin op_subA sd_sub (de_var 7) (de_int)) (da_nil))))))) (dss_nil)) (dss_one (ds_set 4 sc_cut_out.nd (de_bin op_addA sd_add (de_var 8) (de_int))))) (dss_nil)))) (dss_one (ds_if (dt_cmp (op_leA hU) sd_ord (de_var 4) (de_var 5)) (dss_one (ds_app (de_var 2) (de_tup (da_cons (de_var 3) (da_cons (de_var 4) (da_cons (de_var 5) (da_nil))))))) (dss_nil))))) (dss_one (ds_ret (de_var 2)))))
  exact h
abbrev s_in_both : Stmt := top 14
theorem sc_in_both : FnScope ["rows", "others", "found", "house", "first", "last", "other", "begin", "end"] ["rows", "others"] (defScope s_in_both) := ⟨rfl, rfl, rfl, by decide +kernel, rfl, by decide +kernel, by decide +kernel⟩
theorem ok_in_both {f : Addr} {fd : FuncData} (G : Glob mg)
    (F : Fun K "in_both" "in_both" s_in_both f fd) (hm : mg "in_both" = some (.ref f)) : Def0 P w K mg base cad "in_both" 1 2 m_in_both := by
  have hb : Binds K fd ["rows", "others"] [] := F.binds (ps := ["rows", "others"]) fun _ _ _ _ _ _ us hl => match us, hl with | [_, _], _ => rfl
  have h : Def0 P w K mg base cad "in_both" (0 + 1) ["rows", "others"].length (runB ["rows", "others", "found", "house", "first", "last", "other", "begin", "end"].length ["rows", "others"].length b_in_both) := mk0 (k := 0) (b := b_in_both) F sc_in_both hm hb (fun cdv A outer s H E E0 hr => by
    have hU := hU_of hr
    unfold b_in_both
    exact dss_cons (ds_own 2 sc_in_both.nd (de_lst (da_nil))) (dss_cons (ds_for PassesOwn.never rfl (di_seq (de_var 0)) (pg_tup rfl (pgs_cons (pg_name (i := 3) sc_in_both.nd rfl (by first | exact Or.inl rfl | exact Or.inr rfl)) (pgs_cons (pg_name (i := 4) sc_in_both.nd rfl (by first | exact Or.inl rfl | exact Or.inr rfl)) (pgs_cons (pg_name (i := 5) sc_in_both.nd rfl (by first | exact Or.inl rfl | exact Or.inr rfl)) (pgs_nil))))) (g_tup [3, 4, 5] rfl) (dss_one (ds_for PassesOwn.never rfl (di_seq (de_var 1)) (pg_tup rfl (pgs_cons (pg_name (i := 6) sc_in_both.nd rfl (by first | exact Or.inl rfl | exact Or.inr rfl)) (pgs_cons (pg_name (i := 7) sc_in_both.nd rfl (by first | exact Or.inl rfl | exact Or.inr rfl)) (pgs_cons (pg_name (i := 8) sc_in_both.nd rfl (by first | exact Or.inl rfl | exact Or.inr rfl)) (pgs_nil))))) (g_tup [6, 7, 8] rfl) (dss_one (ds_if (PW.pt (dw_and (dt_cmp (op_eqA hU) sd_eq (de_var 6) (de_var 3)) (pw_and1 (dt_cmp (op_leA hU) sd_ord (de_callB (call_max2 (by rfl)) sd_max2 (by rfl) G.max bb_max (do_cons (de_var 4) (do_cons (de_var 7) (do_nil)))) (de_callB (call_min2 (by rfl)) sd_min2 (by rfl) G.min bb_min (do_cons (de_var 5) (do_cons (de_var 8) (do_nil)))))))) (dss_one (ds_app (de_var 2) (de_tup (da_cons (de_var 3) (da_cons (de_callB (call_max2 (by rfl)) sd_max2 (by rfl) G.max bb_max (do_cons (de_var 4) (do_cons (de_var 7) (do_nil)))) (da_cons (de_callB (call_min2 (by rfl)) sd_min2 (by rfl) G.min bb_min (do_cons (de_var 5) (do_cons (de_var 8) (do_nil)))) (da_nil))))))) (dss_nil)))))) (dss_one (ds_ret (de_var 2)))))
  exact h
abbrev s_count_of : Stmt := top 15
theorem sc_count_of : FnScope ["rows", "row"] ["rows"] (defScope s_count_of) := ⟨rfl, rfl, rfl, by decide +kernel, rfl, by decide +kernel, by decide +kernel⟩
theorem ok_count_of {f : Addr} {fd : FuncData} (G : Glob mg)
    (F : Fun K "count_of" "count_of" s_count_of f fd) (hm : mg "count_of" = some (.ref f)) : Def0 P w K mg base cad "count_of" 1 1 m_count_of := by
  have hb : Binds K fd ["rows"] [] := F.binds (ps := ["rows"]) fun _ _ _ _ _ _ us hl => match us, hl with | [_], _ => rfl
  have h : Def0 P w K mg base cad "count_of" (0 + 1) ["rows"].length (runB ["rows", "row"].length ["rows"].length b_count_of) := mk0 (k := 0) (b := b_count_of) F sc_count_of hm hb (fun cdv A outer s H E E0 hr => by
    have hU := hU_of hr
    unfold b_count_of
    exact dss_one (ds_ret (de_callB (cr_sum (by rfl)) sd_sum (by rfl) G.sum bb_sum (do_cons (de_lc (own := [("row", 1)]) rfl sc_count_of.nd (di_seq (de_var 0)) (blkOk_by (own := [("row", 1)]) (N := ["rows", "row"]) (sc := defScope s_count_of) (by decide +kernel)) (fun _ _ _ _ _ => pg_name (i := 1) sc_count_of.nd rfl (by first | exact Or.inl rfl | exact Or.inr rfl)) (g_name 1) (fun _ _ _ _ _ => dts_nil) (fun _ _ _ _ _ => de_bin op_addA sd_add (de_bin op_subA sd_sub (de_ix (ix_all hU) sd_ix (de_var 1) (de_int)) (de_ix (ix_all hU) sd_ix (de_var 1) (de_int))) (de_int))) (do_nil)))))
  exact h
abbrev s_turns_of : Stmt := top 16
theorem sc_turns_of : FnScope ["sets", "found", "rows", "house", "first", "last"] ["sets"] (defScope s_turns_of) := ⟨rfl, rfl, rfl, by decide +kernel, rfl, by decide +kernel, by decide +kernel⟩
theorem ok_turns_of {f : Addr} {fd : FuncData} (G : Glob mg)
    (F : Fun K "turns_of" "turns_of" s_turns_of f fd) (hm : mg "turns_of" = some (.ref f)) : Def0 P w K mg base cad "turns_of" 1 1 m_turns_of := by
  have hb : Binds K fd ["sets"] [] := F.binds (ps := ["sets"]) fun _ _ _ _ _ _ us hl => match us, hl with | [_], _ => rfl
  have h : Def0 P w K mg base cad "turns_of" (0 + 1) ["sets"].length (runB ["sets", "found", "rows", "house", "first", "last"].length ["sets"].length b_turns_of) := mk0 (k := 0) (b := b_turns_of) F sc_turns_of hm hb (fun cdv A outer s H E E0 hr => by
    have hU := hU_of hr
    unfold b_turns_of
    exact dss_cons (ds_set 1 sc_turns_of.nd (de_lst (da_nil))) (dss_cons (ds_for PassesOwn.never rfl (di_seq (de_var 0)) (pg_name (i := 2) sc_turns_of.nd rfl (by first | exact Or.inl rfl | exact Or.inr rfl)) (g_name 2) (dss_one (ds_for PassesOwn.never rfl (di_seq (de_var 2)) (pg_tup rfl (pgs_cons (pg_name (i := 3) sc_turns_of.nd rfl (by first | exact Or.inl rfl | exact Or.inr rfl)) (pgs_cons (pg_name (i := 4) sc_turns_of.nd rfl (by first | exact Or.inl rfl | exact Or.inr rfl)) (pgs_cons (pg_name (i := 5) sc_turns_of.nd rfl (by first | exact Or.inl rfl | exact Or.inr rfl)) (pgs_nil))))) (g_tup [3, 4, 5] rfl) (dss_one (ds_set 1 sc_turns_of.nd (de_bin op_addA sd_add (de_var 1) (de_lst (da_cons (de_tup (da_cons (de_var 3) (da_cons (de_var 4) (da_cons (de_int) (da_nil))))) (da_cons (de_tup (da_cons (de_var 3) (da_cons (de_bin op_addA sd_add (de_var 5) (de_int)) (da_cons (de_bin op_subA sd_sub (de_int) (de_int)) (da_nil))))) (da_nil)))))))))) (dss_one (ds_ret (de_callB (cr_sortA (by rfl)) sd_sorted (by rfl) G.sorted bb_sorted (do_cons (de_var 1) (do_nil)))))))
  exact h
abbrev s_held_by : Stmt := top 17
theorem sc_held_by : FnScope ["sets", "least", "found", "many", "begun", "house", "number", "turn"] ["sets", "least"] (defScope s_held_by) := ⟨rfl, rfl, rfl, by decide +kernel, rfl, by decide +kernel, by decide +kernel⟩
theorem ok_held_by {f : Addr} {fd : FuncData} (G : Glob mg)
    (d_merged : Def0 P w K mg base cad "merged" 1 1 m_merged)
    (d_turns_of : Def0 P w K mg base cad "turns_of" 1 1 m_turns_of)
    (F : Fun K "held_by" "held_by" s_held_by f fd) (hm : mg "held_by" = some (.ref f)) : Def0 P w K mg base cad "held_by" 2 2 m_held_by := by
  have hb : Binds K fd ["sets", "least"] [] := F.binds (ps := ["sets", "least"]) fun _ _ _ _ _ _ us hl => match us, hl with | [_, _], _ => rfl
  have h : Def0 P w K mg base cad "held_by" (1 + 1) ["sets", "least"].length (runB ["sets", "least", "found", "many", "begun", "house", "number", "turn"].length ["sets", "least"].length b_held_by) := mk0 (k := 1) (b := b_held_by) F sc_held_by hm hb (fun cdv A outer s H E E0 hr => by
    have hU := hU_of hr
    unfold b_held_by
    exact dss_cons (ds_own 2 sc_held_by.nd (de_lst (da_nil))) (dss_cons (ds_set 3 sc_held_by.nd (de_int)) (dss_cons (ds_set 4 sc_held_by.nd (de_int)) (dss_cons (ds_for PassesOwn.never rfl (di_seq (de_callD d_turns_of hr (by decide) (by rfl) (da_cons (de_var 0) (da_nil)) (aLenS (aLen0)))) (pg_tup rfl (pgs_cons (pg_name (i := 5) sc_held_by.nd rfl (by first | exact Or.inl rfl | exact Or.inr rfl)) (pgs_cons (pg_name (i := 6) sc_held_by.nd rfl (by first | exact Or.inl rfl | exact Or.inr rfl)) (pgs_cons (pg_name (i := 7) sc_held_by.nd rfl (by first | exact Or.inl rfl | exact Or.inr rfl)) (pgs_nil))))) (g_tup [5, 6, 7] rfl) (dss_cons (ds_if (PW.pt (dw_and (dt_cmp (op_geA hU) sd_ord (de_var 3) (de_var 1)) (pw_and1 (dt_cmp (op_gtA hU) sd_ord (de_var 6) (de_var 4))))) (dss_one (ds_app (de_var 2) (de_tup (da_cons (de_var 5) (da_cons (de_var 4) (da_cons (de_bin op_subA sd_sub (de_var 6) (de_int)) (da_nil))))))) (dss_nil)) (dss_cons (ds_set 3 sc_held_by.nd (de_bin op_addA sd_add (de_var 3) (de_var 7))) (dss_one (ds_set 4 sc_held_by.nd (de_var 6)))))) (dss_frz 2 (dss_one (ds_ret (de_callD d_merged hr (by decide) (by rfl) (da_cons (de_var 2) (da_nil)) (aLenS (aLen0))))))))))
  exact h
abbrev s_plain : Stmt := top 18
theorem sc_plain : FnScope ["rows"] ["rows"] (defScope s_plain) := ⟨rfl, rfl, rfl, by decide +kernel, rfl, by decide +kernel, by decide +kernel⟩
theorem ok_plain {f : Addr} {fd : FuncData} (G : Glob mg)
    (d_merged : Def0 P w K mg base cad "merged" 1 1 m_merged)
    (d_need_rows : Def0 P w K mg base cad "need_rows" 2 1 m_need_rows)
    (F : Fun K "plain" "plain" s_plain f fd) (hm : mg "plain" = some (.ref f)) : Def0 P w K mg base cad "plain" 3 1 m_plain := by
  have hb : Binds K fd ["rows"] [] := F.binds (ps := ["rows"]) fun _ _ _ _ _ _ us hl => match us, hl with | [_], _ => rfl
  have h : Def0 P w K mg base cad "plain" (2 + 1) ["rows"].length (runB ["rows"].length ["rows"].length b_plain) := mk0 (k := 2) (b := b_plain) F sc_plain hm hb (fun cdv A outer s H E E0 hr => by
    have hU := hU_of hr
    unfold b_plain
    exact dss_cons (ds_drop (de_callD d_need_rows hr (by decide) (by rfl) (da_cons (de_var 0) (da_nil)) (aLenS (aLen0)))) (dss_one (ds_ret (de_callD d_merged hr (by decide) (by rfl) (da_cons (de_var 0) (da_nil)) (aLenS (aLen0))))))
  exact h
abbrev s_joined : Stmt := top 19
theorem sc_joined : FnScope ["one", "other"] ["one", "other"] (defScope s_joined) := ⟨rfl, rfl, rfl, by decide +kernel, rfl, by decide +kernel, by decide +kernel⟩
theorem ok_joined {f : Addr} {fd : FuncData} (G : Glob mg)
    (d_merged : Def0 P w K mg base cad "merged" 1 1 m_merged)
    (d_plain : Def0 P w K mg base cad "plain" 3 1 m_plain)
    (F : Fun K "joined" "joined" s_joined f fd) (hm : mg "joined" = some (.ref f)) : Def0 P w K mg base cad "joined" 4 2 m_joined := by
  have hb : Binds K fd ["one", "other"] [] := F.binds (ps := ["one", "other"]) fun _ _ _ _ _ _ us hl => match us, hl with | [_, _], _ => rfl
  have h : Def0 P w K mg base cad "joined" (3 + 1) ["one", "other"].length (runB ["one", "other"].length ["one", "other"].length b_joined) := mk0 (k := 3) (b := b_joined) F sc_joined hm hb (fun cdv A outer s H E E0 hr => by
    have hU := hU_of hr
    unfold b_joined
    exact dss_one (ds_ret (de_callD d_merged hr (by decide) (by rfl) (da_cons (de_bin op_addA sd_add (de_callD d_plain hr (by decide) (by rfl) (da_cons (de_var 0) (da_nil)) (aLenS (aLen0))) (de_callD d_plain hr (by decide) (by rfl) (da_cons (de_var 1) (da_nil)) (aLenS (aLen0)))) (da_nil)) (aLenS (aLen0)))))
  exact h
abbrev s_common : Stmt := top 20
theorem sc_common : FnScope ["one", "other"] ["one", "other"] (defScope s_common) := ⟨rfl, rfl, rfl, by decide +kernel, rfl, by decide +kernel, by decide +kernel⟩
theorem ok_common {f : Addr} {fd : FuncData} (G : Glob mg)
    (d_in_both : Def0 P w K mg base cad "in_both" 1 2 m_in_both)
    (d_plain : Def0 P w K mg base cad "plain" 3 1 m_plain)
    (F : Fun K "common" "common" s_common f fd) (hm : mg "common" = some (.ref f)) : Def0 P w K mg base cad "common" 4 2 m_common := by
  have hb : Binds K fd ["one", "other"] [] := F.binds (ps := ["one", "other"]) fun _ _ _ _ _ _ us hl => match us, hl with | [_, _], _ => rfl
  have h : Def0 P w K mg base cad "common" (3 + 1) ["one", "other"].length (runB ["one", "other"].length ["one", "other"].length b_common) := mk0 (k := 3) (b := b_common) F sc_common hm hb (fun cdv A outer s H E E0 hr => by
    have hU := hU_of hr
    unfold b_common
    exact dss_one (ds_ret (de_callD d_in_both hr (by decide) (by rfl) (da_cons (de_callD d_plain hr (by decide) (by rfl) (da_cons (de_var 0) (da_nil)) (aLenS (aLen0))) (da_cons (de_callD d_plain hr (by decide) (by rfl) (da_cons (de_var 1) (da_nil)) (aLenS (aLen0))) (da_nil))) (aLenS (aLenS (aLen0))))))
  exact h
abbrev s_less : Stmt := top 21
theorem sc_less : FnScope ["one", "other"] ["one", "other"] (defScope s_less) := ⟨rfl, rfl, rfl, by decide +kernel, rfl, by decide +kernel, by decide +kernel⟩
theorem ok_less {f : Addr} {fd : FuncData} (G : Glob mg)
    (d_cut_out : Def0 P w K mg base cad "cut_out" 1 2 m_cut_out)
    (d_plain : Def0 P w K mg base cad "plain" 3 1 m_plain)
    (F : Fun K "less" "less" s_less f fd) (hm : mg "less" = some (.ref f)) : Def0 P w K mg base cad "less" 4 2 m_less := by
  have hb : Binds K fd ["one", "other"] [] := F.binds (ps := ["one", "other"]) fun _ _ _ _ _ _ us hl => match us, hl with | [_, _], _ => rfl
  have h : Def0 P w K mg base cad "less" (3 + 1) ["one", "other"].length (runB ["one", "other"].length ["one", "other"].length b_less) := mk0 (k := 3) (b := b_less) F sc_less hm hb (fun cdv A outer s H E E0 hr => by
    have hU := hU_of hr
    unfold b_less
    exact dss_one (ds_ret (de_callD d_cut_out hr (by decide) (by rfl) (da_cons (de_callD d_plain hr (by decide) (by rfl) (da_cons (de_var 0) (da_nil)) (aLenS (aLen0))) (da_cons (de_callD d_plain hr (by decide) (by rfl) (da_cons (de_var 1) (da_nil)) (aLenS (aLen0))) (da_nil))) (aLenS (aLenS (aLen0))))))
  exact h
abbrev s_within : Stmt := top 22
theorem sc_within : FnScope ["one", "other"] ["one", "other"] (defScope s_within) := ⟨rfl, rfl, rfl, by decide +kernel, rfl, by decide +kernel, by decide +kernel⟩
theorem ok_within {f : Addr} {fd : FuncData} (G : Glob mg)
    (d_less : Def0 P w K mg base cad "less" 4 2 m_less)
    (F : Fun K "within" "within" s_within f fd) (hm : mg "within" = some (.ref f)) : Def0 P w K mg base cad "within" 5 2 m_within := by
  have hb : Binds K fd ["one", "other"] [] := F.binds (ps := ["one", "other"]) fun _ _ _ _ _ _ us hl => match us, hl with | [_, _], _ => rfl
  have h : Def0 P w K mg base cad "within" (4 + 1) ["one", "other"].length (runB ["one", "other"].length ["one", "other"].length b_within) := mk0 (k := 4) (b := b_within) F sc_within hm hb (fun cdv A outer s H E E0 hr => by
    have hU := hU_of hr
    unfold b_within
    exact dss_one (ds_ret (de_cmp (op_eqA hU) sd_eq (de_callD d_less hr (by decide) (by rfl) (da_cons (de_var 0) (da_cons (de_var 1) (da_nil))) (aLenS (aLenS (aLen0)))) (de_lst (da_nil)))))
  exact h
abbrev s_amount : Stmt := top 23
theorem sc_amount : FnScope ["rows"] ["rows"] (defScope s_amount) := ⟨rfl, rfl, rfl, by decide +kernel, rfl, by decide +kernel, by decide +kernel⟩
theorem ok_amount {f : Addr} {fd : FuncData} (G : Glob mg)
    (d_count_of : Def0 P w K mg base cad "count_of" 1 1 m_count_of)
    (d_plain : Def0 P w K mg base cad "plain" 3 1 m_plain)
    (F : Fun K "amount" "amount" s_amount f fd) (hm : mg "amount" = some (.ref f)) : Def0 P w K mg base cad "amount" 4 1 m_amount := by
  have hb : Binds K fd ["rows"] [] := F.binds (ps := ["rows"]) fun _ _ _ _ _ _ us hl => match us, hl with | [_], _ => rfl
  have h : Def0 P w K mg base cad "amount" (3 + 1) ["rows"].length (runB ["rows"].length ["rows"].length b_amount) := mk0 (k := 3) (b := b_amount) F sc_amount hm hb (fun cdv A outer s H E E0 hr => by
    have hU := hU_of hr
    unfold b_amount
    exact dss_one (ds_ret (de_callD d_count_of hr (by decide) (by rfl) (da_cons (de_callD d_plain hr (by decide) (by rfl) (da_cons (de_var 0) (da_nil)) (aLenS (aLen0))) (da_nil)) (aLenS (aLen0)))))
  exact h
abbrev s_by_many : Stmt := top 24
theorem sc_by_many : FnScope ["sets", "least", "some", "rows"] ["sets", "least"] (defScope s_by_many) := ⟨rfl, rfl, rfl, by decide +kernel, rfl, by decide +kernel, by decide +kernel⟩
theorem ok_by_many {f : Addr} {fd : FuncData} (G : Glob mg)
    (d_held_by : Def0 P w K mg base cad "held_by" 2 2 m_held_by)
    (d_plain : Def0 P w K mg base cad "plain" 3 1 m_plain)
    (F : Fun K "by_many" "by_many" s_by_many f fd) (hm : mg "by_many" = some (.ref f)) : Def0 P w K mg base cad "by_many" 4 2 m_by_many := by
  have hb : Binds K fd ["sets", "least"] [] := F.binds (ps := ["sets", "least"]) fun _ _ _ _ _ _ us hl => match us, hl with | [_, _], _ => rfl
  have h : Def0 P w K mg base cad "by_many" (3 + 1) ["sets", "least"].length (runB ["sets", "least", "some", "rows"].length ["sets", "least"].length b_by_many) := mk0 (k := 3) (b := b_by_many) F sc_by_many hm hb (fun cdv A outer s H E E0 hr => by
    have hU := hU_of hr
    unfold b_by_many
    exact dss_cons (ds_setLc 2 (own := [("rows", 3)]) rfl sc_by_many.nd rfl (sw_true rfl rfl rfl (by decide +kernel)) (di_seq (de_var 0)) (blkOk_by (own := [("rows", 3)]) (N := ["sets", "least", "some", "rows"]) (sc := defScope s_by_many) (by decide +kernel)) (fun _ _ _ _ _ => pg_name (i := 3) sc_by_many.nd rfl (by first | exact Or.inl rfl | exact Or.inr rfl)) (g_name 3) (fun _ _ _ _ _ => dts_nil) (fun _ _ _ _ _ => de_callD d_plain hr (by decide) (by rfl) (da_cons (de_var 3) (da_nil)) (aLenS (aLen0)))) (dss_cons (ds_if (dt_not (dt_ch2 (op_leA hU) sd_ord (op_leA hU) sd_ord (de_int) (de_var 1) (de_callB call_lenA sd_len (by rfl) G.len bb_len (do_cons (de_var 0) (do_nil))))) (dss_one (ds_never _)) (dss_nil)) (dss_one (ds_ret (de_callD d_held_by hr (by decide) (by rfl) (da_cons (de_var 2) (da_cons (de_var 1) (da_nil))) (aLenS (aLenS (aLen0))))))))
  exact h
abbrev s_reach : Stmt := top 25
theorem sc_reach : FnScope ["rows", "house", "other", "first", "last"] ["rows", "house"] (defScope s_reach) := ⟨rfl, rfl, rfl, by decide +kernel, rfl, by decide +kernel, by decide +kernel⟩
theorem ok_reach {f : Addr} {fd : FuncData} (G : Glob mg)
    (F : Fun K "reach" "reach" s_reach f fd) (hm : mg "reach" = some (.ref f)) : Def0 P w K mg base cad "reach" 1 2 m_reach := by
  have hb : Binds K fd ["rows", "house"] [] := F.binds (ps := ["rows", "house"]) fun _ _ _ _ _ _ us hl => match us, hl with | [_, _], _ => rfl
  have h : Def0 P w K mg base cad "reach" (0 + 1) ["rows", "house"].length (runB ["rows", "house", "other", "first", "last"].length ["rows", "house"].length b_reach) := mk0 (k := 0) (b := b_reach) F sc_reach hm hb (fun cdv A outer s H E E0 hr => by
    have hU := hU_of hr
    unfold b_reach
    exact dss_cons (ds_for PassesOwn.never rfl (di_seq (de_var 0)) (pg_tup rfl (pgs_cons (pg_name (i := 2) sc_reach.nd rfl (by first | exact Or.inl rfl | exact Or.inr rfl)) (pgs_cons (pg_name (i := 3) sc_reach.nd rfl (by first | exact Or.inl rfl | exact Or.inr rfl)) (pgs_cons (pg_name (i := 4) sc_reach.nd rfl (by first | exact Or.inl rfl | exact Or.inr rfl)) (pgs_nil))))) (g_tup [2, 3, 4] rfl) (dss_one (ds_if (PW.pt (dw_and (dt_cmp (op_eqA hU) sd_eq (de_var 2) (de_var 1)) (pw_and1 (dt_cmp (op_eqA hU) sd_eq (de_var 3) (de_int))))) (dss_one (ds_ret (de_var 4))) (dss_nil)))) (dss_one (ds_ret (de_int))))
  exact h
abbrev s_whole_to : Stmt := top 26
theorem sc_whole_to : FnScope ["rows", "house", "some"] ["rows", "house"] (defScope s_whole_to) := ⟨rfl, rfl, rfl, by decide +kernel, rfl, by decide +kernel, by decide +kernel⟩
theorem ok_whole_to {f : Addr} {fd : FuncData} (G : Glob mg)
    (d_need_house : Def0 P w K mg base cad "need_house" 1 1 m_need_house)
    (d_plain : Def0 P w K mg base cad "plain" 3 1 m_plain)
    (d_reach : Def0 P w K mg base cad "reach" 1 2 m_reach)
    (F : Fun K "whole_to" "whole_to" s_whole_to f fd) (hm : mg "whole_to" = some (.ref f)) : Def0 P w K mg base cad "whole_to" 4 2 m_whole_to := by
  have hb : Binds K fd ["rows", "house"] [] := F.binds (ps := ["rows", "house"]) fun _ _ _ _ _ _ us hl => match us, hl with | [_, _], _ => rfl
  have h : Def0 P w K mg base cad "whole_to" (3 + 1) ["rows", "house"].length (runB ["rows", "house", "some"].length ["rows", "house"].length b_whole_to) := mk0 (k := 3) (b := b_whole_to) F sc_whole_to hm hb (fun cdv A outer s H E E0 hr => by
    have hU := hU_of hr
    unfold b_whole_to
    exact dss_cons (ds_set 2 sc_whole_to.nd (de_callD d_plain hr (by decide) (by rfl) (da_cons (de_var 0) (da_nil)) (aLenS (aLen0)))) (dss_cons (ds_drop (de_callD d_need_house hr (by decide) (by rfl) (da_cons (de_var 1) (da_nil)) (aLenS (aLen0)))) (dss_one (ds_ret (de_callD d_reach hr (by decide) (by rfl) (da_cons (de_var 2) (da_cons (de_var 1) (da_nil))) (aLenS (aLenS (aLen0))))))))
  exact h
abbrev s_gaps : Stmt := top 27
theorem sc_gaps : FnScope ["rows", "some", "last", "house", "first", "end"] ["rows"] (defScope s_gaps) := ⟨rfl, rfl, rfl, by decide +kernel, rfl, by decide +kernel, by decide +kernel⟩
theorem ok_gaps {f : Addr} {fd : FuncData} (G : Glob mg)
    (d_cut_out : Def0 P w K mg base cad "cut_out" 1 2 m_cut_out)
    (d_plain : Def0 P w K mg base cad "plain" 3 1 m_plain)
    (F : Fun K "gaps" "gaps" s_gaps f fd) (hm : mg "gaps" = some (.ref f)) : Def0 P w K mg base cad "gaps" 4 1 m_gaps := by
  have hb : Binds K fd ["rows"] [] := F.binds (ps := ["rows"]) fun _ _ _ _ _ _ us hl => match us, hl with | [_], _ => rfl
  have h : Def0 P w K mg base cad "gaps" (3 + 1) ["rows"].length (runB ["rows", "some", "last", "house", "first", "end"].length ["rows"].length b_gaps) := mk0 (k := 3) (b := b_gaps) F sc_gaps hm hb (fun cdv A outer s H E E0 hr => by
    have hU := hU_of hr
    unfold b_gaps
    exact dss_cons (ds_set 1 sc_gaps.nd (de_callD d_plain hr (by decide) (by rfl) (da_cons (de_var 0) (da_nil)) (aLenS (aLen0)))) (dss_cons (ds_own 2 sc_gaps.nd (de_dK)) (dss_cons (ds_for PassesOwn.never rfl (di_seq (de_var 1)) (pg_tup rfl (pgs_cons (pg_name (i := 3) sc_gaps.nd rfl (by first | exact Or.inl rfl | exact Or.inr rfl)) (pgs_cons (pg_name (i := 4) sc_gaps.nd rfl (by first | exact Or.inl rfl | exact Or.inr rfl)) (pgs_cons (pg_name (i := 5) sc_gaps.nd rfl (by first | exact Or.inl rfl | exact Or.inr rfl)) (pgs_nil))))) (g_tup [3, 4, 5] rfl) (dss_one (ds_setit hU (de_var 5) (de_var 2) (de_var 3)))) (dss_one (ds_ret (de_callD d_cut_out hr (by decide) (by rfl) (da_cons (de_lc (own := [("house", 3)]) rfl sc_gaps.nd (di_seq (de_callB (cr_sortA (by rfl)) sd_sorted (by rfl) G.sorted bb_sorted (do_cons (de_var 2) (do_nil)))) (blkOk_by (own := [("house", 3)]) (N := ["rows", "some", "last", "house", "first", "end"]) (sc := defScope s_gaps) (by decide +kernel)) (fun _ _ _ _ _ => pg_name (i := 3) sc_gaps.nd rfl (by first | exact Or.inl rfl | exact Or.inr rfl)) (g_name 3) (fun _ _ _ _ _ => dts_nil) (fun _ _ _ _ _ => de_tup (da_cons (de_var 3) (da_cons (de_int) (da_cons (de_ix (ix_all hU) sd_ix (de_var 2) (de_var 3)) (da_nil)))))) (da_cons (de_var 1) (da_nil))) (aLenS (aLenS (aLen0)))))))))
  exact h
abbrev s__law_dice : Stmt := top 29
theorem sc__law_dice : FnScope ["_law_script", "_law_mixed", "_law_cell"] ["_law_script"] (defScope s__law_dice) := ⟨rfl, rfl, rfl, by decide +kernel, rfl, by decide +kernel, by decide +kernel⟩
theorem ok__law_dice {f : Addr} {fd : FuncData} (G : Glob mg)
    (F : Fun K "_law_dice" "_law_dice" s__law_dice f fd) (hm : mg "_law_dice" = some (.ref f)) : Def0 P w K mg base cad "_law_dice" 1 1 m__law_dice := by
  have hb : Binds K fd ["_law_script"] [] := F.binds (ps := ["_law_script"]) fun _ _ _ _ _ _ us hl => match us, hl with | [_], _ => rfl
  have h : Def0 P w K mg base cad "_law_dice" (0 + 1) ["_law_script"].length (runB ["_law_script", "_law_mixed", "_law_cell"].length ["_law_script"].length b__law_dice) := mk0 (k := 0) (b := b__law_dice) F sc__law_dice hm hb (fun cdv A outer s H E E0 hr => by
    have hU := hU_of hr
    unfold b__law_dice
    exact dss_cons (ds_set 1 sc__law_dice.nd (de_int)) (dss_cons (ds_for PassesOwn.never rfl (di_seq (de_var 0)) (pg_name (i := 2) sc__law_dice.nd rfl (by first | exact Or.inl rfl | exact Or.inr rfl)) (g_name 2) (dss_one (ds_set 1 sc__law_dice.nd (de_bin op_mod sd_mod (de_bin op_addA sd_add (de_bin op_addA sd_add (de_bin op_mulA sd_mul (de_var 1) (de_int)) (de_bin op_mulA sd_mul (de_bin op_mod sd_mod (de_var 2) (de_int)) (de_int))) (de_int)) (de_int))))) (dss_one (ds_ret (de_lst (da_cons (de_var 0) (da_cons (de_int) (da_cons (de_bin op_mulA sd_mul (de_var 1) (de_callTy call_int1 sd_int (by rfl) G.int bb_int (do_cons (de_cmp (op_gtA hU) sd_ord (de_callB call_lenA sd_len (by rfl) G.len bb_len (do_cons (de_var 0) (do_nil))) (de_int)) (do_nil)))) (da_cons (de_int) (da_nil))))))))))
  exact h
abbrev s__law_next : Stmt := top 30
theorem sc__law_next : FnScope ["_law_dice_here", "_law_many", "_law_found", "_law_cell"] ["_law_dice_here", "_law_many"] (defScope s__law_next) := ⟨rfl, rfl, rfl, by decide +kernel, rfl, by decide +kernel, by decide +kernel⟩
theorem ok__law_next {f : Addr} {fd : FuncData} (G : Glob mg)
    (F : Fun K "_law_next" "_law_next" s__law_next f fd) (hm : mg "_law_next" = some (.ref f)) : Def0 P w K mg base cad "_law_next" 1 2 m__law_next := by
  have hb : Binds K fd ["_law_dice_here", "_law_many"] [] := F.binds (ps := ["_law_dice_here", "_law_many"]) fun _ _ _ _ _ _ us hl => match us, hl with | [_, _], _ => rfl
  have h : Def0 P w K mg base cad "_law_next" (0 + 1) ["_law_dice_here", "_law_many"].length (runB ["_law_dice_here", "_law_many", "_law_found", "_law_cell"].length ["_law_dice_here", "_law_many"].length b__law_next) := mk0 (k := 0) (b := b__law_next) F sc__law_next hm hb (fun cdv A outer s H E E0 hr => by
    have hU := hU_of hr
    unfold b__law_next
    exact dss_cons (ds_if (dt_cmp (op_gtA hU) sd_ord (de_ix (ix_all hU) sd_ix (de_var 0) (de_int)) (de_int)) (dss_cons (ds_set 2 sc__law_next.nd (de_bin op_mod sd_mod (de_ix (ix_all hU) sd_ix (de_var 0) (de_int)) (de_var 1))) (dss_cons (ds_setit hU (de_bin op_fdivW sd_div (de_ix (ix_all hU) sd_ix (de_var 0) (de_int)) (de_var 1)) (de_var 0) (de_int)) (dss_one (ds_ret (de_var 2))))) (dss_nil)) (dss_cons (ds_setit hU (de_bin op_addA sd_add (de_ix (ix_all hU) sd_ix (de_var 0) (de_int)) (de_int)) (de_var 0) (de_int)) (dss_cons (ds_if (dt_cmp (op_leA hU) sd_ord (de_ix (ix_all hU) sd_ix (de_var 0) (de_int)) (de_callB call_lenA sd_len (by rfl) G.len bb_len (do_cons (de_ix (ix_all hU) sd_ix (de_var 0) (de_int)) (do_nil)))) (dss_cons (ds_set 3 sc__law_next.nd (de_ix (ix_all hU) sd_ix (de_ix (ix_all hU) sd_ix (de_var 0) (de_int)) (de_bin op_subA sd_sub (de_ix (ix_all hU) sd_ix (de_var 0) (de_int)) (de_int)))) (dss_cons (ds_setit hU (de_ifx (dt_cmp (op_geA hU) sd_ord (de_var 3) (de_bin op_pow sd_pow (de_int) (de_int))) (de_bin op_fdivW sd_div (de_var 3) (de_var 1)) (de_int)) (de_var 0) (de_int)) (dss_one (ds_ret (de_bin op_mod sd_mod (de_var 3) (de_var 1)))))) (dss_nil)) (dss_cons (ds_setit hU (de_bin op_mod sd_mod (de_bin op_mulA sd_mul (de_ix (ix_all hU) sd_ix (de_var 0) (de_int)) (de_int)) (de_int)) (de_var 0) (de_int)) (dss_one (ds_ret (de_bin op_mod sd_mod (de_bin op_fdivW sd_div (de_ix (ix_all hU) sd_ix (de_var 0) (de_int)) (de_int)) (de_var 1))))))))
  exact h
abbrev s__law_rows : Stmt := top 31
theorem sc__law_rows : FnScope ["_law_d", "_law_houses", "_law_far", "_law_most", "_law_found", "_law_k", "_law_first", "_law_wide"] ["_law_d", "_law_houses", "_law_far", "_law_most"] (defScope s__law_rows) := ⟨rfl, rfl, rfl, by decide +kernel, rfl, by decide +kernel, by decide +kernel⟩
theorem ok__law_rows {f : Addr} {fd : FuncData} (G : Glob mg)
    (d__law_next : Def0 P w K mg base cad "_law_next" 1 2 m__law_next)
    (F : Fun K "_law_rows" "_law_rows" s__law_rows f fd) (hm : mg "_law_rows" = some (.ref f)) : Def0 P w K mg base cad "_law_rows" 2 4 m__law_rows := by
  have hb : Binds K fd ["_law_d", "_law_houses", "_law_far", "_law_most"] [] := F.binds (ps := ["_law_d", "_law_houses", "_law_far", "_law_most"]) fun _ _ _ _ _ _ us hl => match us, hl with | [_, _, _, _], _ => rfl
  have h : Def0 P w K mg base cad "_law_rows" (1 + 1) ["_law_d", "_law_houses", "_law_far", "_law_most"].length (runB ["_law_d", "_law_houses", "_law_far", "_law_most", "_law_found", "_law_k", "_law_first", "_law_wide"].length ["_law_d", "_law_houses", "_law_far", "_law_most"].length b__law_rows) := mk0 (k := 1) (b := b__law_rows) F sc__law_rows hm hb (fun cdv A outer s H E E0 hr => by
    have hU := hU_of hr
    unfold b__law_rows
    exact dss_cons (ds_own 4 sc__law_rows.nd (de_lst (da_nil))) (dss_cons (ds_for PassesOwn.never rfl (di_range1 (by rfl) G.range (de_callD d__law_next hr (by decide) (by rfl) (da_cons (de_var 0) (da_cons (de_bin op_addA sd_add (de_var 3) (de_int)) (da_nil))) (aLenS (aLenS (aLen0))))) (pg_name (i := 5) sc__law_rows.nd rfl (by first | exact Or.inl rfl | exact Or.inr rfl)) (g_name 5) (dss_cons (ds_set 6 sc__law_rows.nd (de_bin op_addA sd_add (de_int) (de_callD d__law_next hr (by decide) (by rfl) (da_cons (de_var 0) (da_cons (de_var 2) (da_nil))) (aLenS (aLenS (aLen0)))))) (dss_cons (ds_set 7 sc__law_rows.nd (de_ix (ix_all hU) sd_ix (de_lst (da_cons (de_int) (da_cons (de_callD d__law_next hr (by decide) (by rfl) (da_cons (de_var 0) (da_cons (de_int) (da_nil))) (aLenS (aLenS (aLen0)))) (da_cons (de_callD d__law_next hr (by decide) (by rfl) (da_cons (de_var 0) (da_cons (de_var 2) (da_nil))) (aLenS (aLenS (aLen0)))) (da_nil))))) (de_callD d__law_next hr (by decide) (by rfl) (da_cons (de_var 0) (da_cons (de_int) (da_nil))) (aLenS (aLenS (aLen0)))))) (dss_one (ds_app (de_var 4) (de_tup (da_cons (de_callD d__law_next hr (by decide) (by rfl) (da_cons (de_var 0) (da_cons (de_var 1) (da_nil))) (aLenS (aLenS (aLen0)))) (da_cons (de_var 6) (da_cons (de_callB (call_min2 (by rfl)) sd_min2 (by rfl) G.min bb_min (do_cons (de_var 2) (do_cons (de_bin op_addA sd_add (de_var 6) (de_var 7)) (do_nil)))) (da_nil)))))))))) (dss_one (ds_ret (de_var 4)))))
  exact h
abbrev s__law_ends : Stmt := top 32
theorem sc__law_ends : FnScope ["_law_one", "_law_lacking", "_law_house", "_law_last", "_law_row"] ["_law_one"] (defScope s__law_ends) := ⟨rfl, rfl, rfl, by decide +kernel, rfl, by decide +kernel, by decide +kernel⟩
theorem ok__law_ends {f : Addr} {fd : FuncData} (G : Glob mg)
    (d_common : Def0 P w K mg base cad "common" 4 2 m_common)
    (d_gaps : Def0 P w K mg base cad "gaps" 4 1 m_gaps)
    (d_joined : Def0 P w K mg base cad "joined" 4 2 m_joined)
    (d_whole_to : Def0 P w K mg base cad "whole_to" 4 2 m_whole_to)
    (d_within : Def0 P w K mg base cad "within" 5 2 m_within)
    (F : Fun K "_law_ends" "_law_ends" s__law_ends f fd) (hm : mg "_law_ends" = some (.ref f)) : Def0 P w K mg base cad "_law_ends" 6 1 m__law_ends := by
  have hb : Binds K fd ["_law_one"] [] := F.binds (ps := ["_law_one"]) fun _ _ _ _ _ _ us hl => match us, hl with | [_], _ => rfl
  have h : Def0 P w K mg base cad "_law_ends" (5 + 1) ["_law_one"].length (runB ["_law_one", "_law_lacking", "_law_house", "_law_last", "_law_row"].length ["_law_one"].length b__law_ends) := mk0 (k := 5) (b := b__law_ends) F sc__law_ends hm hb (fun cdv A outer s H E E0 hr => by
    have hU := hU_of hr
    unfold b__law_ends
    exact dss_cons (ds_set 1 sc__law_ends.nd (de_callD d_gaps hr (by decide) (by rfl) (da_cons (de_var 0) (da_nil)) (aLenS (aLen0)))) (dss_cons (ds_if (PW.pt (dw_or (dt_cmp (op_neA hU) sd_ne (de_callD d_common hr (by decide) (by rfl) (da_cons (de_var 1) (da_cons (de_var 0) (da_nil))) (aLenS (aLenS (aLen0)))) (de_lst (da_nil))) (pw_or1 (dt_cmp (op_neA hU) sd_ne (de_callD d_gaps hr (by decide) (by rfl) (da_cons (de_callD d_joined hr (by decide) (by rfl) (da_cons (de_var 0) (da_cons (de_var 1) (da_nil))) (aLenS (aLenS (aLen0)))) (da_nil)) (aLenS (aLen0))) (de_lst (da_nil)))))) (dss_one (ds_ret (de_bl))) (dss_nil)) (dss_cons (ds_for PassesOwn.never rfl (di_range1 (by rfl) G.range (de_int)) (pg_name (i := 2) sc__law_ends.nd rfl (by first | exact Or.inl rfl | exact Or.inr rfl)) (g_name 2) (dss_cons (ds_set 3 sc__law_ends.nd (de_callD d_whole_to hr (by decide) (by rfl) (da_cons (de_callD d_joined hr (by decide) (by rfl) (da_cons (de_var 0) (da_cons (de_var 1) (da_nil))) (aLenS (aLenS (aLen0)))) (da_cons (de_var 2) (da_nil))) (aLenS (aLenS (aLen0))))) (dss_cons (ds_if (dt_cmp (op_neA hU) sd_ne (de_var 3) (de_callB (cr_max (by rfl)) sd_maxL (by rfl) G.max bb_max (do_cons (de_bin op_addA sd_add (de_lst (da_cons (de_int) (da_nil))) (de_lc (own := [("_law_row", 4)]) rfl sc__law_ends.nd (di_seq (de_var 0)) (blkOk_by (own := [("_law_row", 4)]) (N := ["_law_one", "_law_lacking", "_law_house", "_law_last", "_law_row"]) (sc := defScope s__law_ends) (by decide +kernel)) (fun _ _ _ _ _ => pg_name (i := 4) sc__law_ends.nd rfl (by first | exact Or.inl rfl | exact Or.inr rfl)) (g_name 4) (fun _ _ _ _ _ => pts_one (dt_cmp (op_eqA hU) sd_eq (de_ix (ix_all hU) sd_ix (de_var 4) (de_int)) (de_var 2))) (fun _ _ _ _ _ => de_ix (ix_all hU) sd_ix (de_var 4) (de_int)))) (do_nil)))) (dss_one (ds_ret (de_bl))) (dss_nil)) (dss_one (ds_if (PW.pt (dw_and (dt_cmp (op_gtA hU) sd_ord (de_callD d_whole_to hr (by decide) (by rfl) (da_cons (de_var 0) (da_cons (de_var 2) (da_nil))) (aLenS (aLenS (aLen0)))) (de_int)) (pw_and1 (dt_not (dt_val (de_callD d_within hr (by decide) (by rfl) (da_cons (de_lst (da_cons (de_tup (da_cons (de_var 2) (da_cons (de_int) (da_cons (de_callD d_whole_to hr (by decide) (by rfl) (da_cons (de_var 0) (da_cons (de_var 2) (da_nil))) (aLenS (aLenS (aLen0)))) (da_nil))))) (da_nil))) (da_cons (de_var 0) (da_nil))) (aLenS (aLenS (aLen0))))))))) (dss_one (ds_ret (de_bl))) (dss_nil)))))) (dss_one (ds_ret (de_bl))))))
  exact h
abbrev s_law : Stmt := top 33
theorem sc_law : FnScope ["_law_script", "_law_d", "_law_far", "_law_one", "_law_two", "_law_three", "_law_both", "_law_every", "_law_sets", "_law_pairs"] ["_law_script"] (defScope s_law) := ⟨rfl, rfl, rfl, by decide +kernel, rfl, by decide +kernel, by decide +kernel⟩
theorem ok_law {f : Addr} {fd : FuncData} (G : Glob mg)
    (d__law_dice : Def0 P w K mg base cad "_law_dice" 1 1 m__law_dice)
    (d__law_ends : Def0 P w K mg base cad "_law_ends" 6 1 m__law_ends)
    (d__law_next : Def0 P w K mg base cad "_law_next" 1 2 m__law_next)
    (d__law_rows : Def0 P w K mg base cad "_law_rows" 2 4 m__law_rows)
    (d_amount : Def0 P w K mg base cad "amount" 4 1 m_amount)
    (d_by_many : Def0 P w K mg base cad "by_many" 4 2 m_by_many)
    (d_common : Def0 P w K mg base cad "common" 4 2 m_common)
    (d_joined : Def0 P w K mg base cad "joined" 4 2 m_joined)
    (d_less : Def0 P w K mg base cad "less" 4 2 m_less)
    (d_plain : Def0 P w K mg base cad "plain" 3 1 m_plain)
    (d_within : Def0 P w K mg base cad "within" 5 2 m_within)
    (F : Fun K "law" "law" s_law f fd) (hm : mg "law" = some (.ref f)) : Def0 P w K mg base cad "law" 7 1 m_law := by
  have hb : Binds K fd ["_law_script"] [] := F.binds (ps := ["_law_script"]) fun _ _ _ _ _ _ us hl => match us, hl with | [_], _ => rfl
  have h : Def0 P w K mg base cad "law" (6 + 1) ["_law_script"].length (runB ["_law_script", "_law_d", "_law_far", "_law_one", "_law_two", "_law_three", "_law_both", "_law_every", "_law_sets", "_law_pairs"].length ["_law_script"].length b_law) := mk0 (k := 6) (b := b_law) F sc_law hm hb (fun cdv A outer s H E E0 hr => by
    have hU := hU_of hr
    unfold b_law
    exact dss_cons (ds_set 1 sc_law.nd (de_loc (de_callD d__law_dice hr (by decide) (by rfl) (da_cons (de_var 0) (da_nil)) (aLenS (aLen0))))) (dss_cons (ds_set 2 sc_law.nd (de_ix (ix_all hU) sd_ix (de_lst (da_cons (de_int) (da_cons (de_bin op_pow sd_pow (de_int) (de_int)) (da_cons (de_bin op_pow sd_pow (de_int) (de_int)) (da_nil))))) (de_callD d__law_next hr (by decide) (by rfl) (da_cons (de_var 1) (da_cons (de_int) (da_nil))) (aLenS (aLenS (aLen0)))))) (dss_cons (ds_par3 3 4 5 rfl sc_law.nd (da_cons (de_callD d__law_rows hr (by decide) (by rfl) (da_cons (de_var 1) (da_cons (de_int) (da_cons (de_var 2) (da_cons (de_int) (da_nil))))) (aLenS (aLenS (aLenS (aLenS (aLen0)))))) (da_cons (de_callD d__law_rows hr (by decide) (by rfl) (da_cons (de_var 1) (da_cons (de_int) (da_cons (de_var 2) (da_cons (de_int) (da_nil))))) (aLenS (aLenS (aLenS (aLenS (aLen0)))))) (da_cons (de_callD d__law_rows hr (by decide) (by rfl) (da_cons (de_var 1) (da_cons (de_int) (da_cons (de_var 2) (da_cons (de_int) (da_nil))))) (aLenS (aLenS (aLenS (aLenS (aLen0)))))) (da_nil)))) (by decide) (by decide) (by decide) rfl rfl rfl (by rfl)) (dss_cons (ds_set 6 sc_law.nd (de_callD d_common hr (by decide) (by rfl) (da_cons (de_var 3) (da_cons (de_var 4) (da_nil))) (aLenS (aLenS (aLen0))))) (dss_cons (ds_set 7 sc_law.nd (de_callD d_joined hr (by decide) (by rfl) (da_cons (de_var 3) (da_cons (de_var 4) (da_nil))) (aLenS (aLenS (aLen0))))) (dss_cons (ds_if (PW.pt (dw_or (dt_cmp (op_neA hU) sd_ne (de_var 7) (de_callD d_joined hr (by decide) (by rfl) (da_cons (de_var 4) (da_cons (de_var 3) (da_nil))) (aLenS (aLenS (aLen0))))) (dw_or (dt_cmp (op_neA hU) sd_ne (de_var 6) (de_callD d_common hr (by decide) (by rfl) (da_cons (de_var 4) (da_cons (de_var 3) (da_nil))) (aLenS (aLenS (aLen0))))) (dw_or (dt_cmp (op_neA hU) sd_ne (de_callD d_plain hr (by decide) (by rfl) (da_cons (de_var 7) (da_nil)) (aLenS (aLen0))) (de_var 7)) (pw_or1 (dt_cmp (op_neA hU) sd_ne (de_callD d_plain hr (by decide) (by rfl) (da_cons (de_var 6) (da_nil)) (aLenS (aLen0))) (de_var 6))))))) (dss_one (ds_ret (de_bl))) (dss_nil)) (dss_cons (ds_if (dt_cmp (op_neA hU) sd_ne (de_callD d_joined hr (by decide) (by rfl) (da_cons (de_callD d_joined hr (by decide) (by rfl) (da_cons (de_var 3) (da_cons (de_var 4) (da_nil))) (aLenS (aLenS (aLen0)))) (da_cons (de_var 5) (da_nil))) (aLenS (aLenS (aLen0)))) (de_callD d_joined hr (by decide) (by rfl) (da_cons (de_var 3) (da_cons (de_callD d_joined hr (by decide) (by rfl) (da_cons (de_var 4) (da_cons (de_var 5) (da_nil))) (aLenS (aLenS (aLen0)))) (da_nil))) (aLenS (aLenS (aLen0))))) (dss_one (ds_ret (de_bl))) (dss_nil)) (dss_cons (ds_if (dt_cmp (op_neA hU) sd_ne (de_callD d_common hr (by decide) (by rfl) (da_cons (de_var 3) (da_cons (de_callD d_joined hr (by decide) (by rfl) (da_cons (de_var 4) (da_cons (de_var 5) (da_nil))) (aLenS (aLenS (aLen0)))) (da_nil))) (aLenS (aLenS (aLen0)))) (de_callD d_joined hr (by decide) (by rfl) (da_cons (de_var 6) (da_cons (de_callD d_common hr (by decide) (by rfl) (da_cons (de_var 3) (da_cons (de_var 5) (da_nil))) (aLenS (aLenS (aLen0)))) (da_nil))) (aLenS (aLenS (aLen0))))) (dss_one (ds_ret (de_bl))) (dss_nil)) (dss_cons (ds_if (PW.pt (dw_or (dt_cmp (op_neA hU) sd_ne (de_callD d_joined hr (by decide) (by rfl) (da_cons (de_callD d_less hr (by decide) (by rfl) (da_cons (de_var 3) (da_cons (de_var 4) (da_nil))) (aLenS (aLenS (aLen0)))) (da_cons (de_var 6) (da_nil))) (aLenS (aLenS (aLen0)))) (de_callD d_plain hr (by decide) (by rfl) (da_cons (de_var 3) (da_nil)) (aLenS (aLen0)))) (pw_or1 (dt_cmp (op_neA hU) sd_ne (de_callD d_common hr (by decide) (by rfl) (da_cons (de_callD d_less hr (by decide) (by rfl) (da_cons (de_var 3) (da_cons (de_var 4) (da_nil))) (aLenS (aLenS (aLen0)))) (da_cons (de_var 4) (da_nil))) (aLenS (aLenS (aLen0)))) (de_lst (da_nil)))))) (dss_one (ds_ret (de_bl))) (dss_nil)) (dss_cons (ds_if (PW.pt (dw_or (dt_cmp (op_neA hU) sd_ne (de_callD d_less hr (by decide) (by rfl) (da_cons (de_var 3) (da_cons (de_callD d_joined hr (by decide) (by rfl) (da_cons (de_var 4) (da_cons (de_var 5) (da_nil))) (aLenS (aLenS (aLen0)))) (da_nil))) (aLenS (aLenS (aLen0)))) (de_callD d_less hr (by decide) (by rfl) (da_cons (de_callD d_less hr (by decide) (by rfl) (da_cons (de_var 3) (da_cons (de_var 4) (da_nil))) (aLenS (aLenS (aLen0)))) (da_cons (de_var 5) (da_nil))) (aLenS (aLenS (aLen0))))) (pw_or1 (dt_cmp (op_neA hU) sd_ne (de_callD d_less hr (by decide) (by rfl) (da_cons (de_var 3) (da_cons (de_callD d_less hr (by decide) (by rfl) (da_cons (de_var 3) (da_cons (de_var 4) (da_nil))) (aLenS (aLenS (aLen0)))) (da_nil))) (aLenS (aLenS (aLen0)))) (de_var 6))))) (dss_one (ds_ret (de_bl))) (dss_nil)) (dss_cons (ds_if (dt_cmp (op_neA hU) sd_ne (de_bin op_addA sd_add (de_callD d_amount hr (by decide) (by rfl) (da_cons (de_var 3) (da_nil)) (aLenS (aLen0))) (de_callD d_amount hr (by decide) (by rfl) (da_cons (de_var 4) (da_nil)) (aLenS (aLen0)))) (de_bin op_addA sd_add (de_callD d_amount hr (by decide) (by rfl) (da_cons (de_var 7) (da_nil)) (aLenS (aLen0))) (de_callD d_amount hr (by decide) (by rfl) (da_cons (de_var 6) (da_nil)) (aLenS (aLen0))))) (dss_one (ds_ret (de_bl))) (dss_nil)) (dss_cons (ds_if (dt_cmp (op_neA hU) sd_ne (de_callD d_amount hr (by decide) (by rfl) (da_cons (de_callD d_less hr (by decide) (by rfl) (da_cons (de_var 3) (da_cons (de_var 4) (da_nil))) (aLenS (aLenS (aLen0)))) (da_nil)) (aLenS (aLen0))) (de_bin op_subA sd_sub (de_callD d_amount hr (by decide) (by rfl) (da_cons (de_var 3) (da_nil)) (aLenS (aLen0))) (de_callD d_amount hr (by decide) (by rfl) (da_cons (de_var 6) (da_nil)) (aLenS (aLen0))))) (dss_one (ds_ret (de_bl))) (dss_nil)) (dss_cons (ds_if (PW.pt (dw_or (dt_not (dt_val (de_callD d_within hr (by decide) (by rfl) (da_cons (de_var 6) (da_cons (de_var 3) (da_nil))) (aLenS (aLenS (aLen0)))))) (dw_or (dt_not (dt_val (de_callD d_within hr (by decide) (by rfl) (da_cons (de_var 3) (da_cons (de_var 7) (da_nil))) (aLenS (aLenS (aLen0)))))) (pw_or1 (dt_cmp (op_neA hU) sd_ne (de_callD d_within hr (by decide) (by rfl) (da_cons (de_var 3) (da_cons (de_var 4) (da_nil))) (aLenS (aLenS (aLen0)))) (de_cmp (op_eqA hU) sd_eq (de_callD d_less hr (by decide) (by rfl) (da_cons (de_var 3) (da_cons (de_var 4) (da_nil))) (aLenS (aLenS (aLen0)))) (de_lst (da_nil)))))))) (dss_one (ds_ret (de_bl))) (dss_nil)) (dss_cons (ds_set 8 sc_law.nd (de_lst (da_cons (de_var 3) (da_cons (de_var 4) (da_cons (de_var 5) (da_nil)))))) (dss_cons (ds_if (PW.pt (dw_or (dt_cmp (op_neA hU) sd_ne (de_callD d_by_many hr (by decide) (by rfl) (da_cons (de_var 8) (da_cons (de_int) (da_nil))) (aLenS (aLenS (aLen0)))) (de_callD d_joined hr (by decide) (by rfl) (da_cons (de_var 7) (da_cons (de_var 5) (da_nil))) (aLenS (aLenS (aLen0))))) (pw_or1 (dt_cmp (op_neA hU) sd_ne (de_callD d_by_many hr (by decide) (by rfl) (da_cons (de_var 8) (da_cons (de_int) (da_nil))) (aLenS (aLenS (aLen0)))) (de_callD d_common hr (by decide) (by rfl) (da_cons (de_var 6) (da_cons (de_var 5) (da_nil))) (aLenS (aLenS (aLen0)))))))) (dss_one (ds_ret (de_bl))) (dss_nil)) (dss_cons (ds_set 9 sc_law.nd (de_callD d_joined hr (by decide) (by rfl) (da_cons (de_callD d_joined hr (by decide) (by rfl) (da_cons (de_var 6) (da_cons (de_callD d_common hr (by decide) (by rfl) (da_cons (de_var 3) (da_cons (de_var 5) (da_nil))) (aLenS (aLenS (aLen0)))) (da_nil))) (aLenS (aLenS (aLen0)))) (da_cons (de_callD d_common hr (by decide) (by rfl) (da_cons (de_var 4) (da_cons (de_var 5) (da_nil))) (aLenS (aLenS (aLen0)))) (da_nil))) (aLenS (aLenS (aLen0))))) (dss_one (ds_ret (PB.v (pb_and (pb_val (de_cmp (op_eqA hU) sd_eq (de_callD d_by_many hr (by decide) (by rfl) (da_cons (de_var 8) (da_cons (de_int) (da_nil))) (aLenS (aLenS (aLen0)))) (de_var 9))) (pb_one (pb_val (de_callD d__law_ends hr (by decide) (by rfl) (da_cons (de_var 3) (da_nil)) (aLenS (aLen0)))))))))))))))))))))))))
  exact h
theorem ok_law_fn {f : Addr} {fd : FuncData} (G : Glob mg)
    (d__law_dice : Def0 P w K mg base cad "_law_dice" 1 1 m__law_dice)
    (d__law_ends : Def0 P w K mg base cad "_law_ends" 6 1 m__law_ends)
    (d__law_next : Def0 P w K mg base cad "_law_next" 1 2 m__law_next)
    (d__law_rows : Def0 P w K mg base cad "_law_rows" 2 4 m__law_rows)
    (d_amount : Def0 P w K mg base cad "amount" 4 1 m_amount)
    (d_by_many : Def0 P w K mg base cad "by_many" 4 2 m_by_many)
    (d_common : Def0 P w K mg base cad "common" 4 2 m_common)
    (d_joined : Def0 P w K mg base cad "joined" 4 2 m_joined)
    (d_less : Def0 P w K mg base cad "less" 4 2 m_less)
    (d_plain : Def0 P w K mg base cad "plain" 3 1 m_plain)
    (d_within : Def0 P w K mg base cad "within" 5 2 m_within)
    (F : Fun K "law" "law" s_law f fd) : FnOk P w K mg base CX0 7 f fd ["_law_script"] (spM K cad 1 (noX m_law)) := by
  have h := fn0 (P := P) (w := w) (mg := mg) (base := base) (cad := cad) (k := 6) (b := b_law) F sc_law (fun cdv A outer s H E E0 hr => by
    have hU := hU_of hr
    unfold b_law
    exact dss_cons (ds_set 1 sc_law.nd (de_loc (de_callD d__law_dice hr (by decide) (by rfl) (da_cons (de_var 0) (da_nil)) (aLenS (aLen0))))) (dss_cons (ds_set 2 sc_law.nd (de_ix (ix_all hU) sd_ix (de_lst (da_cons (de_int) (da_cons (de_bin op_pow sd_pow (de_int) (de_int)) (da_cons (de_bin op_pow sd_pow (de_int) (de_int)) (da_nil))))) (de_callD d__law_next hr (by decide) (by rfl) (da_cons (de_var 1) (da_cons (de_int) (da_nil))) (aLenS (aLenS (aLen0)))))) (dss_cons (ds_par3 3 4 5 rfl sc_law.nd (da_cons (de_callD d__law_rows hr (by decide) (by rfl) (da_cons (de_var 1) (da_cons (de_int) (da_cons (de_var 2) (da_cons (de_int) (da_nil))))) (aLenS (aLenS (aLenS (aLenS (aLen0)))))) (da_cons (de_callD d__law_rows hr (by decide) (by rfl) (da_cons (de_var 1) (da_cons (de_int) (da_cons (de_var 2) (da_cons (de_int) (da_nil))))) (aLenS (aLenS (aLenS (aLenS (aLen0)))))) (da_cons (de_callD d__law_rows hr (by decide) (by rfl) (da_cons (de_var 1) (da_cons (de_int) (da_cons (de_var 2) (da_cons (de_int) (da_nil))))) (aLenS (aLenS (aLenS (aLenS (aLen0)))))) (da_nil)))) (by decide) (by decide) (by decide) rfl rfl rfl (by rfl)) (dss_cons (ds_set 6 sc_law.nd (de_callD d_common hr (by decide) (by rfl) (da_cons (de_var 3) (da_cons (de_var 4) (da_nil))) (aLenS (aLenS (aLen0))))) (dss_cons (ds_set 7 sc_law.nd (de_callD d_joined hr (by decide) (by rfl) (da_cons (de_var 3) (da_cons (de_var 4) (da_nil))) (aLenS (aLenS (aLen0))))) (dss_cons (ds_if (PW.pt (dw_or (dt_cmp (op_neA hU) sd_ne (de_var 7) (de_callD d_joined hr (by decide) (by rfl) (da_cons (de_var 4) (da_cons (de_var 3) (da_nil))) (aLenS (aLenS (aLen0))))) (dw_or (dt_cmp (op_neA hU) sd_ne (de_var 6) (de_callD d_common hr (by decide) (by rfl) (da_cons (de_var 4) (da_cons (de_var 3) (da_nil))) (aLenS (aLenS (aLen0))))) (dw_or (dt_cmp (op_neA hU) sd_ne (de_callD d_plain hr (by decide) (by rfl) (da_cons (de_var 7) (da_nil)) (aLenS (aLen0))) (de_var 7)) (pw_or1 (dt_cmp (op_neA hU) sd_ne (de_callD d_plain hr (by decide) (by rfl) (da_cons (de_var 6) (da_nil)) (aLenS (aLen0))) (de_var 6))))))) (dss_one (ds_ret (de_bl))) (dss_nil)) (dss_cons (ds_if (dt_cmp (op_neA hU) sd_ne (de_callD d_joined hr (by decide) (by rfl) (da_cons (de_callD d_joined hr (by decide) (by rfl) (da_cons (de_var 3) (da_cons (de_var 4) (da_nil))) (aLenS (aLenS (aLen0)))) (da_cons (de_var 5) (da_nil))) (aLenS (aLenS (aLen0)))) (de_callD d_joined hr (by decide) (by rfl) (da_cons (de_var 3) (da_cons (de_callD d_joined hr (by decide) (by rfl) (da_cons (de_var 4) (da_cons (de_var 5) (da_nil))) (aLenS (aLenS (aLen0)))) (da_nil))) (aLenS (aLenS (aLen0))))) (dss_one (ds_ret (de_bl))) (dss_nil)) (dss_cons (ds_if (dt_cmp (op_neA hU) sd_ne (de_callD d_common hr (by decide) (by rfl) (da_cons (de_var 3) (da_cons (de_callD d_joined hr (by decide) (by rfl) (da_cons (de_var 4) (da_cons (de_var 5) (da_nil))) (aLenS (aLenS (aLen0)))) (da_nil))) (aLenS (aLenS (aLen0)))) (de_callD d_joined hr (by decide) (by rfl) (da_cons (de_var 6) (da_cons (de_callD d_common hr (by decide) (by rfl) (da_cons (de_var 3) (da_cons (de_var 5) (da_nil))) (aLenS (aLenS (aLen0)))) (da_nil))) (aLenS (aLenS (aLen0))))) (dss_one (ds_ret (de_bl))) (dss_nil)) (dss_cons (ds_if (PW.pt (dw_or (dt_cmp (op_neA hU) sd_ne (de_callD d_joined hr (by decide) (by rfl) (da_cons (de_callD d_less hr (by decide) (by rfl) (da_cons (de_var 3) (da_cons (de_var 4) (da_nil))) (aLenS (aLenS (aLen0)))) (da_cons (de_var 6) (da_nil))) (aLenS (aLenS (aLen0)))) (de_callD d_plain hr (by decide) (by rfl) (da_cons (de_var 3) (da_nil)) (aLenS (aLen0)))) (pw_or1 (dt_cmp (op_neA hU) sd_ne (de_callD d_common hr (by decide) (by rfl) (da_cons (de_callD d_less hr (by decide) (by rfl) (da_cons (de_var 3) (da_cons (de_var 4) (da_nil))) (aLenS (aLenS (aLen0)))) (da_cons (de_var 4) (da_nil))) (aLenS (aLenS (aLen0)))) (de_lst (da_nil)))))) (dss_one (ds_ret (de_bl))) (dss_nil)) (dss_cons (ds_if (PW.pt (dw_or (dt_cmp (op_neA hU) sd_ne (de_callD d_less hr (by decide) (by rfl) (da_cons (de_var 3) (da_cons (de_callD d_joined hr (by decide) (by rfl) (da_cons (de_var 4) (da_cons (de_var 5) (da_nil))) (aLenS (aLenS (aLen0)))) (da_nil))) (aLenS (aLenS (aLen0)))) (de_callD d_less hr (by decide) (by rfl) (da_cons (de_callD d_less hr (by decide) (by rfl) (da_cons (de_var 3) (da_cons (de_var 4) (da_nil))) (aLenS (aLenS (aLen0)))) (da_cons (de_var 5) (da_nil))) (aLenS (aLenS (aLen0))))) (pw_or1 (dt_cmp (op_neA hU) sd_ne (de_callD d_less hr (by decide) (by rfl) (da_cons (de_var 3) (da_cons (de_callD d_less hr (by decide) (by rfl) (da_cons (de_var 3) (da_cons (de_var 4) (da_nil))) (aLenS (aLenS (aLen0)))) (da_nil))) (aLenS (aLenS (aLen0)))) (de_var 6))))) (dss_one (ds_ret (de_bl))) (dss_nil)) (dss_cons (ds_if (dt_cmp (op_neA hU) sd_ne (de_bin op_addA sd_add (de_callD d_amount hr (by decide) (by rfl) (da_cons (de_var 3) (da_nil)) (aLenS (aLen0))) (de_callD d_amount hr (by decide) (by rfl) (da_cons (de_var 4) (da_nil)) (aLenS (aLen0)))) (de_bin op_addA sd_add (de_callD d_amount hr (by decide) (by rfl) (da_cons (de_var 7) (da_nil)) (aLenS (aLen0))) (de_callD d_amount hr (by decide) (by rfl) (da_cons (de_var 6) (da_nil)) (aLenS (aLen0))))) (dss_one (ds_ret (de_bl))) (dss_nil)) (dss_cons (ds_if (dt_cmp (op_neA hU) sd_ne (de_callD d_amount hr (by decide) (by rfl) (da_cons (de_callD d_less hr (by decide) (by rfl) (da_cons (de_var 3) (da_cons (de_var 4) (da_nil))) (aLenS (aLenS (aLen0)))) (da_nil)) (aLenS (aLen0))) (de_bin op_subA sd_sub (de_callD d_amount hr (by decide) (by rfl) (da_cons (de_var 3) (da_nil)) (aLenS (aLen0))) (de_callD d_amount hr (by decide) (by rfl) (da_cons (de_var 6) (da_nil)) (aLenS (aLen0))))) (dss_one (ds_ret (de_bl))) (dss_nil)) (dss_cons (ds_if (PW.pt (dw_or (dt_not (dt_val (de_callD d_within hr (by decide) (by rfl) (da_cons (de_var 6) (da_cons (de_var 3) (da_nil))) (aLenS (aLenS (aLen0)))))) (dw_or (dt_not (dt_val (de_callD d_within hr (by decide) (by rfl) (da_cons (de_var 3) (da_cons (de_var 7) (da_nil))) (aLenS (aLenS (aLen0)))))) (pw_or1 (dt_cmp (op_neA hU) sd_ne (de_callD d_within hr (by decide) (by rfl) (da_cons (de_var 3) (da_cons (de_var 4) (da_nil))) (aLenS (aLenS (aLen0)))) (de_cmp (op_eqA hU) sd_eq (de_callD d_less hr (by decide) (by rfl) (da_cons (de_var 3) (da_cons (de_var 4) (da_nil))) (aLenS (aLenS (aLen0)))) (de_lst (da_nil)))))))) (dss_one (ds_ret (de_bl))) (dss_nil)) (dss_cons (ds_set 8 sc_law.nd (de_lst (da_cons (de_var 3) (da_cons (de_var 4) (da_cons (de_var 5) (da_nil)))))) (dss_cons (ds_if (PW.pt (dw_or (dt_cmp (op_neA hU) sd_ne (de_callD d_by_many hr (by decide) (by rfl) (da_cons (de_var 8) (da_cons (de_int) (da_nil))) (aLenS (aLenS (aLen0)))) (de_callD d_joined hr (by decide) (by rfl) (da_cons (de_var 7) (da_cons (de_var 5) (da_nil))) (aLenS (aLenS (aLen0))))) (pw_or1 (dt_cmp (op_neA hU) sd_ne (de_callD d_by_many hr (by decide) (by rfl) (da_cons (de_var 8) (da_cons (de_int) (da_nil))) (aLenS (aLenS (aLen0)))) (de_callD d_common hr (by decide) (by rfl) (da_cons (de_var 6) (da_cons (de_var 5) (da_nil))) (aLenS (aLenS (aLen0)))))))) (dss_one (ds_ret (de_bl))) (dss_nil)) (dss_cons (ds_set 9 sc_law.nd (de_callD d_joined hr (by decide) (by rfl) (da_cons (de_callD d_joined hr (by decide) (by rfl) (da_cons (de_var 6) (da_cons (de_callD d_common hr (by decide) (by rfl) (da_cons (de_var 3) (da_cons (de_var 5) (da_nil))) (aLenS (aLenS (aLen0)))) (da_nil))) (aLenS (aLenS (aLen0)))) (da_cons (de_callD d_common hr (by decide) (by rfl) (da_cons (de_var 4) (da_cons (de_var 5) (da_nil))) (aLenS (aLenS (aLen0)))) (da_nil))) (aLenS (aLenS (aLen0))))) (dss_one (ds_ret (PB.v (pb_and (pb_val (de_cmp (op_eqA hU) sd_eq (de_callD d_by_many hr (by decide) (by rfl) (da_cons (de_var 8) (da_cons (de_int) (da_nil))) (aLenS (aLenS (aLen0)))) (de_var 9))) (pb_one (pb_val (de_callD d__law_ends hr (by decide) (by rfl) (da_cons (de_var 3) (da_nil)) (aLenS (aLen0)))))))))))))))))))))))))
  exact h
end
end Law

/-! ### rows: what is refused, merged -/
namespace Law
open PySem L2 DL
abbrev rsD (rs : List Row) : D := .lst (rs.map rowD)
def Good (r : Row) : Prop := 0 ≤ r.1 ∧ r.1 < 8 ∧ 1 ≤ r.2.1 ∧ r.2.1 ≤ r.2.2 ∧ r.2.2 ≤ 1000000000000
theorem is_row_ok {r : Row} {μ : Store} (g : Good r) : m_is_row [rowD r] μ = .ok (.sh (.bl true)) μ := by
  obtain ⟨h, a, b⟩ := r
  obtain ⟨g1, g2, g3, g4, g5⟩ := g
  simp only at g1 g2 g3 g4 g5
  simp [m_is_row, b_is_row, g1, g2, g3, g4, g5]
abbrev mNeedBody : MS := mIf (mOr (mT (e2 fGe (eVar 1) (eC (.int 200)))) (mNot (mT (eCall (noX m_is_row) (aCons (eVar 2) (aNil)))))) (mStk) (mNx)
theorem need_loop : ∀ (rs : List Row) (k : Nat) (ρ : Ev) (μ : Store), ρ.length = 3 → k + rs.length ≤ 200 → (∀ r ∈ rs, Good r) → ∃ ρ', forL (gT [1, 2]) mNeedBody (((rs.map rowD).zipIdx k).map fun p => .tup [.int (p.2 : Nat), p.1]) ρ μ = .ok (.nx, ρ') μ
  | [], k, ρ, μ, _, _, _ => ⟨ρ, rfl⟩
  | r :: rs, k, ρ, μ, hl, hk, hg => by
    obtain ⟨s0, s1, s2, rfl⟩ : ∃ a b c, ρ = [a, b, c] := by
      match ρ, hl with
      | [a, b, c], _ => exact ⟨a, b, c, rfl⟩
    obtain ⟨ρ', h⟩ := need_loop rs (k + 1) [s0, .sh (.int (k : Nat)), .sh (rowD r)] μ rfl (by simp only [List.length_cons] at hk; omega) fun q hq => hg q (List.mem_cons_of_mem _ hq)
    refine ⟨ρ', ?_⟩
    have ir := is_row_ok (μ := μ) (hg r List.mem_cons_self)
    have : (k : Int) < 200 := by simp only [List.length_cons] at hk; omega
    have nk : ¬ (200 : Int) ≤ k := by omega
    rw [List.map_cons, List.zipIdx_cons, List.map_cons, forL, ← h]
    simp [ir, nk]
theorem need_rows_ok {rs : List Row} {μ : Store} (hg : ∀ r ∈ rs, Good r) (hl : rs.length ≤ 200) : m_need_rows [rsD rs] μ = .ok (.sh .non) μ := by
  obtain ⟨ρ', h⟩ := need_loop rs 0 [.sh (rsD rs), .no, .no] μ rfl (by omega) hg
  have h : forL (gT [1, 2]) mNeedBody (enumD (rs.map rowD)) [.sh (rsD rs), .no, .no] μ = _ := h
  simp [m_need_rows, b_need_rows, h, List.replicate]
theorem need_house_ok {h : Int} {μ : Store} (h0 : 0 ≤ h) (h8 : h < 8) : m_need_house [.int h] μ = .ok (.sh .non) μ := by
  simp [m_need_house, b_need_house, h0, h8]
def merged (rs : List Row) : List Row := St.mergeS (sortR rs)
theorem fNe_snoc_nil (rs : List Row) (r : Row) : fNe (.ob (.lst (rs.map rowD ++ [rowD r]))) (.ob (.lst [])) = some (.sh (.bl true)) := by
  have : rs.map rowD ++ [rowD r] = (rs ++ [r]).map rowD := by rw [List.map_append]; rfl
  rw [this, fNe_rows_nil]
  simp
abbrev mergedBody : MS := mIf (mAnd (mT (e2 fNe (eVar 1) (eLst (aNil)))) (mAnd (mT (e2 fEq (e2 fIx (e2 fIx (eVar 1) (e1 fNeg (eC (.int 1)))) (eC (.int 0))) (eVar 2))) (mT (e2 fLe (eVar 3) (e2 fAdd (e2 fIx (e2 fIx (eVar 1) (e1 fNeg (eC (.int 1)))) (eC (.int 2))) (eC (.int 1))))))) (mSetIt (eTup (aCons (eVar 2) (aCons (e2 fIx (e2 fIx (eVar 1) (e1 fNeg (eC (.int 1)))) (eC (.int 1))) (aCons (eCB fMax2 (oCons (e2 fIx (e2 fIx (eVar 1) (e1 fNeg (eC (.int 1)))) (eC (.int 2))) (oCons (eVar 4) (oNil)))) (aNil))))) (eVar 1) (e1 fNeg (eC (.int 1)))) (mApp (eVar 1) (eTup (aCons (eVar 2) (aCons (eVar 3) (aCons (eVar 4) (aNil))))))
theorem merged_turn {s0 : Sl} {rs : List Row} {l r : Row} {μ : Store} (hl : rs.length + 1 < 16777216) : mergedBody [s0, .own (.lst (rs.map rowD ++ [rowD l])), .sh (.int r.1), .sh (.int r.2.1), .sh (.int r.2.2)] μ =
    if l.1 = r.1 ∧ r.2.1 ≤ l.2.2 + 1 then .ok (.nx, [s0, .own (.lst (rs.map rowD ++ [rowD (l.1, l.2.1, max l.2.2 r.2.2)])), .sh (.int r.1), .sh (.int r.2.1), .sh (.int r.2.2)]) μ
    else .ok (.nx, [s0, .own (.lst (rs.map rowD ++ [rowD l] ++ [rowD r])), .sh (.int r.1), .sh (.int r.2.1), .sh (.int r.2.2)]) μ := by
  obtain ⟨lh, la, lb⟩ := l
  obtain ⟨h, a, b⟩ := r
  have e0 := fNe_snoc_nil rs (lh, la, lb)
  simp only [rowD_mk] at e0 ⊢
  by_cases c1 : lh = h
  · subst c1
    by_cases c2 : a ≤ lb + 1
    · simp [e0, c2]
    · simp [e0, c2, hl]
  · simp [e0, c1, hl]
theorem merged_loop : ∀ (qs : List Row) (rs : List Row) (l : Row) (s0 s2 s3 s4 : Sl) (μ : Store), rs.length + qs.length + 1 < 16777216 → ∃ t2 t3 t4, forL (gT [2, 3, 4]) mergedBody (qs.map rowD) [s0, .own (.lst (rs.map rowD ++ [rowD l])), s2, s3, s4] μ = .ok (.nx, [s0, .own (.lst ((rs ++ St.mergeR l qs).map rowD)), t2, t3, t4]) μ
  | [], rs, l, s0, s2, s3, s4, μ, _ => ⟨s2, s3, s4, by simp [forL, St.mergeR]⟩
  | q :: qs, rs, l, s0, s2, s3, s4, μ, hl => by
    simp only [List.length_cons] at hl
    rw [List.map_cons, forL]
    have e : gT [2, 3, 4] (rowD q) [s0, .own (.lst (rs.map rowD ++ [rowD l])), s2, s3, s4] = some [s0, .own (.lst (rs.map rowD ++ [rowD l])), .sh (.int q.1), .sh (.int q.2.1), .sh (.int q.2.2)] := rfl
    rw [e]
    dsimp only
    rw [merged_turn (by omega), St.mergeR]
    split
    · rw [loopR_nx]
      exact merged_loop qs rs _ s0 _ _ _ μ (by omega)
    · rw [loopR_nx]
      obtain ⟨t2, t3, t4, h⟩ := merged_loop qs (rs ++ [l]) q s0 (.sh (.int q.1)) (.sh (.int q.2.1)) (.sh (.int q.2.2)) μ (by simp only [List.length_append, List.length_singleton]; omega)
      rw [List.map_append] at h
      refine ⟨t2, t3, t4, h.trans ?_⟩
      rw [List.append_assoc]
      rfl
theorem sortR_len : ∀ rs : List Row, (sortR rs).length = rs.length
  | [] => rfl
  | r :: rs => by
    have : ∀ (x : Row) (l : List Row), (insR x l).length = l.length + 1 := fun x l => by
      induction l with
      | nil => rfl
      | cons y ys ih =>
        unfold insR
        split
        · rw [List.length_cons, ih, List.length_cons]
        · rfl
    show (insR r (sortR rs)).length = _
    rw [this, sortR_len rs, List.length_cons]
theorem merged_ok {rs : List Row} {μ : Store} (hl : rs.length < 16777215) : m_merged [rsD rs] μ = .ok (.own (.lst ((merged rs).map rowD))) μ := by
  have hs := fSorted_rows rs
  have h : ∃ t2 t3 t4, forL (gT [2, 3, 4]) mergedBody ((sortR rs).map rowD) [.sh (rsD rs), .own (.lst []), .no, .no, .no] μ = .ok (.nx, [.sh (rsD rs), .own (.lst ((merged rs).map rowD)), t2, t3, t4]) μ := by
    unfold merged
    have sl := sortR_len rs
    cases hq : sortR rs with
    | nil => exact ⟨.no, .no, .no, rfl⟩
    | cons q qs =>
      rw [hq] at sl
      simp only [List.length_cons] at sl
      obtain ⟨t2, t3, t4, h⟩ := merged_loop qs [] q (.sh (rsD rs)) (.sh (.int q.1)) (.sh (.int q.2.1)) (.sh (.int q.2.2)) μ (by simp only [List.length_nil]; omega)
      refine ⟨t2, t3, t4, ?_⟩
      refine Eq.trans ?_ h
      rw [List.map_cons, forL]
      have e : gT [2, 3, 4] (rowD q) [.sh (rsD rs), .own (.lst []), .no, .no, .no] = some [.sh (rsD rs), .own (.lst []), .sh (.int q.1), .sh (.int q.2.1), .sh (.int q.2.2)] := rfl
      rw [e]
      have e0 : fNe (.ob (.lst [])) (.ob (.lst [])) = some (.sh (.bl false)) := fNe_rows [] []
      obtain ⟨qh, qa, qb⟩ := q
      simp [e0]
  obtain ⟨t2, t3, t4, h⟩ := h
  simp [m_merged, b_merged, hs, h, List.replicate]
end Law

/-! ### cut_out, in_both and the rest of the sets -/
namespace Law
open PySem L2 DL
abbrev cutBody : MS := mIf (mAnd (mT (e2 fEq (eVar 6) (eVar 3))) (mAnd (mT (e2 fLe (eVar 7) (eVar 5))) (mT (e2 fLe (eVar 4) (eVar 8))))) (mSeq (mIf (mT (e2 fLt (eVar 4) (eVar 7))) (mApp (eVar 2) (eTup (aCons (eVar 3) (aCons (eVar 4) (aCons (e2 fSub (eVar 7) (eC (.int 1))) (aNil)))))) (mNx)) (mSet 4 (e2 fAdd (eVar 8) (eC (.int 1))))) (mNx)
abbrev cutOuter : MS := mSeq (mFor (iSeq (eVar 1)) (gT [6, 7, 8]) cutBody) (mIf (mT (e2 fLe (eVar 4) (eVar 5))) (mApp (eVar 2) (eTup (aCons (eVar 3) (aCons (eVar 4) (aCons (eVar 5) (aNil)))))) (mNx))
theorem snoc_rows (acc : List Row) (h a b : Int) : acc.map rowD ++ [.tup [.int h, .int a, .int b]] = (acc ++ [(h, a, b)]).map rowD := by rw [List.map_append]; rfl
theorem cut_loop (h last : Int) : ∀ (os : List Row) (acc : List Row) (first : Int) (s0 s1 s6 s7 s8 : Sl) (μ : Store), acc.length + os.length < 16777216 →
    ∃ acc' first' t6 t7 t8, forL (gT [6, 7, 8]) cutBody (os.map rowD) [s0, s1, .own (.lst (acc.map rowD)), .sh (.int h), .sh (.int first), .sh (.int last), s6, s7, s8] μ = .ok (.nx, [s0, s1, .own (.lst (acc'.map rowD)), .sh (.int h), .sh (.int first'), .sh (.int last), t6, t7, t8]) μ ∧
      acc' ++ (if first' ≤ last then [(h, first', last)] else []) = acc ++ St.cutL h last first os ∧ acc'.length ≤ acc.length + os.length
  | [], acc, first, s0, s1, s6, s7, s8, μ, _ => ⟨acc, first, s6, s7, s8, rfl, by rw [St.cutL], Nat.le_refl _⟩
  | o :: os, acc, first, s0, s1, s6, s7, s8, μ, hl => by
    obtain ⟨oh, oa, ob⟩ := o
    simp only [List.length_cons] at hl
    rw [List.map_cons, forL, St.cutL]
    have hl' : acc.length < 16777216 := by omega
    by_cases c : oh = h ∧ oa ≤ last ∧ first ≤ ob
    · obtain ⟨c1, c2, c3⟩ := c
      subst c1
      rw [if_pos ⟨rfl, c2, c3⟩]
      by_cases c4 : first < oa
      · obtain ⟨acc', first', t6, t7, t8, i1, i2, i3⟩ := cut_loop oh last os (acc ++ [(oh, first, oa - 1)]) (ob + 1) s0 s1 (.sh (.int oh)) (.sh (.int oa)) (.sh (.int ob)) μ (by simp only [List.length_append, List.length_singleton]; omega)
        refine ⟨acc', first', t6, t7, t8, ?_, ?_, ?_⟩
        · rw [← i1, ← snoc_rows]
          simp [c2, c3, c4, hl']
        · rw [i2, if_pos c4, List.append_assoc]
        · simp only [List.length_append, List.length_cons, List.length_nil] at i3 ⊢
          omega
      · obtain ⟨acc', first', t6, t7, t8, i1, i2, i3⟩ := cut_loop oh last os acc (ob + 1) s0 s1 (.sh (.int oh)) (.sh (.int oa)) (.sh (.int ob)) μ (by omega)
        refine ⟨acc', first', t6, t7, t8, ?_, ?_, ?_⟩
        · rw [← i1]
          simp [c2, c3, c4]
        · rw [i2, if_neg c4]
          rfl
        · simp only [List.length_cons]
          omega
    · rw [if_neg c]
      obtain ⟨acc', first', t6, t7, t8, i1, i2, i3⟩ := cut_loop h last os acc first s0 s1 (.sh (.int oh)) (.sh (.int oa)) (.sh (.int ob)) μ (by omega)
      refine ⟨acc', first', t6, t7, t8, ?_, i2, by simp only [List.length_cons]; omega⟩
      rw [← i1]
      by_cases c1 : oh = h
      · by_cases c2 : oa ≤ last
        · have c3 : ¬ first ≤ ob := fun z => c ⟨c1, c2, z⟩
          simp [c1, c2, c3]
        · simp [c1, c2]
      · simp [c1]
theorem cut_outer (ys : List Row) : ∀ (xs : List Row) (acc : List Row) (s0 s3 s4 s5 s6 s7 s8 : Sl) (μ : Store), acc.length + xs.length * (ys.length + 1) < 16777216 →
    ∃ t3 t4 t5 t6 t7 t8, forL (gT [3, 4, 5]) cutOuter (xs.map rowD) [s0, .sh (rsD ys), .own (.lst (acc.map rowD)), s3, s4, s5, s6, s7, s8] μ = .ok (.nx, [s0, .sh (rsD ys), .own (.lst ((acc ++ St.cutOut xs ys).map rowD)), t3, t4, t5, t6, t7, t8]) μ
  | [], acc, s0, s3, s4, s5, s6, s7, s8, μ, _ => ⟨s3, s4, s5, s6, s7, s8, by simp [forL, St.cutOut]⟩
  | x :: xs, acc, s0, s3, s4, s5, s6, s7, s8, μ, hl => by
    obtain ⟨h, first, last⟩ := x
    simp only [List.length_cons] at hl
    have hm : (xs.length + 1) * (ys.length + 1) = xs.length * (ys.length + 1) + (ys.length + 1) := by rw [Nat.add_mul, Nat.one_mul]
    rw [hm] at hl
    obtain ⟨acc', first', t6, t7, t8, i1, i2, i3⟩ := cut_loop h last ys acc first s0 (.sh (rsD ys)) s6 s7 s8 μ (by omega)
    have e : St.cutOut ((h, first, last) :: xs) ys = St.cutL h last first ys ++ St.cutOut xs ys := rfl
    rw [List.map_cons, forL, e, ← List.append_assoc, ← i2]
    have hl' : acc'.length < 16777216 := by omega
    by_cases c : first' ≤ last
    · obtain ⟨u3, u4, u5, u6, u7, u8, j⟩ := cut_outer ys xs (acc' ++ [(h, first', last)]) s0 (.sh (.int h)) (.sh (.int first')) (.sh (.int last)) t6 t7 t8 μ (by simp only [List.length_append, List.length_singleton]; omega)
      refine ⟨u3, u4, u5, u6, u7, u8, ?_⟩
      rw [if_pos c, ← j, ← snoc_rows]
      simp [i1, c, hl']
    · obtain ⟨u3, u4, u5, u6, u7, u8, j⟩ := cut_outer ys xs acc' s0 (.sh (.int h)) (.sh (.int first')) (.sh (.int last)) t6 t7 t8 μ (by omega)
      refine ⟨u3, u4, u5, u6, u7, u8, ?_⟩
      rw [if_neg c, List.append_nil, ← j]
      simp [i1, c]
theorem cut_out_ok {xs ys : List Row} {μ : Store} (hl : xs.length * (ys.length + 1) < 16777216) : m_cut_out [rsD xs, rsD ys] μ = .ok (.own (.lst ((St.cutOut xs ys).map rowD))) μ := by
  obtain ⟨t3, t4, t5, t6, t7, t8, h⟩ := cut_outer ys xs [] (.sh (rsD xs)) .no .no .no .no .no .no μ (by simpa using hl)
  simp only [List.map_nil, List.nil_append] at h
  have e : m_cut_out = runB 9 2 (mSeq (mOwn 2 (eLst (aNil))) (mSeq (mFor (iSeq (eVar 0)) (gT [3, 4, 5]) cutOuter) (mRet (eVar 2)))) := rfl
  rw [e]
  simp [h, List.replicate, -x_mIf]
abbrev bothBody : MS := mIf (mAnd (mT (e2 fEq (eVar 6) (eVar 3))) (mT (e2 fLe (eCB fMax2 (oCons (eVar 4) (oCons (eVar 7) (oNil)))) (eCB fMin2 (oCons (eVar 5) (oCons (eVar 8) (oNil))))))) (mApp (eVar 2) (eTup (aCons (eVar 3) (aCons (eCB fMax2 (oCons (eVar 4) (oCons (eVar 7) (oNil)))) (aCons (eCB fMin2 (oCons (eVar 5) (oCons (eVar 8) (oNil)))) (aNil)))))) (mNx)
theorem both_loop (h first last : Int) : ∀ (os : List Row) (acc : List Row) (s0 s1 s6 s7 s8 : Sl) (μ : Store), acc.length + os.length < 16777216 →
    ∃ t6 t7 t8, forL (gT [6, 7, 8]) bothBody (os.map rowD) [s0, s1, .own (.lst (acc.map rowD)), .sh (.int h), .sh (.int first), .sh (.int last), s6, s7, s8] μ = .ok (.nx, [s0, s1, .own (.lst ((acc ++ St.bothL (h, first, last) os).map rowD)), .sh (.int h), .sh (.int first), .sh (.int last), t6, t7, t8]) μ ∧
      (St.bothL (h, first, last) os).length ≤ os.length
  | [], acc, s0, s1, s6, s7, s8, μ, _ => ⟨s6, s7, s8, by simp [forL, St.bothL], Nat.le_refl _⟩
  | o :: os, acc, s0, s1, s6, s7, s8, μ, hl => by
    obtain ⟨oh, oa, ob⟩ := o
    simp only [List.length_cons] at hl
    rw [List.map_cons, forL]
    have hl' : acc.length < 16777216 := by omega
    have e : St.bothL (h, first, last) ((oh, oa, ob) :: os) = (if oh = h ∧ max first oa ≤ min last ob then [(h, max first oa, min last ob)] else []) ++ St.bothL (h, first, last) os := rfl
    rw [e]
    by_cases c : oh = h ∧ max first oa ≤ min last ob
    · rw [if_pos c]
      obtain ⟨c1, c2⟩ := c
      subst c1
      obtain ⟨t6, t7, t8, i1, i2⟩ := both_loop oh first last os (acc ++ [(oh, max first oa, min last ob)]) s0 s1 (.sh (.int oh)) (.sh (.int oa)) (.sh (.int ob)) μ (by simp only [List.length_append, List.length_singleton]; omega)
      refine ⟨t6, t7, t8, ?_, by simp only [List.length_append, List.length_cons, List.length_nil]; omega⟩
      rw [← List.append_assoc, ← i1, ← snoc_rows]
      simp [c2, hl']
    · rw [if_neg c]
      obtain ⟨t6, t7, t8, i1, i2⟩ := both_loop h first last os acc s0 s1 (.sh (.int oh)) (.sh (.int oa)) (.sh (.int ob)) μ (by omega)
      refine ⟨t6, t7, t8, ?_, by simp only [List.nil_append, List.length_cons]; omega⟩
      rw [List.nil_append, ← i1]
      by_cases c1 : oh = h
      · have c2 : ¬ max first oa ≤ min last ob := fun z => c ⟨c1, z⟩
        simp [c1, c2]
      · simp [c1]
theorem both_outer (ys : List Row) : ∀ (xs : List Row) (acc : List Row) (s0 s3 s4 s5 s6 s7 s8 : Sl) (μ : Store), acc.length + xs.length * (ys.length + 1) < 16777216 →
    ∃ t3 t4 t5 t6 t7 t8, forL (gT [3, 4, 5]) (mFor (iSeq (eVar 1)) (gT [6, 7, 8]) bothBody) (xs.map rowD) [s0, .sh (rsD ys), .own (.lst (acc.map rowD)), s3, s4, s5, s6, s7, s8] μ = .ok (.nx, [s0, .sh (rsD ys), .own (.lst ((acc ++ St.inBoth xs ys).map rowD)), t3, t4, t5, t6, t7, t8]) μ
  | [], acc, s0, s3, s4, s5, s6, s7, s8, μ, _ => ⟨s3, s4, s5, s6, s7, s8, by simp [forL, St.inBoth]⟩
  | x :: xs, acc, s0, s3, s4, s5, s6, s7, s8, μ, hl => by
    obtain ⟨h, first, last⟩ := x
    simp only [List.length_cons] at hl
    have hm : (xs.length + 1) * (ys.length + 1) = xs.length * (ys.length + 1) + (ys.length + 1) := by rw [Nat.add_mul, Nat.one_mul]
    rw [hm] at hl
    obtain ⟨t6, t7, t8, i1, i2⟩ := both_loop h first last ys acc s0 (.sh (rsD ys)) s6 s7 s8 μ (by omega)
    have e : St.inBoth ((h, first, last) :: xs) ys = St.bothL (h, first, last) ys ++ St.inBoth xs ys := rfl
    rw [List.map_cons, forL, e, ← List.append_assoc]
    obtain ⟨u3, u4, u5, u6, u7, u8, j⟩ := both_outer ys xs (acc ++ St.bothL (h, first, last) ys) s0 (.sh (.int h)) (.sh (.int first)) (.sh (.int last)) t6 t7 t8 μ (by simp only [List.length_append]; omega)
    refine ⟨u3, u4, u5, u6, u7, u8, ?_⟩
    rw [← j]
    simp only [rowD_mk, x_gT, List.length_cons, List.length_nil, x_setsE1, x_setsE2, List.set_cons_succ, List.set_cons_zero, if_true, x_mFor, x_iSeq, x_toD, x_eVar, List.getElem?_cons_succ, List.getElem?_cons_zero, x_eVarR1, bind_ok', x_toD1, of_some, x_items1, i1, loopR_nx]
theorem in_both_ok {xs ys : List Row} {μ : Store} (hl : xs.length * (ys.length + 1) < 16777216) : m_in_both [rsD xs, rsD ys] μ = .ok (.own (.lst ((St.inBoth xs ys).map rowD))) μ := by
  obtain ⟨t3, t4, t5, t6, t7, t8, h⟩ := both_outer ys xs [] (.sh (rsD xs)) .no .no .no .no .no .no μ (by simpa using hl)
  simp only [List.map_nil, List.nil_append] at h
  have e : m_in_both = runB 9 2 (mSeq (mOwn 2 (eLst (aNil))) (mSeq (mFor (iSeq (eVar 0)) (gT [3, 4, 5]) (mFor (iSeq (eVar 1)) (gT [6, 7, 8]) bothBody)) (mRet (eVar 2)))) := rfl
  rw [e]
  simp [h, List.replicate, -x_mIf]
/-! count_of -/
def cnt (rs : List Row) : Int := (rs.map fun r => r.2.2 - r.2.1 + 1).sum
theorem count_loop (ρ : Ev) (hρ : ρ.length = 2) : ∀ (rs : List Row) (acc : List Int) (μ : Store), acc.length + rs.length < 16777216 → lcL (gN 1) mYes (e2 fAdd (e2 fSub (e2 fIx (eVar 1) (eC (.int 2))) (e2 fIx (eVar 1) (eC (.int 1)))) (eC (.int 1))) ρ (rs.map rowD) μ (acc.map .int) = .ok ((acc ++ rs.map fun r : Row => r.2.2 - r.2.1 + 1).map .int) μ
  | [], acc, μ, _ => by simp [lcL]
  | r :: rs, acc, μ, hl => by
    obtain ⟨h, a, b⟩ := r
    simp only [List.length_cons] at hl
    have hl' : acc.length < 16777216 := by omega
    have ih := count_loop ρ hρ rs (acc ++ [b - a + 1]) μ (by simp only [List.length_append, List.length_singleton]; omega)
    rw [List.map_cons, List.map_cons, lcL]
    have h1 : 1 < ρ.length := by omega
    simp [h1, hl'] at ih ⊢
    exact ih
theorem ints_map (ns : List Int) : D.ints (ns.map .int) = some ns := by
  induction ns with
  | nil => rfl
  | cons n ns ih =>
    show (D.ints (ns.map .int)).map (n :: ·) = _
    rw [ih]
    rfl
theorem count_of_ok {rs : List Row} {μ : Store} (hl : rs.length < 16777216) : m_count_of [rsD rs] μ = .ok (.sh (.int (cnt rs))) μ := by
  have h := count_loop [.sh (rsD rs), .no] rfl rs [] μ (by simpa using hl)
  simp only [List.map_nil, List.nil_append] at h
  have e : ∀ ns : List Int, fSum [.ob (.lst (ns.map .int))] = some (.sh (.int ns.sum)) := fun ns => by
    show (D.ints (ns.map .int)).map _ = _
    rw [ints_map]
    rfl
  simp only [m_count_of, b_count_of, x_runB, x_startE, List.length_cons, List.length_nil, List.replicate, List.map_cons, List.map_nil, List.cons_append, List.nil_append, x_mRet, x_eCB, x_oCons, x_oNil, x_eLc, x_iSeq, x_toD, x_eVar, List.getElem?_cons_zero, x_eVarR1, bind_ok', x_toD1, of_some, x_items1, x_wipe1, x_wipe2, List.set_cons_succ, List.set_cons_zero, h, x_derefs1, x_derefs2, x_der2, x_rd1, Option.map_some, Option.bind_some, e, x_op1, x_opRv1, x_retR, endR_rt, Nat.reduceAdd, Nat.reduceSub, if_true]
  rfl
/-! plain, joined, … -/
theorem plain_ok {rs : List Row} {μ : Store} (hg : ∀ r ∈ rs, Good r) (hl : rs.length ≤ 200) : m_plain [rsD rs] μ = .ok (.own (.lst ((merged rs).map rowD))) μ := by
  have h1 := need_rows_ok (μ := μ) hg hl
  have h2 := merged_ok (rs := rs) (μ := μ) (by omega)
  simp [m_plain, b_plain, h1, h2]
end Law

/-! ### the sets' defs as sets -/
namespace Law
open PySem L2 DL
theorem insR_perm (x : Row) : ∀ l : List Row, (insR x l).Perm (x :: l)
  | [] => List.Perm.refl _
  | y :: ys => by
    unfold insR
    split
    · exact ((insR_perm x ys).cons y).trans (List.Perm.swap x y ys)
    · exact List.Perm.refl _
theorem sortR_perm : ∀ l : List Row, (sortR l).Perm l
  | [] => List.Perm.refl _
  | x :: xs => (insR_perm x (sortR xs)).trans ((sortR_perm xs).cons x)
theorem rowLt_t {y x : Row} (h : rowLt y x = true) : St.Le y x := by
  obtain ⟨a, b, c⟩ := y
  obtain ⟨a', b', c'⟩ := x
  have h : (if a = a' then (if b = b' then (if c = c' then false else decide (c < c')) else decide (b < b')) else decide (a < a')) = true := h
  unfold St.Le
  show a < a' ∨ (a = a' ∧ b ≤ b')
  split at h
  · split at h
    · omega
    · have := of_decide_eq_true h
      omega
  · have := of_decide_eq_true h
    omega
theorem rowLt_f {y x : Row} (h : ¬ rowLt y x = true) : St.Le x y := by
  obtain ⟨a, b, c⟩ := y
  obtain ⟨a', b', c'⟩ := x
  have h : ¬ (if a = a' then (if b = b' then (if c = c' then false else decide (c < c')) else decide (b < b')) else decide (a < a')) = true := h
  unfold St.Le
  show a' < a ∨ (a' = a ∧ b' ≤ b)
  split at h
  · split at h
    · omega
    · have : ¬ b < b' := fun z => h (decide_eq_true z)
      omega
  · have : ¬ a < a' := fun z => h (decide_eq_true z)
    omega
theorem le_trans {a b c : Row} (h1 : St.Le a b) (h2 : St.Le b c) : St.Le a c := by
  unfold St.Le at *
  omega
theorem insR_sorted {x : Row} : ∀ {l : List Row}, l.Pairwise St.Le → (insR x l).Pairwise St.Le
  | [], _ => List.pairwise_singleton _ _
  | y :: ys, h => by
    obtain ⟨h1, h2⟩ := List.pairwise_cons.mp h
    unfold insR
    split
    · next c =>
      refine List.pairwise_cons.mpr ⟨fun q hq => ?_, insR_sorted h2⟩
      rcases List.mem_cons.mp ((insR_perm x ys).mem_iff.mp hq) with e | e
      · rw [e]; exact rowLt_t c
      · exact h1 q e
    · next c =>
      refine List.pairwise_cons.mpr ⟨fun q hq => ?_, h⟩
      rcases List.mem_cons.mp hq with e | e
      · rw [e]; exact rowLt_f c
      · exact le_trans (rowLt_f c) (h1 q e)
theorem sortR_sorted : ∀ l : List Row, (sortR l).Pairwise St.Le
  | [] => List.Pairwise.nil
  | _ :: xs => insR_sorted (sortR_sorted xs)
theorem merged_spec {rs : List Row} (h : ∀ r ∈ rs, St.Ok r) : St.Canon (merged rs) ∧ ∀ a n, St.In (merged rs) a n ↔ St.In rs a n := by
  obtain ⟨a, b⟩ := St.mergeS_ok (fun r hr => h r ((sortR_perm rs).mem_iff.mp hr)) (sortR_sorted rs)
  exact ⟨a, fun k n => (b k n).trans (St.in_perm (sortR_perm rs))⟩
theorem merged_len (rs : List Row) : (merged rs).length ≤ rs.length := by
  unfold merged
  have := sortR_len rs
  cases e : sortR rs with
  | nil => exact Nat.zero_le _
  | cons q qs =>
    rw [e] at this
    show (St.mergeR q qs).length ≤ _
    have l := St.mergeR_len qs q
    simp only [List.length_cons] at this
    omega
theorem Good.ok {r : Row} (g : Good r) : St.Ok r := g.2.2.2.1
/-- rows that plain takes, at most k -/
structure Fit (k : Nat) (rs : List Row) : Prop where
  good : ∀ r ∈ rs, Good r
  len : rs.length ≤ k
theorem Fit.mono {k l : Nat} {rs : List Row} (f : Fit k rs) (h : k ≤ l) : Fit l rs := ⟨f.good, Nat.le_trans f.len h⟩
theorem Fit.box {k : Nat} {rs : List Row} (f : Fit k rs) {h n : Int} (i : St.In rs h n) : 0 ≤ h ∧ h < 8 ∧ 1 ≤ n ∧ n ≤ 1000000000000 := by
  obtain ⟨r, hr, a, b, c⟩ := i
  have g := f.good r hr
  unfold Good at g
  omega
theorem fit_of {k : Nat} {z : List Row} (c : St.Canon z) (hb : ∀ h n, St.In z h n → 0 ≤ h ∧ h < 8 ∧ 1 ≤ n ∧ n ≤ 1000000000000) (hl : z.length ≤ k) : Fit k z := by
  refine ⟨fun r hr => ?_, hl⟩
  have o : r.2.1 ≤ r.2.2 := c.1 r hr
  have b1 := hb _ _ (St.in_row hr (Int.le_refl _) o)
  have b2 := hb _ _ (St.in_row hr o (Int.le_refl _))
  exact ⟨b1.1, b1.2.1, b1.2.2.1, o, b2.2.2.2⟩
/-- canonical and fitting: what a def gives back -/
structure Set (k : Nat) (z : List Row) : Prop where
  can : St.Canon z
  fit : Fit k z
theorem merged_set {k : Nat} {rs : List Row} (f : Fit k rs) : Set k (merged rs) := by
  obtain ⟨a, b⟩ := merged_spec fun r hr => (f.good r hr).ok
  exact ⟨a, fit_of a (fun h n i => f.box ((b h n).mp i)) (Nat.le_trans (merged_len rs) f.len)⟩
theorem merged_in {k : Nat} {rs : List Row} (f : Fit k rs) (h n : Int) : St.In (merged rs) h n ↔ St.In rs h n := (merged_spec fun r hr => (f.good r hr).ok).2 h n
theorem merged_id {z : List Row} (c : St.Canon z) : merged z = z := by
  obtain ⟨a, b⟩ := merged_spec c.1
  exact St.canon_ext a c b
def joinR (a b : List Row) : List Row := merged (merged a ++ merged b)
def bothR (a b : List Row) : List Row := St.inBoth (merged a) (merged b)
def lessR (a b : List Row) : List Row := St.cutOut (merged a) (merged b)
section
variable {k l : Nat} {a b : List Row}
theorem Fit.app (fa : Fit k a) (fb : Fit l b) : Fit (k + l) (a ++ b) := ⟨fun r hr => (List.mem_append.mp hr).elim (fa.good r) (fb.good r), by rw [List.length_append]; have := fa.len; have := fb.len; omega⟩
theorem join_set (fa : Fit k a) (fb : Fit l b) : Set (k + l) (joinR a b) := merged_set ((merged_set fa).fit.app (merged_set fb).fit)
theorem join_in (fa : Fit k a) (fb : Fit l b) (h n : Int) : St.In (joinR a b) h n ↔ St.In a h n ∨ St.In b h n := by
  unfold joinR
  rw [merged_in ((merged_set fa).fit.app (merged_set fb).fit), St.in_append, merged_in fa, merged_in fb]
theorem both_in (fa : Fit k a) (fb : Fit l b) (h n : Int) : St.In (bothR a b) h n ↔ St.In a h n ∧ St.In b h n := by
  unfold bothR
  rw [(St.inBoth_ok (merged_set fa).can (merged_set fb).can).2, merged_in fa, merged_in fb]
theorem both_set (fa : Fit k a) (fb : Fit l b) : Set (k + l) (bothR a b) := by
  have c := (St.inBoth_ok (merged_set fa).can (merged_set fb).can)
  refine ⟨c.1, fit_of c.1 (fun h n i => fa.box ((both_in fa fb h n).mp i).1) ?_⟩
  have := St.both_len c.1 c.2
  have := (merged_set fa).fit.len
  have := (merged_set fb).fit.len
  unfold bothR
  omega
theorem less_in (fa : Fit k a) (fb : Fit l b) (h n : Int) : St.In (lessR a b) h n ↔ St.In a h n ∧ ¬ St.In b h n := by
  unfold lessR
  rw [(St.cutOut_ok (merged_set fa).can (merged_set fb).can).2, merged_in fa, merged_in fb]
theorem less_set (fa : Fit k a) (fb : Fit l b) : Set (k + l) (lessR a b) := by
  have c := (St.cutOut_ok (merged_set fa).can (merged_set fb).can)
  refine ⟨c.1, fit_of c.1 (fun h n i => fa.box ((less_in fa fb h n).mp i).1) ?_⟩
  have := St.cut_len c.1 c.2
  have := (merged_set fa).fit.len
  have := (merged_set fb).fit.len
  unfold lessR
  omega
variable {μ : Store}
theorem plain_m (fa : Fit k a) (hk : k ≤ 200) : m_plain [rsD a] μ = .ok (.own (.lst ((merged a).map rowD))) μ := plain_ok fa.good (Nat.le_trans fa.len hk)
theorem small_mul {x y : Nat} (hx : x ≤ 200) (hy : y ≤ 200) : x * (y + 1) < 16777216 :=
  Nat.lt_of_le_of_lt (Nat.mul_le_mul hx (Nat.add_le_add_right hy 1)) (by decide)
theorem joined_m (fa : Fit k a) (fb : Fit l b) (hk : k ≤ 200) (hl : l ≤ 200) : m_joined [rsD a, rsD b] μ = .ok (.own (.lst ((joinR a b).map rowD))) μ := by
  have ha := merged_len a
  have hb := merged_len b
  have h1 := fa.len
  have h2 := fb.len
  have hm := merged_ok (rs := merged a ++ merged b) (μ := μ) (by rw [List.length_append]; omega)
  rw [rsD, List.map_append] at hm
  have hs : (merged a).length + (merged b).length ≤ 16777216 := by omega
  simp [m_joined, b_joined, plain_m (μ := μ) fa hk, plain_m (μ := μ) fb hl, hs, hm, joinR]
theorem common_m (fa : Fit k a) (fb : Fit l b) (hk : k ≤ 200) (hl : l ≤ 200) : m_common [rsD a, rsD b] μ = .ok (.own (.lst ((bothR a b).map rowD))) μ := by
  have ha := (merged_set fa).fit.len
  have hb := (merged_set fb).fit.len
  have hm := in_both_ok (xs := merged a) (ys := merged b) (μ := μ) (small_mul (by omega) (by omega))
  simp [m_common, b_common, plain_m (μ := μ) fa hk, plain_m (μ := μ) fb hl, hm, bothR]
theorem less_m (fa : Fit k a) (fb : Fit l b) (hk : k ≤ 200) (hl : l ≤ 200) : m_less [rsD a, rsD b] μ = .ok (.own (.lst ((lessR a b).map rowD))) μ := by
  have ha := (merged_set fa).fit.len
  have hb := (merged_set fb).fit.len
  have hm := cut_out_ok (xs := merged a) (ys := merged b) (μ := μ) (small_mul (by omega) (by omega))
  simp [m_less, b_less, plain_m (μ := μ) fa hk, plain_m (μ := μ) fb hl, hm, lessR]
theorem within_m (fa : Fit k a) (fb : Fit l b) (hk : k ≤ 200) (hl : l ≤ 200) : m_within [rsD a, rsD b] μ = .ok (.sh (.bl (decide (lessR a b = [])))) μ := by
  simp [m_within, b_within, less_m (μ := μ) fa fb hk hl, fEq_rows_nil]
theorem amount_m (fa : Fit k a) (hk : k ≤ 200) : m_amount [rsD a] μ = .ok (.sh (.int (cnt (merged a)))) μ := by
  have ha := (merged_set fa).fit.len
  have hm := count_of_ok (rs := merged a) (μ := μ) (by omega)
  simp [m_amount, b_amount, plain_m (μ := μ) fa hk, hm]
end
/-! reach, whole_to -/
abbrev reachBody : MS := mIf (mAnd (mT (e2 fEq (eVar 2) (eVar 1))) (mT (e2 fEq (eVar 3) (eC (.int 1))))) (mRet (eVar 4)) (mNx)
theorem reach_loop (h : Int) : ∀ (rs : List Row) (s0 s2 s3 s4 : Sl) (μ : Store), endR (seqR (forL (gT [2, 3, 4]) reachBody (rs.map rowD) [s0, .sh (.int h), s2, s3, s4] μ) (mRet (eC (.int 0)))) = .ok (.sh (.int (St.reachR rs h))) μ
  | [], s0, s2, s3, s4, μ => by simp [forL, St.reachR]
  | r :: rs, s0, s2, s3, s4, μ => by
    obtain ⟨rh, a, b⟩ := r
    have ih := reach_loop h rs s0 (.sh (.int rh)) (.sh (.int a)) (.sh (.int b)) μ
    rw [List.map_cons, forL, St.reachR]
    by_cases c1 : rh = h
    · by_cases c2 : a = 1
      · simp [c1, c2]
      · rw [if_neg (fun z => c2 z.2), ← ih]
        simp [c1, c2]
    · rw [if_neg (fun z => c1 z.1), ← ih]
      simp [c1]
theorem reach_m {rs : List Row} {h : Int} {μ : Store} : m_reach [rsD rs, .int h] μ = .ok (.sh (.int (St.reachR rs h))) μ := by
  have := reach_loop h rs (.sh (rsD rs)) .no .no .no μ
  have e : m_reach = runB 5 2 (mSeq (mFor (iSeq (eVar 0)) (gT [2, 3, 4]) reachBody) (mRet (eC (.int 0)))) := rfl
  rw [e]
  simpa [List.replicate, -x_mIf] using this
theorem whole_m {k : Nat} {a : List Row} {h : Int} {μ : Store} (fa : Fit k a) (hk : k ≤ 200) (h0 : 0 ≤ h) (h8 : h < 8) : m_whole_to [rsD a, .int h] μ = .ok (.sh (.int (St.reachR (merged a) h))) μ := by
  simp [m_whole_to, b_whole_to, plain_m (μ := μ) fa hk, need_house_ok h0 h8, reach_m]
end Law

/-! ### turns_of, held_by, by_many -/
namespace Law
open PySem L2 DL
abbrev turnIn : MS := mSet 1 (e2 fAdd (eVar 1) (eLst (aCons (eTup (aCons (eVar 3) (aCons (eVar 4) (aCons (eC (.int 1)) (aNil))))) (aCons (eTup (aCons (eVar 3) (aCons (e2 fAdd (eVar 5) (eC (.int 1))) (aCons (e2 fSub (eC (.int 0)) (eC (.int 1))) (aNil))))) (aNil)))))
theorem turn_loop : ∀ (rs : List Row) (acc : List Row) (s0 s2 s3 s4 s5 : Sl) (μ : Store), acc.length + 2 * rs.length ≤ 16777216 →
    ∃ t3 t4 t5, forL (gT [3, 4, 5]) turnIn (rs.map rowD) [s0, .sh (.lst (acc.map rowD)), s2, s3, s4, s5] μ = .ok (.nx, [s0, .sh (.lst ((acc ++ St.turnsOf rs).map rowD)), s2, t3, t4, t5]) μ
  | [], acc, s0, s2, s3, s4, s5, μ, _ => ⟨s3, s4, s5, by simp [forL, St.turnsOf]⟩
  | r :: rs, acc, s0, s2, s3, s4, s5, μ, hl => by
    obtain ⟨h, a, b⟩ := r
    simp only [List.length_cons] at hl
    have hl' : acc.length + 2 ≤ 16777216 := by omega
    obtain ⟨t3, t4, t5, ih⟩ := turn_loop rs (acc ++ [(h, a, 1), (h, b + 1, -1)]) s0 s2 (.sh (.int h)) (.sh (.int a)) (.sh (.int b)) μ (by simp only [List.length_append, List.length_cons, List.length_nil]; omega)
    have e : acc ++ St.turnsOf ((h, a, b) :: rs) = acc ++ [(h, a, 1), (h, b + 1, -1)] ++ St.turnsOf rs := by rw [List.append_assoc]; rfl
    refine ⟨t3, t4, t5, ?_⟩
    rw [e, ← ih, List.map_cons, forL, List.map_append]
    simp [hl']
theorem turnsOf_len : ∀ rs : List Row, (St.turnsOf rs).length = 2 * rs.length
  | [] => rfl
  | r :: rs => by
    show (_ ++ St.turnsOf rs).length = _
    rw [List.length_append, turnsOf_len rs]
    simp only [List.length_cons, List.length_nil]
    omega
theorem turns_outer : ∀ (ss : List (List Row)) (acc : List Row) (s0 s2 s3 s4 s5 : Sl) (μ : Store), (∀ s ∈ ss, s.length ≤ 200) → acc.length + 400 * ss.length ≤ 16777216 →
    ∃ t2 t3 t4 t5, forL (gN 2) (mFor (iSeq (eVar 2)) (gT [3, 4, 5]) turnIn) (ss.map rsD) [s0, .sh (.lst (acc.map rowD)), s2, s3, s4, s5] μ = .ok (.nx, [s0, .sh (.lst ((acc ++ St.turnsAll ss).map rowD)), t2, t3, t4, t5]) μ
  | [], acc, s0, s2, s3, s4, s5, μ, _, _ => ⟨s2, s3, s4, s5, by simp [forL, St.turnsAll]⟩
  | s :: ss, acc, s0, s2, s3, s4, s5, μ, hs, hl => by
    simp only [List.length_cons] at hl
    have hs0 := hs s List.mem_cons_self
    obtain ⟨t3, t4, t5, i1⟩ := turn_loop s acc s0 (.sh (rsD s)) s3 s4 s5 μ (by omega)
    obtain ⟨u2, u3, u4, u5, i2⟩ := turns_outer ss (acc ++ St.turnsOf s) s0 (.sh (rsD s)) t3 t4 t5 μ (fun q hq => hs q (List.mem_cons_of_mem _ hq)) (by rw [List.length_append, turnsOf_len]; omega)
    refine ⟨u2, u3, u4, u5, ?_⟩
    have e : acc ++ St.turnsAll (s :: ss) = acc ++ St.turnsOf s ++ St.turnsAll ss := by rw [List.append_assoc]; rfl
    rw [e, ← i2, List.map_cons, forL]
    simp only [x_gN, List.set_cons_succ, List.set_cons_zero, x_mFor, x_iSeq, x_toD, x_eVar, List.getElem?_cons_succ, List.getElem?_cons_zero, x_eVarR1, bind_ok', x_toD1, of_some, x_items1, i1, loopR_nx]
theorem turnsAll_len : ∀ ss : List (List Row), (∀ s ∈ ss, s.length ≤ 200) → (St.turnsAll ss).length ≤ 400 * ss.length
  | [], _ => Nat.le_refl _
  | s :: ss, h => by
    show (St.turnsOf s ++ St.turnsAll ss).length ≤ _
    have := turnsAll_len ss fun q hq => h q (List.mem_cons_of_mem _ hq)
    have := h s List.mem_cons_self
    rw [List.length_append, turnsOf_len, List.length_cons]
    omega
theorem turns_m {ss : List (List Row)} {μ : Store} (hs : ∀ s ∈ ss, s.length ≤ 200) (hl : ss.length ≤ 8) : m_turns_of [.lst (ss.map rsD)] μ = .ok (.own (.lst ((sortR (St.turnsAll ss)).map rowD))) μ := by
  obtain ⟨t2, t3, t4, t5, h⟩ := turns_outer ss [] (.sh (.lst (ss.map rsD))) .no .no .no .no μ hs (by simp only [List.length_nil]; omega)
  simp only [List.map_nil, List.nil_append] at h
  have e : m_turns_of = runB 6 1 (mSeq (mSet 1 (eLst (aNil))) (mSeq (mFor (iSeq (eVar 0)) (gN 2) (mFor (iSeq (eVar 2)) (gT [3, 4, 5]) turnIn)) (mRet (eCB fSorted (oCons (eVar 1) (oNil)))))) := rfl
  rw [e]
  simp [h, List.replicate, fSorted_rows, -x_mSet, x_mSet (i := 1) (a := eLst aNil)]
abbrev heldBody : MS := mSeq (mIf (mAnd (mT (e2 fGe (eVar 3) (eVar 1))) (mT (e2 fGt (eVar 6) (eVar 4)))) (mApp (eVar 2) (eTup (aCons (eVar 5) (aCons (eVar 4) (aCons (e2 fSub (eVar 6) (eC (.int 1))) (aNil)))))) (mNx)) (mSeq (mSet 3 (e2 fAdd (eVar 3) (eVar 7))) (mSet 4 (eVar 6)))
theorem held_loop (least : Int) : ∀ (T : List Row) (acc : List Row) (many begun : Int) (s0 s5 s6 s7 : Sl) (μ : Store), acc.length + T.length < 16777216 →
    ∃ t3 t4 t5 t6 t7, forL (gT [5, 6, 7]) heldBody (T.map rowD) [s0, .sh (.int least), .own (.lst (acc.map rowD)), .sh (.int many), .sh (.int begun), s5, s6, s7] μ = .ok (.nx, [s0, .sh (.int least), .own (.lst ((acc ++ St.sweep least many begun T).map rowD)), t3, t4, t5, t6, t7]) μ
  | [], acc, many, begun, s0, s5, s6, s7, μ, _ => ⟨_, _, s5, s6, s7, by simp [forL, St.sweep]; exact ⟨rfl, rfl⟩⟩
  | t :: T, acc, many, begun, s0, s5, s6, s7, μ, hl => by
    obtain ⟨h, n, w⟩ := t
    simp only [List.length_cons] at hl
    have hl' : acc.length < 16777216 := by omega
    rw [List.map_cons, forL, St.sweep]
    by_cases c : least ≤ many ∧ begun < n
    · obtain ⟨c1, c2⟩ := c
      obtain ⟨t3, t4, t5, t6, t7, ih⟩ := held_loop least T (acc ++ [(h, begun, n - 1)]) (many + w) n s0 (.sh (.int h)) (.sh (.int n)) (.sh (.int w)) μ (by simp only [List.length_append, List.length_cons, List.length_nil]; omega)
      refine ⟨t3, t4, t5, t6, t7, ?_⟩
      rw [if_pos ⟨c1, c2⟩, ← List.append_assoc, ← ih, ← snoc_rows]
      simp [c1, c2, hl']
    · obtain ⟨t3, t4, t5, t6, t7, ih⟩ := held_loop least T acc (many + w) n s0 (.sh (.int h)) (.sh (.int n)) (.sh (.int w)) μ (by omega)
      refine ⟨t3, t4, t5, t6, t7, ?_⟩
      rw [if_neg c, List.nil_append, ← ih]
      by_cases c1 : least ≤ many
      · have c2 : ¬ begun < n := fun z => c ⟨c1, z⟩
        simp [c1, c2]
      · simp [c1]
def heldR (ss : List (List Row)) (least : Int) : List Row := merged (St.sweep least 0 0 (sortR (St.turnsAll ss)))
theorem held_m {ss : List (List Row)} {least : Int} {μ : Store} (hs : ∀ s ∈ ss, s.length ≤ 200) (hl : ss.length ≤ 8) : m_held_by [.lst (ss.map rsD), .int least] μ = .ok (.own (.lst ((heldR ss least).map rowD))) μ := by
  have tl := turnsAll_len ss hs
  have sl := sortR_len (St.turnsAll ss)
  obtain ⟨t3, t4, t5, t6, t7, h⟩ := held_loop least (sortR (St.turnsAll ss)) [] 0 0 (.sh (.lst (ss.map rsD))) .no .no .no μ (by simp only [List.length_nil]; omega)
  simp only [List.map_nil, List.nil_append] at h
  have wl := St.sweep_len (least := least) (T := sortR (St.turnsAll ss)) (m := 0) (b := 0)
  have hm := merged_ok (rs := St.sweep least 0 0 (sortR (St.turnsAll ss))) (μ := μ) (by omega)
  have e : m_held_by = runB 8 2 (mSeq (mOwn 2 (eLst (aNil))) (mSeq (mSet 3 (eC (.int 0))) (mSeq (mSet 4 (eC (.int 0))) (mSeq (mFor (iSeq (eCall (noX m_turns_of) (aCons (eVar 0) (aNil)))) (gT [5, 6, 7]) heldBody) (mSeq (mFrz 2) (mRet (eCall (noX m_merged) (aCons (eVar 2) (aNil))))))))) := rfl
  rw [e]
  have hm : m_merged [D.lst ((St.sweep least 0 0 (sortR (St.turnsAll ss))).map rowD)] μ = _ := hm
  have ht := turns_m (μ := μ) hs hl
  simp only [x_runB, x_startE, List.length_cons, List.length_nil, List.replicate, List.map_cons, List.map_nil, List.cons_append, List.nil_append, Nat.reduceAdd, Nat.reduceSub, if_true, x_mSeq, x_mOwn, x_eLst, x_aNil, bind_ok', Nat.zero_le, x_ownR, List.set_cons_succ, List.set_cons_zero, seqR_nx, x_mSet, x_toD, x_eC, x_toD1, of_some, x_mFor, x_iSeq, x_eCall, x_aCons, x_eVar, List.getElem?_cons_succ, List.getElem?_cons_zero, x_eVarR1, x_noX, ht, noXR_ok, x_op2, x_toD2, x_items1, h, x_mFrz, x_slotR, x_frzR, x_mRet, hm, x_opRv2, x_retR, endR_rt]
  rfl
theorem held_spec {k : Nat} {ss : List (List Row)} {least : Int} (hc : ∀ s ∈ ss, Set k s) (hl : 1 ≤ least) : St.Canon (heldR ss least) ∧ ∀ h n, St.In (heldR ss least) h n ↔ least ≤ St.many ss h n := by
  obtain ⟨a, b⟩ := merged_spec (rs := St.sweep least 0 0 (sortR (St.turnsAll ss))) fun r hr => St.sweep_okr hr
  exact ⟨a, fun h n => (b h n).trans (St.sweep_all hl (fun s hs => (hc s hs).can) (sortR_perm _) (sortR_sorted _) h n)⟩
theorem by_loop {k : Nat} (hk : k ≤ 200) (ρ : Ev) (hρ : ρ.length = 4) : ∀ (ss : List (List Row)) (acc : List (List Row)) (μ : Store), (∀ s ∈ ss, Fit k s) → acc.length + ss.length < 16777216 →
    lcL (gN 3) mYes (eCall (noX m_plain) (aCons (eVar 3) (aNil))) ρ (ss.map rsD) μ (acc.map rsD) = .ok ((acc ++ ss.map merged).map rsD) μ
  | [], acc, μ, _, _ => by simp [lcL]
  | s :: ss, acc, μ, hs, hl => by
    simp only [List.length_cons] at hl
    have hl' : acc.length < 16777216 := by omega
    have h3 : 3 < ρ.length := by omega
    have ih := by_loop hk ρ hρ ss (acc ++ [merged s]) μ (fun q hq => hs q (List.mem_cons_of_mem _ hq)) (by simp only [List.length_append, List.length_cons, List.length_nil]; omega)
    have hp := plain_m (μ := μ) (hs s List.mem_cons_self) hk
    rw [List.map_cons, List.map_cons, lcL]
    simp [h3, hl', hp] at ih ⊢
    exact ih
theorem by_many_m {k : Nat} {ss : List (List Row)} {least : Int} {μ : Store} (hk : k ≤ 200) (hs : ∀ s ∈ ss, Fit k s) (hl : ss.length ≤ 8) (h1 : 1 ≤ least) (h2 : least ≤ ss.length) : m_by_many [.lst (ss.map rsD), .int least] μ = .ok (.own (.lst ((heldR (ss.map merged) least).map rowD))) μ := by
  have h := by_loop hk [.sh (.lst (ss.map rsD)), .sh (.int least), .no, .no] rfl ss [] μ hs (by simp only [List.length_nil]; omega)
  simp only [List.map_nil, List.nil_append] at h
  have hh := held_m (ss := ss.map merged) (least := least) (μ := μ) (fun s hs' => by
    obtain ⟨q, hq, e⟩ := List.mem_map.mp hs'
    rw [← e]
    exact Nat.le_trans (merged_set (hs q hq)).fit.len hk) (by rw [List.length_map]; exact hl)
  simp only [m_by_many, b_by_many, x_runB, x_startE, List.length_cons, List.length_nil, List.replicate, List.map_cons, List.map_nil, List.cons_append, List.nil_append, Nat.reduceAdd, Nat.reduceSub, if_true, x_mSeq, x_mSet, x_eLc, x_iSeq, x_toD, x_eVar, List.getElem?_cons_zero, x_eVarR1, bind_ok', x_toD1, of_some, x_items1, x_wipe1, x_wipe2, List.set_cons_succ, List.set_cons_zero, h, x_toD2, seqR_nx, x_mIf, x_mNot, x_mT, x_eCh2, x_eC, x_chainE, x_fin2, x_der1, x_vw1, Option.bind_some, fLe_int, Option.map_some, x_op1, x_chR, List.getElem?_cons_succ, h1, h2, decide_true, x_eCB, x_oCons, x_oNil, x_derefs1, x_derefs2, x_vw4, fLen_lst, List.length_map, x_mTR, Bool.not_true, Bool.false_eq_true, if_false, x_mNx, x_mRet, x_eCall, x_aCons, x_aNil, x_noX, hh, noXR_ok, x_op2, x_opRv2, x_retR, endR_rt]
end Law

/-! ### gaps -/
namespace Law
open PySem L2 DL
abbrev KV := List (Int × Int)
def kD (kv : KV) : List (Key × D) := kv.map fun p => (.inl p.1, .int p.2)
def putI (kv : KV) (h e : Int) : KV := if h ∈ kv.map (·.1) then kv.map (fun p => if p.1 = h then (p.1, e) else p) else kv ++ [(h, e)]
theorem kD_any (h : Int) : ∀ kv : KV, ((kD kv).any fun p => decide (p.1 = Sum.inl h)) = decide (h ∈ kv.map (·.1))
  | [] => rfl
  | p :: kv => by
    have ih := kD_any h kv
    show (decide ((Sum.inl p.1 : Key) = Sum.inl h) || (kD kv).any _) = _
    rw [ih]
    by_cases c : p.1 = h
    · simp [c]
    · have c' : ¬ h = p.1 := fun z => c z.symm
      simp [c, c']
theorem kD_put (kv : KV) (h e : Int) : putD (kD kv) (.inl h) (.int e) = kD (putI kv h e) := by
  unfold putD putI
  rw [kD_any]
  by_cases c : h ∈ kv.map (·.1)
  · rw [if_pos c, if_pos (decide_eq_true c)]
    unfold kD
    rw [List.map_map, List.map_map]
    refine List.map_congr_left fun p _ => ?_
    show (if (Sum.inl p.1 : Key) = Sum.inl h then _ else _) = _
    by_cases d : p.1 = h
    · simp [d]
    · simp [d]
  · rw [if_neg c, if_neg (by simpa using c)]
    unfold kD
    rw [List.map_append]
    rfl
theorem put_mem {kv : KV} {k v h e : Int} : (h, e) ∈ putI kv k v ↔ (h = k ∧ e = v) ∨ (h ≠ k ∧ (h, e) ∈ kv) := by
  unfold putI
  split
  · next c =>
    rw [List.mem_map]
    constructor
    · rintro ⟨p, hp, e1⟩
      split at e1
      · next d =>
        have a : p.1 = h := congrArg Prod.fst e1
        have b : v = e := congrArg Prod.snd e1
        exact .inl ⟨by omega, b.symm⟩
      · next d =>
        rw [e1] at hp d
        exact .inr ⟨d, hp⟩
    · rintro (⟨a, b⟩ | ⟨a, b⟩)
      · obtain ⟨p, hp, e1⟩ := List.mem_map.mp c
        exact ⟨p, hp, by rw [if_pos e1, e1, a, b]⟩
      · exact ⟨(h, e), b, by rw [if_neg a]⟩
  · next c =>
    rw [List.mem_append, List.mem_singleton]
    constructor
    · rintro (a | a)
      · refine .inr ⟨fun z => c (List.mem_map.mpr ⟨(h, e), a, z⟩), a⟩
      · have a1 : h = k := congrArg Prod.fst a
        have a2 : e = v := congrArg Prod.snd a
        exact .inl ⟨a1, a2⟩
    · rintro (⟨a, b⟩ | ⟨a, b⟩)
      · exact .inr (by rw [a, b])
      · exact .inl b
theorem put_nodup {kv : KV} {k v : Int} (h : (kv.map (·.1)).Nodup) : ((putI kv k v).map (·.1)).Nodup := by
  unfold putI
  split
  · rw [List.map_map]
    have : ((fun p : Int × Int => p.1) ∘ fun p => if p.1 = k then (p.1, v) else p) = fun p => p.1 := by
      funext p
      show (if p.1 = k then (p.1, v) else p).1 = p.1
      split <;> rfl
    rw [this]
    exact h
  · next c =>
    rw [List.map_append]
    refine List.nodup_append.mpr ⟨h, by simp, fun a ha b hb => ?_⟩
    have : b = k := by simpa using hb
    rw [this]
    exact fun z => c (z ▸ ha)
def lastI (kv : KV) : List Row → KV
  | [] => kv
  | r :: rs => lastI (putI kv r.1 r.2.2) rs
structure LastOk (done : List Row) (kv : KV) : Prop where
  nd : (kv.map (·.1)).Nodup
  src : ∀ h e, (h, e) ∈ kv → ∃ r ∈ done, r.1 = h ∧ r.2.2 = e
  top : ∀ q ∈ done, ∃ e, (q.1, e) ∈ kv ∧ q.2.2 ≤ e
theorem last_ok : ∀ (rs : List Row) (done : List Row) (kv : KV), St.Canon (done ++ rs) → LastOk done kv → LastOk (done ++ rs) (lastI kv rs)
  | [], done, kv, _, h => by rw [List.append_nil]; exact h
  | r :: rs, done, kv, c, h => by
    have e : done ++ r :: rs = (done ++ [r]) ++ rs := by rw [List.append_assoc]; rfl
    rw [e] at c ⊢
    have or : r.2.1 ≤ r.2.2 := c.1 r (List.mem_append_left _ (List.mem_append_right _ List.mem_cons_self))
    refine last_ok rs _ _ c ⟨put_nodup h.nd, fun a b m => ?_, fun q hq => ?_⟩
    · rcases put_mem.mp m with ⟨x, y⟩ | ⟨x, y⟩
      · exact ⟨r, List.mem_append_right _ List.mem_cons_self, x.symm, y.symm⟩
      · obtain ⟨q, hq, z⟩ := h.src a b y
        exact ⟨q, List.mem_append_left _ hq, z⟩
    · rcases List.mem_append.mp hq with hq | hq
      · by_cases d : q.1 = r.1
        · have s : St.Sep q r := (List.pairwise_append.mp (List.pairwise_append.mp c.2).1).2.2 q hq r List.mem_cons_self
          refine ⟨r.2.2, put_mem.mpr (.inl ⟨d, rfl⟩), ?_⟩
          unfold St.Sep at s
          omega
        · obtain ⟨x, y, z⟩ := h.top q hq
          exact ⟨x, put_mem.mpr (.inr ⟨d, y⟩), z⟩
      · have : q = r := by simpa using hq
        rw [this]
        exact ⟨r.2.2, put_mem.mpr (.inl ⟨rfl, rfl⟩), Int.le_refl _⟩
def valI : KV → Int → Int
  | [], _ => 0
  | p :: kv, h => if p.1 = h then p.2 else valI kv h
theorem val_get : ∀ {kv : KV} {h : Int}, h ∈ kv.map (·.1) → getK (kD kv) (Sum.inl h) = some (.int (valI kv h))
  | [], h, m => by simp at m
  | p :: kv, h, m => by
    unfold getK kD valI
    rw [List.map_cons, List.find?_cons]
    by_cases c : p.1 = h
    · rw [if_pos c]
      have : decide ((Sum.inl p.1 : Key) = Sum.inl h) = true := decide_eq_true (by rw [c])
      rw [this]
      rfl
    · rw [if_neg c]
      have : decide ((Sum.inl p.1 : Key) = Sum.inl h) = false := decide_eq_false (fun z => c (Sum.inl.inj z))
      rw [this]
      refine val_get ?_
      rcases List.mem_cons.mp m with e | e
      · exact absurd e.symm c
      · exact e
theorem val_mem : ∀ {kv : KV} {h : Int}, h ∈ kv.map (·.1) → (h, valI kv h) ∈ kv
  | [], h, m => by simp at m
  | p :: kv, h, m => by
    unfold valI
    by_cases c : p.1 = h
    · rw [if_pos c]
      have : (h, p.2) = p := by rw [← c]
      rw [this]
      exact List.mem_cons_self
    · rw [if_neg c]
      refine List.mem_cons_of_mem _ (val_mem ?_)
      rcases List.mem_cons.mp m with e | e
      · exact absurd e.symm c
      · exact e
theorem val_uniq : ∀ {kv : KV} {h e : Int}, (kv.map (·.1)).Nodup → (h, e) ∈ kv → valI kv h = e
  | [], h, e, _, m => by simp at m
  | p :: kv, h, e, nd, m => by
    obtain ⟨n1, n2⟩ := List.nodup_cons.mp nd
    unfold valI
    rcases List.mem_cons.mp m with c | c
    · rw [← c, if_pos rfl]
    · rw [if_neg (fun z => n1 (List.mem_map.mpr ⟨(h, e), c, z.symm⟩))]
      exact val_uniq n2 c
def wholes (kv : KV) : List Row := (sortI (kv.map (·.1))).map fun h => (h, 1, valI kv h)
theorem wholes_spec {z : List Row} (c : St.Canon z) (hp : ∀ h n, St.In z h n → 1 ≤ n) {kv : KV} (k : LastOk z kv) : St.Canon (wholes kv) ∧ ∀ h n, St.In (wholes kv) h n ↔ 1 ≤ n ∧ ∃ m, n ≤ m ∧ St.In z h m := by
  have mk : ∀ {h}, h ∈ sortI (kv.map (·.1)) ↔ h ∈ kv.map (·.1) := fun {h} => (sortI_perm _).mem_iff
  have vz : ∀ h, h ∈ kv.map (·.1) → St.In z h (valI kv h) := fun h m => by
    obtain ⟨r, hr, a, b⟩ := k.src _ _ (val_mem m)
    rw [← b, ← a]
    exact St.in_row hr (c.1 r hr) (Int.le_refl _)
  refine ⟨⟨fun r hr => ?_, ?_⟩, fun h n => ?_⟩
  · obtain ⟨h, hh, e⟩ := List.mem_map.mp hr
    rw [← e]
    exact hp _ _ (vz h (mk.mp hh))
  · unfold wholes
    rw [List.pairwise_map]
    have nd : (sortI (kv.map (·.1))).Nodup := (sortI_perm _).nodup_iff.mpr k.nd
    have sd : (sortI (kv.map (·.1))).Pairwise (· ≤ ·) := sortI_sorted _
    have nd : (sortI (kv.map (·.1))).Pairwise (· ≠ ·) := nd
    refine (sd.and nd).imp fun {a b} h => ?_
    have h1 : a ≤ b := h.1
    have h2 : a ≠ b := h.2
    exact .inl (show a < b by omega)
  · constructor
    · rintro ⟨r, hr, a, b, d⟩
      obtain ⟨x, hx, e⟩ := List.mem_map.mp hr
      rw [← e] at a b d
      have a : x = h := a
      exact ⟨b, valI kv x, d, a ▸ vz x (mk.mp hx)⟩
    · rintro ⟨h1, m, hm, ⟨r, hr, a, b, d⟩⟩
      obtain ⟨e, e1, e2⟩ := k.top r hr
      have hk : h ∈ kv.map (·.1) := List.mem_map.mpr ⟨(r.1, e), e1, a⟩
      refine ⟨(h, 1, valI kv h), List.mem_map.mpr ⟨h, mk.mpr hk, rfl⟩, rfl, h1, ?_⟩
      show n ≤ valI kv h
      rw [← a, val_uniq k.nd e1]
      omega
def gapsR (a : List Row) : List Row := St.cutOut (wholes (lastI [] (merged a))) (merged a)
section
variable {k : Nat} {a : List Row} {μ : Store}
theorem last_fit (fa : Fit k a) : LastOk (merged a) (lastI [] (merged a)) := last_ok (merged a) [] [] (merged_set fa).can ⟨by simp, fun h e m => by simp at m, fun q hq => by simp at hq⟩
theorem wholes_fit (fa : Fit k a) : St.Canon (wholes (lastI [] (merged a))) ∧ ∀ h n, St.In (wholes (lastI [] (merged a))) h n ↔ 1 ≤ n ∧ ∃ m, n ≤ m ∧ St.In a h m := by
  obtain ⟨c, e⟩ := wholes_spec (merged_set fa).can (fun h n i => ((merged_set fa).fit.box i).2.2.1) (last_fit fa)
  refine ⟨c, fun h n => (e h n).trans ?_⟩
  constructor
  · rintro ⟨x, m, y, i⟩
    exact ⟨x, m, y, (merged_in fa h m).mp i⟩
  · rintro ⟨x, m, y, i⟩
    exact ⟨x, m, y, (merged_in fa h m).mpr i⟩
theorem keys_len (fa : Fit k a) : ((lastI [] (merged a)).map (·.1)).length ≤ 8 := by
  refine Nat.le_trans (St.nodup_len (m := [0, 1, 2, 3, 4, 5, 6, 7]) (last_fit fa).nd fun h hh => ?_) (Nat.le_refl _)
  obtain ⟨p, hp, e⟩ := List.mem_map.mp hh
  obtain ⟨r, hr, x, y⟩ := (last_fit fa).src p.1 p.2 hp
  have g := (merged_set fa).fit.good r hr
  unfold Good at g
  have : 0 ≤ h ∧ h < 8 := by omega
  have : h = 0 ∨ h = 1 ∨ h = 2 ∨ h = 3 ∨ h = 4 ∨ h = 5 ∨ h = 6 ∨ h = 7 := by omega
  simpa using this
theorem wholes_len (fa : Fit k a) : (wholes (lastI [] (merged a))).length ≤ 8 := by
  unfold wholes
  rw [List.length_map, (sortI_perm _).length_eq]
  exact keys_len fa
theorem gaps_in (fa : Fit k a) (h n : Int) : St.In (gapsR a) h n ↔ (1 ≤ n ∧ ∃ m, n ≤ m ∧ St.In a h m) ∧ ¬ St.In a h n := by
  unfold gapsR
  rw [(St.cutOut_ok (wholes_fit fa).1 (merged_set fa).can).2, (wholes_fit fa).2, merged_in fa]
theorem gaps_set (fa : Fit k a) : Set (8 + k) (gapsR a) := by
  have c := St.cutOut_ok (wholes_fit fa).1 (merged_set fa).can
  refine ⟨c.1, fit_of c.1 (fun h n i => ?_) ?_⟩
  · obtain ⟨⟨h1, m, h2, h3⟩, _⟩ := (gaps_in fa h n).mp i
    have := fa.box h3
    omega
  · have := St.cut_len c.1 c.2
    have := wholes_len fa
    have := (merged_set fa).fit.len
    unfold gapsR
    omega
end
end Law

/-! ### gaps over data -/
namespace Law
open PySem L2 DL
theorem put_len (kv : KV) (h e : Int) : (putI kv h e).length ≤ kv.length + 1 := by
  unfold putI
  split
  · rw [List.length_map]; omega
  · rw [List.length_append]; exact Nat.le_refl _
theorem fSet_kD {kv : KV} {h e : Int} (hl : kv.length < 16777216) : fSet (.dK (kD kv)) (.int h) (.int e) = some (.dK (kD (putI kv h e))) := by
  show (if (kD kv).length < 16777216 then some (Ob.dK (putD (kD kv) (.inl h) (.int e))) else none) = _
  rw [kD_put, if_pos (by unfold kD; rw [List.length_map]; exact hl)]
theorem last_loop : ∀ (rs : List Row) (kv : KV) (s0 s1 s3 s4 s5 : Sl) (μ : Store), kv.length + rs.length < 16777216 →
    ∃ t3 t4 t5, forL (gT [3, 4, 5]) (mSetIt (eVar 5) (eVar 2) (eVar 3)) (rs.map rowD) [s0, s1, .own (.dK (kD kv)), s3, s4, s5] μ = .ok (.nx, [s0, s1, .own (.dK (kD (lastI kv rs))), t3, t4, t5]) μ
  | [], kv, s0, s1, s3, s4, s5, μ, _ => ⟨s3, s4, s5, rfl⟩
  | r :: rs, kv, s0, s1, s3, s4, s5, μ, hl => by
    obtain ⟨h, a, b⟩ := r
    simp only [List.length_cons] at hl
    have pl := put_len kv h b
    obtain ⟨t3, t4, t5, ih⟩ := last_loop rs (putI kv h b) s0 s1 (.sh (.int h)) (.sh (.int a)) (.sh (.int b)) μ (by omega)
    refine ⟨t3, t4, t5, ?_⟩
    rw [lastI, ← ih, List.map_cons, forL]
    simp [fSet_kD (kv := kv) (h := h) (e := b) (by omega)]
abbrev wholeElt : ME := eTup (aCons (eVar 3) (aCons (eC (.int 1)) (aCons (e2 fIx (eVar 2) (eVar 3)) (aNil))))
theorem fIx_kD {kv : KV} {h : Int} (m : h ∈ kv.map (·.1)) : fIx (.ob (.dK (kD kv))) (.d (.int h)) = some (.sh (.int (valI kv h))) := by
  show (match (some (getK (kD kv) (Sum.inl h)) : Option (Option D)) with | some (some d) => some (Rv.sh d) | _ => none) = _
  rw [val_get m]
theorem whole_loop (kv : KV) (s0 s1 s4 s5 : Sl) : ∀ (hs : List Int) (acc : List Row) (μ : Store), (∀ h ∈ hs, h ∈ kv.map (·.1)) → acc.length + hs.length < 16777216 →
    lcL (gN 3) mYes wholeElt [s0, s1, .own (.dK (kD kv)), .no, s4, s5] (hs.map .int) μ (acc.map rowD) = .ok ((acc ++ hs.map fun h => (h, 1, valI kv h)).map rowD) μ
  | [], acc, μ, _, _ => by simp [lcL]
  | h :: hs, acc, μ, hm, hl => by
    simp only [List.length_cons] at hl
    have hl' : acc.length < 16777216 := by omega
    have ih := whole_loop kv s0 s1 s4 s5 hs (acc ++ [(h, 1, valI kv h)]) μ (fun q hq => hm q (List.mem_cons_of_mem _ hq)) (by simp only [List.length_append, List.length_cons, List.length_nil]; omega)
    have fx := fIx_kD (hm h List.mem_cons_self)
    have e : acc ++ (h :: hs).map (fun h => (h, 1, valI kv h)) = acc ++ [(h, 1, valI kv h)] ++ hs.map fun h => (h, 1, valI kv h) := by rw [List.append_assoc]; rfl
    rw [e, ← ih, ← snoc_rows, List.map_cons, lcL]
    simp [hl', fx]
theorem keyInts_kD : ∀ kv : KV, keyInts ((kD kv).map (·.1)) = some (kv.map (·.1))
  | [] => rfl
  | p :: kv => by
    show (keyInts ((kD kv).map (·.1))).map (p.1 :: ·) = _
    rw [keyInts_kD kv]
    rfl
theorem fSorted_kD {kv : KV} (h : (kv.map (·.1)).length < 64) : fSorted [.ob (.dK (kD kv))] = some (.own (.lst ((sortI (kv.map (·.1))).map .int))) := by
  show ((keyInts ((kD kv).map (·.1))).bind fun ns => if ns.length < 64 then some (Rv.own (.lst ((sortI ns).map .int))) else none) = _
  rw [keyInts_kD]
  show (if _ then _ else _) = _
  rw [if_pos h]
theorem gaps_m {k : Nat} {a : List Row} {μ : Store} (fa : Fit k a) (hk : k ≤ 200) : m_gaps [rsD a] μ = .ok (.own (.lst ((gapsR a).map rowD))) μ := by
  have hl := (merged_set fa).fit.len
  have kl := keys_len fa
  have wl := wholes_len fa
  obtain ⟨t3, t4, t5, h1⟩ := last_loop (merged a) [] (.sh (rsD a)) (.sh (rsD (merged a))) .no .no .no μ (by simp only [List.length_nil]; omega)
  have h2 := whole_loop (lastI [] (merged a)) (.sh (rsD a)) (.sh (rsD (merged a))) t4 t5 (sortI ((lastI [] (merged a)).map (·.1))) [] μ (fun h hh => (sortI_perm _).mem_iff.mp hh) (by rw [(sortI_perm _).length_eq]; simp only [List.length_nil]; omega)
  simp only [List.map_nil, List.nil_append] at h2
  have h2 : _ = Res.ok ((wholes (lastI [] (merged a))).map rowD) μ := h2
  have h3 := fSorted_kD (kv := lastI [] (merged a)) (by omega)
  have h4 := cut_out_ok (xs := wholes (lastI [] (merged a))) (ys := merged a) (μ := μ) (small_mul (by omega) (by omega))
  have h5 := plain_m (μ := μ) fa hk
  have h1 : forL (gT [3, 4, 5]) (mSetIt (eVar 5) (eVar 2) (eVar 3)) ((merged a).map rowD) [.sh (rsD a), .sh (rsD (merged a)), .own (.dK []), .no, .no, .no] μ = _ := h1
  simp only [m_gaps, b_gaps, x_runB, x_startE, List.length_cons, List.length_nil, List.replicate, List.map_cons, List.map_nil, List.cons_append, List.nil_append, Nat.reduceAdd, Nat.reduceSub, if_true, x_mSeq, x_mSet, x_toD, x_eCall, x_aCons, x_aNil, x_eVar, List.getElem?_cons_zero, List.getElem?_cons_succ, x_eVarR1, x_eVarR2, bind_ok', x_toD1, of_some, x_noX, h5, noXR_ok, x_op2, x_toD2, List.set_cons_succ, List.set_cons_zero, seqR_nx, x_mOwn, x_eDK, x_ownR, x_mFor, x_iSeq, x_items1, h1, x_mRet, x_eLc, x_eCB, x_oCons, x_oNil, x_derefs1, x_derefs2, x_der3, x_slotR, Option.bind_some, Option.map_some, x_rd2, h3, x_wipe1, x_wipe2, h2, h4, x_opRv2, x_retR, endR_rt]
  rfl
/-! ### what the law throws -/
abbrev diceOb (ns : List Int) (p m e : Int) : Ob := .lst [.scr ns, .int p, .int m, .int e]
structure DiceOk (ns : List Int) (μ : Store) : Prop where
  at0 : ∃ p m e, μ = [diceOb ns p m e] ∧ 0 ≤ p ∧ 0 ≤ m ∧ 0 ≤ e
@[simp] theorem fMod_int {i j : Int} (h : 0 < j) : fMod (.d (.int i)) (.d (.int j)) = some (.sh (.int (i % j))) := by
  show (if decide (0 < j) = true then some (Rv.sh (.int (i % j))) else none) = _
  rw [if_pos (decide_eq_true h)]
@[simp] theorem fDiv_int {i j : Int} (h : 0 < j) (h' : j < 18446744073709551616) : fDiv (.d (.int i)) (.d (.int j)) = some (.sh (.int (i / j))) := by
  show (if decide (0 < j ∧ j < 18446744073709551616) = true then some (Rv.sh (.int (i / j))) else none) = _
  rw [if_pos (decide_eq_true ⟨h, h'⟩)]
end Law

/-! ### the dice -/
namespace Law
open PySem L2 DL
theorem fMul_l {i j : Int} (h : -18446744073709551616 < j ∧ j < 18446744073709551616) : fMul (.d (.int i)) (.d (.int j)) = some (.sh (.int (i * j))) := by
  show (if _ then _ else _) = _
  rw [if_pos (.inr h)]
@[simp] theorem fIx_d0 (a b c d : D) : fIx (.ob (.lst [a, b, c, d])) (.d (.int 0)) = some (.sh a) := rfl
@[simp] theorem fIx_d1 (a b c d : D) : fIx (.ob (.lst [a, b, c, d])) (.d (.int 1)) = some (.sh b) := rfl
@[simp] theorem fIx_d2 (a b c d : D) : fIx (.ob (.lst [a, b, c, d])) (.d (.int 2)) = some (.sh c) := rfl
@[simp] theorem fIx_d3 (a b c d : D) : fIx (.ob (.lst [a, b, c, d])) (.d (.int 3)) = some (.sh d) := rfl
@[simp] theorem fSet_d1 (a b c d x : D) : fSet (.lst [a, b, c, d]) (.int 1) x = some (.lst [a, x, c, d]) := rfl
@[simp] theorem fSet_d2 (a b c d x : D) : fSet (.lst [a, b, c, d]) (.int 2) x = some (.lst [a, b, x, d]) := rfl
@[simp] theorem fSet_d3 (a b c d x : D) : fSet (.lst [a, b, c, d]) (.int 3) x = some (.lst [a, b, c, x]) := rfl
theorem fPow_int {i j : Int} (h : 0 ≤ j ∧ j ≤ 1000000 ∧ i.natAbs < 18446744073709551616) : fPow (.d (.int i)) (.d (.int j)) = some (.sh (.int (i ^ j.toNat))) := by
  show (if decide (0 ≤ j ∧ j ≤ 1000000 ∧ i.natAbs < 18446744073709551616) = true then some (Rv.sh (.int (i ^ j.toNat))) else none) = _
  rw [if_pos (decide_eq_true h)]
theorem fPow_18 : fPow (.d (.int 10)) (.d (.int 18)) = some (.sh (.int 1000000000000000000)) := by
  rw [fPow_int (by omega)]
  rfl
theorem fPow_6 : fPow (.d (.int 10)) (.d (.int 6)) = some (.sh (.int 1000000)) := by
  rw [fPow_int (by omega)]
  rfl
theorem fPow_12 : fPow (.d (.int 10)) (.d (.int 12)) = some (.sh (.int 1000000000000)) := by
  rw [fPow_int (by omega)]
  rfl
theorem fIx_scr {ns : List Int} {p : Int} (h0 : 0 ≤ p) (h1 : p < ns.length) : ∃ c, fIx (.d (.scr ns)) (.d (.int p)) = some (.sh (.int c)) := by
  have e : fIx (.d (.scr ns)) (.d (.int p)) = (atI ns p).map fun n => Rv.sh (.int n) := rfl
  rw [e]
  unfold atI ixN
  rw [if_pos h0, if_pos h1]
  have hl : p.toNat < ns.length := by omega
  refine ⟨ns[p.toNat], ?_⟩
  simp [List.getElem?_eq_getElem hl]
theorem next_m {ns : List Int} {p m e n : Int} {μ : Store} (hp : 0 ≤ p) (h0 : 0 < n) (h1 : n < 18446744073709551616) :
    ∃ v p' m' e', m__law_next [.loc 0, .int n] (diceOb ns p m e :: μ) = .ok (.sh (.int v)) (diceOb ns p' m' e' :: μ) ∧ 0 ≤ v ∧ v < n ∧ 0 ≤ p' := by
  have md : ∀ i : Int, 0 ≤ i % n ∧ i % n < n := fun i => ⟨Int.emod_nonneg _ (by omega), Int.emod_lt_of_pos _ h0⟩
  by_cases c1 : 0 < e
  · refine ⟨e % n, p, m, e / n, ?_, (md e).1, (md e).2, hp⟩
    simp [m__law_next, b__law_next, c1, fMod_int h0, fDiv_int h0 h1, List.replicate]
  · by_cases c2 : p + 1 ≤ ns.length
    · obtain ⟨c, hc⟩ := fIx_scr hp (show p < ns.length by omega)
      by_cases c3 : 1000000000000000000 ≤ c
      · refine ⟨c % n, p + 1, m, c / n, ?_, (md c).1, (md c).2, by omega⟩
        simp [m__law_next, b__law_next, c1, c2, c3, hc, fPow_18, fMod_int h0, fDiv_int h0 h1, List.replicate]
      · refine ⟨c % n, p + 1, m, 0, ?_, (md c).1, (md c).2, by omega⟩
        simp [m__law_next, b__law_next, c1, c2, c3, hc, fPow_18, fMod_int h0, fDiv_int h0 h1, List.replicate]
    · refine ⟨m * 48271 % 2147483647 / 7 % n, p + 1, m * 48271 % 2147483647, e, ?_, (md _).1, (md _).2, by omega⟩
      simp [m__law_next, b__law_next, c1, c2, fMul_l (i := m) (j := 48271) (by omega), fMod_int h0, fMod_int (show (0 : Int) < 2147483647 by omega), fDiv_int (show (0 : Int) < 7 by omega) (by omega), List.replicate]
end Law

/-! ### the dice at first; rows thrown -/
namespace Law
open PySem L2 DL
abbrev diceBody : MS := mSet 1 (e2 fMod (e2 fAdd (e2 fAdd (e2 fMul (eVar 1) (eC (.int 48271))) (e2 fMul (e2 fMod (eVar 2) (eC (.int 2147483647))) (eC (.int 69621)))) (eC (.int 11))) (eC (.int 2147483647)))
theorem dice_loop : ∀ (ns : List Int) (x : Int) (s0 s2 : Sl) (μ : Store), ∃ y t2, forL (gN 2) diceBody (ns.map .int) [s0, .sh (.int x), s2] μ = .ok (.nx, [s0, .sh (.int y), t2]) μ
  | [], x, s0, s2, μ => ⟨x, s2, rfl⟩
  | n :: ns, x, s0, s2, μ => by
    obtain ⟨y, t2, ih⟩ := dice_loop ns ((x * 48271 + n % 2147483647 * 69621 + 11) % 2147483647) s0 (.sh (.int n)) μ
    refine ⟨y, t2, ?_⟩
    rw [← ih, List.map_cons, forL]
    simp [fMul_l (i := x) (j := 48271) (by omega), fMul_l (i := n % 2147483647) (j := 69621) (by omega), fMod_int (show (0 : Int) < 2147483647 by omega)]
theorem dice_m {ns : List Int} {μ : Store} : ∃ m, m__law_dice [.scr ns] μ = .ok (.own (diceOb ns 0 m 0)) μ := by
  obtain ⟨y, t2, h⟩ := dice_loop ns 0 (.sh (.scr ns)) .no μ
  have fi : ∀ b : Bool, fInt [.d (.bl b)] = some (.sh (.int (if b then 1 else 0))) := fun _ => rfl
  refine ⟨y * (if decide ((2 : Int) < ns.length) = true then 1 else 0), ?_⟩
  have hm : fMul (.d (.int y)) (.d (.int (if decide ((2 : Int) < ns.length) = true then 1 else 0))) = _ := fMul_l (by split <;> omega)
  simp only [m__law_dice, b__law_dice, x_runB, x_startE, List.length_cons, List.length_nil, List.replicate, List.map_cons, List.map_nil, List.cons_append, List.nil_append, Nat.reduceAdd, Nat.reduceSub, if_true, x_mSeq, x_mSet, x_toD, x_eC, bind_ok', x_toD1, of_some, List.set_cons_succ, List.set_cons_zero, seqR_nx, x_mFor, x_iSeq, x_eVar, List.getElem?_cons_zero, List.getElem?_cons_succ, x_eVarR1, x_items3, h, x_mRet, x_eLst, x_aCons, x_aNil, x_e2, x_eCB, x_oCons, x_oNil, x_derefs1, x_derefs2, x_der1, x_vw6, x_vw1, x_vw2, Option.bind_some, Option.map_some, fLen_scr, x_op1, x_fin2, fGt_int, fi, hm, x_op2, x_opRv2, x_retR, endR_rt]
  rfl
end Law

/-! ### rows thrown -/
namespace Law
open PySem L2 DL
abbrev rowsBody : MS := mSeq (mSet 6 (e2 fAdd (eC (.int 1)) (eCall (noX m__law_next) (aCons (eVar 0) (aCons (eVar 2) (aNil)))))) (mSeq (mSet 7 (e2 fIx (eLst (aCons (eC (.int 0)) (aCons (eCall (noX m__law_next) (aCons (eVar 0) (aCons (eC (.int 3)) (aNil)))) (aCons (eCall (noX m__law_next) (aCons (eVar 0) (aCons (eVar 2) (aNil)))) (aNil))))) (eCall (noX m__law_next) (aCons (eVar 0) (aCons (eC (.int 3)) (aNil)))))) (mApp (eVar 4) (eTup (aCons (eCall (noX m__law_next) (aCons (eVar 0) (aCons (eVar 1) (aNil)))) (aCons (eVar 6) (aCons (eCB fMin2 (oCons (eVar 2) (oCons (e2 fAdd (eVar 6) (eVar 7)) (oNil)))) (aNil)))))))
theorem fIx_3 {a b c : D} {i : Int} (h0 : 0 ≤ i) (h1 : i < 3) : ∃ d, fIx (.ob (.lst [a, b, c])) (.d (.int i)) = some (.sh d) ∧ (d = a ∨ d = b ∨ d = c) := by
  have : i = 0 ∨ i = 1 ∨ i = 2 := by omega
  rcases this with rfl | rfl | rfl
  · exact ⟨a, rfl, .inl rfl⟩
  · exact ⟨b, rfl, .inr (.inl rfl)⟩
  · exact ⟨c, rfl, .inr (.inr rfl)⟩
theorem rows_turn {ns : List Int} {p m e far hs : Int} {s3 s5 s6 s7 : Sl} {acc : List Row} {μ : Store} (hp : 0 ≤ p) (hf : 1 ≤ far) (hf2 : far ≤ 1000000000000) (hh : 0 < hs) (hh2 : hs ≤ 8) (hl : acc.length < 16777216) :
    ∃ r p' m' e' t6 t7, rowsBody [.sh (.loc 0), .sh (.int hs), .sh (.int far), s3, .own (.lst (acc.map rowD)), s5, s6, s7] (diceOb ns p m e :: μ) = .ok (.nx, [.sh (.loc 0), .sh (.int hs), .sh (.int far), s3, .own (.lst ((acc ++ [r]).map rowD)), s5, t6, t7]) (diceOb ns p' m' e' :: μ) ∧ Good r ∧ r.1 < hs ∧ r.2.2 ≤ far ∧ 0 ≤ p' := by
  obtain ⟨v1, p1, m1, e1, h1, a1, b1, c1⟩ := next_m (ns := ns) (m := m) (e := e) (μ := μ) (n := far) hp (by omega) (by omega)
  obtain ⟨v2, p2, m2, e2, h2, a2, b2, c2⟩ := next_m (ns := ns) (m := m1) (e := e1) (μ := μ) (n := 3) c1 (by omega) (by omega)
  obtain ⟨v3, p3, m3, e3, h3, a3, b3, c3⟩ := next_m (ns := ns) (m := m2) (e := e2) (μ := μ) (n := far) c2 (by omega) (by omega)
  obtain ⟨v4, p4, m4, e4, h4, a4, b4, c4⟩ := next_m (ns := ns) (m := m3) (e := e3) (μ := μ) (n := 3) c3 (by omega) (by omega)
  obtain ⟨v5, p5, m5, e5, h5, a5, b5, c5⟩ := next_m (ns := ns) (m := m4) (e := e4) (μ := μ) (n := hs) c4 (by omega) (by omega)
  obtain ⟨d, hd, dd⟩ := fIx_3 (a := .int 0) (b := .int v2) (c := .int v3) a4 b4
  obtain ⟨w, rfl, hw⟩ : ∃ w : Int, d = .int w ∧ 0 ≤ w := by
    rcases dd with rfl | rfl | rfl
    · exact ⟨0, rfl, Int.le_refl _⟩
    · exact ⟨v2, rfl, a2⟩
    · exact ⟨v3, rfl, a3⟩
  refine ⟨(v5, 1 + v1, min far (1 + v1 + w)), p5, m5, e5, .sh (.int (1 + v1)), .sh (.int w), ?_, ?_, b5, ?_, c5⟩
  · simp [h1, h2, h3, h4, h5, hd, hl]
  · refine ⟨a5, ?_, ?_, ?_, ?_⟩
    · show v5 < 8
      omega
    · show 1 ≤ 1 + v1
      omega
    · show 1 + v1 ≤ min far (1 + v1 + w)
      omega
    · show min far (1 + v1 + w) ≤ _
      omega
  · show min far (1 + v1 + w) ≤ far
    omega
theorem rows_loop {ns : List Int} {far hs : Int} {s3 : Sl} {μ : Store} (hf : 1 ≤ far) (hf2 : far ≤ 1000000000000) (hh : 0 < hs) (hh2 : hs ≤ 8) : ∀ (xs : List D) (acc : List Row) (p m e : Int) (s5 s6 s7 : Sl), 0 ≤ p → acc.length + xs.length < 16777216 →
    ∃ rs p' m' e' t5 t6 t7, forL (gN 5) rowsBody xs [.sh (.loc 0), .sh (.int hs), .sh (.int far), s3, .own (.lst (acc.map rowD)), s5, s6, s7] (diceOb ns p m e :: μ) = .ok (.nx, [.sh (.loc 0), .sh (.int hs), .sh (.int far), s3, .own (.lst ((acc ++ rs).map rowD)), t5, t6, t7]) (diceOb ns p' m' e' :: μ) ∧ rs.length = xs.length ∧ (∀ r ∈ rs, Good r) ∧ 0 ≤ p'
  | [], acc, p, m, e, s5, s6, s7, hp, _ => ⟨[], p, m, e, s5, s6, s7, by rw [List.append_nil]; rfl, rfl, fun r hr => by simp at hr, hp⟩
  | x :: xs, acc, p, m, e, s5, s6, s7, hp, hl => by
    simp only [List.length_cons] at hl
    obtain ⟨r, p1, m1, e1, t6, t7, h1, g1, _, _, c1⟩ := rows_turn (ns := ns) (p := p) (m := m) (e := e) (s3 := s3) (s5 := .sh x) (s6 := s6) (s7 := s7) (acc := acc) (μ := μ) hp hf hf2 hh hh2 (by omega)
    obtain ⟨rs, p2, m2, e2, u5, u6, u7, h2, l2, g2, c2⟩ := rows_loop hf hf2 hh hh2 xs (acc ++ [r]) p1 m1 e1 (.sh x) t6 t7 c1 (by simp only [List.length_append, List.length_cons, List.length_nil]; omega)
    refine ⟨r :: rs, p2, m2, e2, u5, u6, u7, ?_, by rw [List.length_cons, List.length_cons, l2], fun q hq => ?_, c2⟩
    · have ea : acc ++ r :: rs = acc ++ [r] ++ rs := by rw [List.append_assoc]; rfl
      rw [ea, ← h2, forL]
      simp only [x_gN, List.set_cons_succ, List.set_cons_zero, h1, loopR_nx]
    · rcases List.mem_cons.mp hq with z | z
      · rw [z]; exact g1
      · exact g2 q z
theorem rangeD_ok {v : Int} (h0 : 0 ≤ v) (h1 : v < 1000000) : ∃ xs, rangeD 0 v = some xs ∧ xs.length = v.toNat := by
  unfold rangeD
  rw [if_pos (by omega)]
  exact ⟨_, rfl, by rw [List.length_map, List.length_range]; omega⟩
theorem rows_m {ns : List Int} {p m e far hs most : Int} {μ : Store} (hp : 0 ≤ p) (hf : 1 ≤ far) (hf2 : far ≤ 1000000000000) (hh : 0 < hs) (hh2 : hs ≤ 8) (hm : 0 ≤ most) (hm2 : most ≤ 200) :
    ∃ rs p' m' e', m__law_rows [.loc 0, .int hs, .int far, .int most] (diceOb ns p m e :: μ) = .ok (.own (.lst (rs.map rowD))) (diceOb ns p' m' e' :: μ) ∧ Fit most.toNat rs ∧ 0 ≤ p' := by
  obtain ⟨v, p1, m1, e1, h1, a1, b1, c1⟩ := next_m (ns := ns) (m := m) (e := e) (μ := μ) (n := most + 1) hp (by omega) (by omega)
  obtain ⟨xs, hx, lx⟩ := rangeD_ok a1 (by omega)
  obtain ⟨rs, p2, m2, z2, t5, t6, t7, h2, l2, g2, c2⟩ := rows_loop (ns := ns) (s3 := .sh (.int most)) (μ := μ) hf hf2 hh hh2 xs [] p1 m1 e1 .no .no .no c1 (by simp only [List.length_nil]; omega)
  simp only [List.map_nil, List.nil_append] at h2
  refine ⟨rs, p2, m2, z2, ?_, ⟨g2, by omega⟩, c2⟩
  have e : m__law_rows = runB 8 4 (mSeq (mOwn 4 (eLst (aNil))) (mSeq (mFor (iRange1 (eCall (noX m__law_next) (aCons (eVar 0) (aCons (e2 fAdd (eVar 3) (eC (.int 1))) (aNil))))) (gN 5) rowsBody) (mRet (eVar 4)))) := rfl
  rw [e]
  simp only [x_runB, x_startE, List.length_cons, List.length_nil, List.replicate, List.map_cons, List.map_nil, List.cons_append, List.nil_append, Nat.reduceAdd, Nat.reduceSub, if_true, x_mSeq, x_mOwn, x_eLst, x_aNil, bind_ok', Nat.zero_le, x_ownR, List.set_cons_succ, List.set_cons_zero, seqR_nx, x_mFor, x_iRange1, x_toD, x_eCall, x_aCons, x_eVar, List.getElem?_cons_zero, List.getElem?_cons_succ, x_eVarR1, x_eVarR2, x_toD1, of_some, x_e2, x_eC, x_fin2, x_der1, x_vw1, Option.bind_some, Option.map_some, fAdd_int, x_op1, x_noX, h1, noXR_ok, x_range1R, hx, h2, x_mRet, x_opRv3, x_slotR, x_retR, endR_rt]
end Law

/-! ### _law_ends -/
namespace Law
open PySem L2 DL
theorem nil_of {z : List Row} (c : St.Canon z) (h : ∀ a n, ¬ St.In z a n) : z = [] := St.canon_ext c St.canon_nil fun a n => ⟨fun i => absurd i (h a n), fun i => absurd i St.in_nil⟩
theorem maxL_up : ∀ {ns : List Int} {x : Int}, x ∈ ns → x ≤ maxL ns
  | [], x, h => by simp at h
  | [i], x, h => by
    have : x = i := by simpa using h
    rw [this]
    exact Int.le_refl _
  | i :: j :: r, x, h => by
    show x ≤ max i (maxL (j :: r))
    rcases List.mem_cons.mp h with e | e
    · omega
    · have := maxL_up e
      omega
def lastsOf (h : Int) (rs : List Row) : List Int := (rs.filter fun r => decide (r.1 = h)).map fun r => r.2.2
theorem lasts_loop (h : Int) (s0 s1 s3 : Sl) : ∀ (rs : List Row) (acc : List Int) (μ : Store), acc.length + rs.length < 16777216 →
    lcL (gN 4) (mT (e2 fEq (e2 fIx (eVar 4) (eC (.int 0))) (eVar 2))) (e2 fIx (eVar 4) (eC (.int 2))) [s0, s1, .sh (.int h), s3, .no] (rs.map rowD) μ (acc.map .int) = .ok ((acc ++ lastsOf h rs).map .int) μ
  | [], acc, μ, _ => by simp [lcL, lastsOf]
  | r :: rs, acc, μ, hl => by
    obtain ⟨rh, a, b⟩ := r
    simp only [List.length_cons] at hl
    have hl' : acc.length < 16777216 := by omega
    rw [List.map_cons, lcL]
    by_cases c : rh = h
    · have e : acc ++ lastsOf h ((rh, a, b) :: rs) = acc ++ [b] ++ lastsOf h rs := by
        rw [List.append_assoc]
        simp [lastsOf, c]
      have ih := lasts_loop h s0 s1 s3 rs (acc ++ [b]) μ (by simp only [List.length_append, List.length_cons, List.length_nil]; omega)
      rw [e, ← ih]
      simp [c, hl']
    · have e : acc ++ lastsOf h ((rh, a, b) :: rs) = acc ++ lastsOf h rs := by simp [lastsOf, c]
      have ih := lasts_loop h s0 s1 s3 rs acc μ (by omega)
      rw [e, ← ih]
      simp [c]
theorem lasts_len (h : Int) (rs : List Row) : (lastsOf h rs).length ≤ rs.length := by
  unfold lastsOf
  rw [List.length_map]
  exact List.length_filter_le _ _
section
variable {k : Nat} {a : List Row} {μ : Store}
/-- the two sets of the ends -/
theorem lack_common (fa : Fit k a) (hk : k ≤ 40) : bothR (gapsR a) a = [] :=
  nil_of (both_set (gaps_set fa).fit fa).can fun h n i => by
    obtain ⟨x, y⟩ := (both_in (gaps_set fa).fit fa h n).mp i
    exact ((gaps_in fa h n).mp x).2 y
theorem full_in (fa : Fit k a) (h n : Int) : St.In (joinR a (gapsR a)) h n ↔ 1 ≤ n ∧ ∃ m, n ≤ m ∧ St.In a h m := by
  rw [join_in fa (gaps_set fa).fit, gaps_in fa]
  constructor
  · rintro (x | ⟨x, _⟩)
    · exact ⟨(fa.box x).2.2.1, n, Int.le_refl _, x⟩
    · exact x
  · intro x
    by_cases y : St.In a h n
    · exact .inl y
    · exact .inr ⟨x, y⟩
theorem full_gaps (fa : Fit k a) : gapsR (joinR a (gapsR a)) = [] := by
  have f := (join_set fa (gaps_set fa).fit).fit
  refine nil_of (gaps_set f).can fun h n i => ?_
  obtain ⟨⟨x, m, y, z⟩, w⟩ := (gaps_in f h n).mp i
  obtain ⟨_, m', y', z'⟩ := (full_in fa h m).mp z
  exact w ((full_in fa h n).mpr ⟨x, m', by omega, z'⟩)
theorem full_reach (fa : Fit k a) (h : Int) : St.reachR (joinR a (gapsR a)) h = maxL (0 :: lastsOf h a) := by
  have s := join_set fa (gaps_set fa).fit
  obtain ⟨r0, r1, r2⟩ := St.reach_spec s.can (fun h n i => (s.fit.box i).2.2.1) h
  have m0 : 0 ≤ maxL (0 :: lastsOf h a) := maxL_up List.mem_cons_self
  have up : ∀ m, St.In a h m → m ≤ maxL (0 :: lastsOf h a) := fun m ⟨r, hr, x, y, z⟩ => by
    have : r.2.2 ≤ maxL (0 :: lastsOf h a) := maxL_up (List.mem_cons_of_mem _ (List.mem_map.mpr ⟨r, List.mem_filter.mpr ⟨hr, decide_eq_true x⟩, rfl⟩))
    omega
  have at' : maxL (0 :: lastsOf h a) = 0 ∨ St.In a h (maxL (0 :: lastsOf h a)) := by
    rcases List.mem_cons.mp (maxL_mem (ns := 0 :: lastsOf h a) (by simp)) with e | e
    · exact .inl e
    · obtain ⟨r, hr, x⟩ := List.mem_map.mp e
      obtain ⟨hr, y⟩ := List.mem_filter.mp hr
      have y := of_decide_eq_true y
      refine .inr ?_
      rw [← x, ← y]
      exact St.in_row hr (fa.good r hr).ok (Int.le_refl _)
  rcases Int.lt_trichotomy (St.reachR (joinR a (gapsR a)) h) (maxL (0 :: lastsOf h a)) with l | l | l
  · refine absurd ((full_in fa h _).mpr ⟨by omega, maxL (0 :: lastsOf h a), by omega, ?_⟩) r2
    rcases at' with z | z
    · omega
    · exact z
  · exact l
  · obtain ⟨_, m, x, y⟩ := (full_in fa h _).mp (r1 (maxL (0 :: lastsOf h a) + 1) (by omega) (by omega))
    have := up m y
    omega
theorem reach_within (fa : Fit k a) {h : Int} (hp : 0 < St.reachR (merged a) h) : Fit 1 [(h, 1, St.reachR (merged a) h)] ∧ lessR [(h, 1, St.reachR (merged a) h)] a = [] := by
  have s := merged_set fa
  obtain ⟨r0, r1, r2⟩ := St.reach_spec s.can (fun h n i => (s.fit.box i).2.2.1) h
  have b := s.fit.box (r1 _ (by omega) (Int.le_refl _))
  have f : Fit 1 [(h, 1, St.reachR (merged a) h)] := ⟨fun r hr => by
    have : r = (h, 1, St.reachR (merged a) h) := by simpa using hr
    rw [this]
    exact ⟨b.1, b.2.1, Int.le_refl _, b.2.2.1, b.2.2.2⟩, Nat.le_refl _⟩
  refine ⟨f, nil_of (less_set f fa).can fun h' n i => ?_⟩
  obtain ⟨x, y⟩ := (less_in f fa h' n).mp i
  rcases St.in_cons.mp x with ⟨e, x1, x2⟩ | x
  · have e : h = h' := e
    subst e
    exact y ((merged_in fa h n).mp (r1 n x1 x2))
  · exact St.in_nil x
end
end Law

namespace Law
open PySem L2 DL
abbrev endsBody : MS := mSeq (mSet 3 (eCall (noX m_whole_to) (aCons (eCall (noX m_joined) (aCons (eVar 0) (aCons (eVar 1) (aNil)))) (aCons (eVar 2) (aNil))))) (mSeq (mIf (mT (e2 fNe (eVar 3) (eCB fMaxL (oCons (e2 fAdd (eLst (aCons (eC (.int 0)) (aNil))) (eLc (iSeq (eVar 0)) (gN 4) [4] (mT (e2 fEq (e2 fIx (eVar 4) (eC (.int 0))) (eVar 2))) (e2 fIx (eVar 4) (eC (.int 2))))) (oNil))))) (mRet (eC (.bl false))) (mNx)) (mIf (mAnd (mT (e2 fGt (eCall (noX m_whole_to) (aCons (eVar 0) (aCons (eVar 2) (aNil)))) (eC (.int 0)))) (mNot (mT (eCall (noX m_within) (aCons (eLst (aCons (eTup (aCons (eVar 2) (aCons (eC (.int 1)) (aCons (eCall (noX m_whole_to) (aCons (eVar 0) (aCons (eVar 2) (aNil)))) (aNil))))) (aNil))) (aCons (eVar 0) (aNil))))))) (mRet (eC (.bl false))) (mNx)))
theorem fMaxL_ints {ns : List Int} (h : ns.length ≠ 0) : fMaxL [.ob (.lst (ns.map .int))] = some (.sh (.int (maxL ns))) := by
  show ((D.ints (ns.map .int)).bind fun ns => if ns.length = 0 then none else some (Rv.sh (.int (maxL ns)))) = _
  rw [ints_map]
  show (if ns.length = 0 then none else _) = _
  rw [if_neg h]
theorem ends_turn {k : Nat} {a : List Row} {μ : Store} {h : Int} {s3 s4 : Sl} (fa : Fit k a) (hk : k ≤ 40) (h0 : 0 ≤ h) (h8 : h < 8) :
    ∃ t3 t4, endsBody [.sh (rsD a), .sh (rsD (gapsR a)), .sh (.int h), s3, s4] μ = .ok (.nx, [.sh (rsD a), .sh (rsD (gapsR a)), .sh (.int h), t3, t4]) μ := by
  have fg := (gaps_set fa).fit
  have sj := join_set fa fg
  have j1 := joined_m (μ := μ) fa fg (by omega) (by omega)
  have w1 := whole_m (h := h) (μ := μ) sj.fit (by omega) h0 h8
  rw [merged_id sj.can, full_reach fa] at w1
  have al := fa.len
  have ll := lasts_loop h (.sh (rsD a)) (.sh (rsD (gapsR a))) (.sh (.int (maxL (0 :: lastsOf h a)))) a [] μ (by simp only [List.length_nil]; omega)
  simp only [List.map_nil, List.nil_append] at ll
  have lm : fMaxL [.ob (.lst ([D.int 0] ++ (lastsOf h a).map .int))] = _ := fMaxL_ints (ns := 0 :: lastsOf h a) (by simp)
  have len := lasts_len h a
  have w2 := whole_m (h := h) (μ := μ) fa (by omega) h0 h8
  have hadd : fAdd (.ob (.lst [D.int 0])) (.ob (.lst ((lastsOf h a).map .int))) = some (.own (.lst ([D.int 0] ++ (lastsOf h a).map .int))) := by
    rw [fAdd_lst, if_pos]
    rw [List.length_map]
    simp only [List.length_cons, List.length_nil]
    omega
  refine ⟨.sh (.int (maxL (0 :: lastsOf h a))), s4, ?_⟩
  by_cases c : 0 < St.reachR (merged a) h
  · obtain ⟨f1, e1⟩ := reach_within fa c
    have w3 := within_m (μ := μ) f1 fa (by omega) (by omega)
    rw [e1] at w3
    have w3 : m_within [.lst [.tup [.int h, .int 1, .int (St.reachR (merged a) h)]], rsD a] μ = .ok (.sh (.bl true)) μ := w3
    simp only [x_mSeq, x_mSet, x_toD, x_eCall, x_aCons, x_aNil, x_eVar, List.getElem?_cons_zero, List.getElem?_cons_succ, x_eVarR1, bind_ok', x_toD1, of_some, x_noX, j1, noXR_ok, x_op1, x_op2, x_toD2, w1, List.set_cons_succ, List.set_cons_zero, seqR_nx, x_mIf, x_mT, x_e2, x_eCB, x_oCons, x_oNil, x_eLst, x_eC, List.length_cons, List.length_nil, Nat.reduceAdd, x_eLc, x_iSeq, x_items1, x_wipe1, x_wipe2, ll, x_fin2, x_der1, x_der2, x_rd1, Option.map_some, Option.bind_some, hadd, x_derefs1, x_derefs2, lm, x_vw1, fNe_int, x_mTR, x_mNx, x_mAnd, x_mNot, w2, fGt_int, c, decide_true, Bool.not_true, Bool.false_eq_true, if_true, if_false, x_eTup, w3, Nat.reduceLeDiff]
  · simp only [x_mSeq, x_mSet, x_toD, x_eCall, x_aCons, x_aNil, x_eVar, List.getElem?_cons_zero, List.getElem?_cons_succ, x_eVarR1, bind_ok', x_toD1, of_some, x_noX, j1, noXR_ok, x_op1, x_op2, x_toD2, w1, List.set_cons_succ, List.set_cons_zero, seqR_nx, x_mIf, x_mT, x_e2, x_eCB, x_oCons, x_oNil, x_eLst, x_eC, List.length_cons, List.length_nil, Nat.reduceAdd, x_eLc, x_iSeq, x_items1, x_wipe1, x_wipe2, ll, x_fin2, x_der1, x_der2, x_rd1, Option.map_some, Option.bind_some, hadd, x_derefs1, x_derefs2, lm, x_vw1, fNe_int, x_mTR, x_mNx, x_mAnd, x_mNot, w2, fGt_int, c, decide_true, decide_false, Bool.not_true, Bool.false_eq_true, if_true, if_false, Nat.reduceLeDiff]
theorem ends_loop {k : Nat} {a : List Row} {μ : Store} (fa : Fit k a) (hk : k ≤ 40) : ∀ (hs : List Int) (s2 s3 s4 : Sl), (∀ h ∈ hs, 0 ≤ h ∧ h < 8) →
    ∃ t2 t3 t4, forL (gN 2) endsBody (hs.map .int) [.sh (rsD a), .sh (rsD (gapsR a)), s2, s3, s4] μ = .ok (.nx, [.sh (rsD a), .sh (rsD (gapsR a)), t2, t3, t4]) μ
  | [], s2, s3, s4, _ => ⟨s2, s3, s4, rfl⟩
  | h :: hs, s2, s3, s4, hh => by
    obtain ⟨b0, b8⟩ := hh h List.mem_cons_self
    obtain ⟨t3, t4, e⟩ := ends_turn (μ := μ) (s3 := s3) (s4 := s4) fa hk b0 b8
    obtain ⟨u2, u3, u4, ih⟩ := ends_loop fa hk hs (.sh (.int h)) t3 t4 fun q hq => hh q (List.mem_cons_of_mem _ hq)
    refine ⟨u2, u3, u4, ?_⟩
    rw [← ih, List.map_cons, forL]
    simp only [x_gN, List.set_cons_succ, List.set_cons_zero, e, loopR_nx]
theorem ends_m {k : Nat} {a : List Row} {μ : Store} (fa : Fit k a) (hk : k ≤ 40) : m__law_ends [rsD a] μ = .ok (.sh (.bl true)) μ := by
  have fg := (gaps_set fa).fit
  have sj := join_set fa fg
  have g1 := gaps_m (μ := μ) fa (by omega)
  have c1 := common_m (μ := μ) fg fa (by omega) (by omega)
  rw [lack_common fa hk] at c1
  have j1 := joined_m (μ := μ) fa fg (by omega) (by omega)
  have g2 := gaps_m (μ := μ) sj.fit (by omega)
  rw [full_gaps fa] at g2
  have r8 : rangeD 0 8 = some (([0, 1, 2, 3, 4, 5, 6, 7] : List Int).map .int) := rfl
  obtain ⟨t2, t3, t4, h⟩ := ends_loop (μ := μ) fa hk [0, 1, 2, 3, 4, 5, 6, 7] .no .no .no fun h hh => by
    simp only [List.mem_cons, List.not_mem_nil, or_false] at hh
    omega
  have e : m__law_ends = runB 5 1 (mSeq (mSet 1 (eCall (noX m_gaps) (aCons (eVar 0) (aNil)))) (mSeq (mIf (mOr (mT (e2 fNe (eCall (noX m_common) (aCons (eVar 1) (aCons (eVar 0) (aNil)))) (eLst (aNil)))) (mT (e2 fNe (eCall (noX m_gaps) (aCons (eCall (noX m_joined) (aCons (eVar 0) (aCons (eVar 1) (aNil)))) (aNil))) (eLst (aNil))))) (mRet (eC (.bl false))) (mNx)) (mSeq (mFor (iRange1 (eC (.int 8))) (gN 2) endsBody) (mRet (eC (.bl true)))))) := rfl
  rw [e]
  have ne : fNe (.ob (.lst ([] : List D))) (.ob (.lst [])) = some (.sh (.bl false)) := fNe_rows_nil []
  simp only [x_runB, x_startE, List.length_cons, List.length_nil, List.replicate, List.map_cons, List.map_nil, List.cons_append, List.nil_append, Nat.reduceAdd, Nat.reduceSub, if_true, x_mSeq, x_mSet, x_toD, x_eCall, x_aCons, x_aNil, x_eVar, List.getElem?_cons_zero, List.getElem?_cons_succ, x_eVarR1, bind_ok', x_toD1, of_some, x_noX, g1, noXR_ok, x_op1, x_op2, x_toD2, List.set_cons_succ, List.set_cons_zero, seqR_nx, x_mIf, x_mOr, x_mT, x_e2, c1, x_eLst, Nat.zero_le, x_fin2, x_der2, x_rd1, Option.map_some, Option.bind_some, ne, x_mTR, Bool.false_eq_true, if_false, j1, g2, x_mNx, x_mFor, x_iRange1, x_eC, x_range1R, r8, h, x_mRet, x_opRv1, x_retR, endR_rt]
  simp only [List.map_cons, List.map_nil] at h
  rw [h]
  rfl
end Law

namespace Law
open PySem L2 DL
def lawTail : MS := mSeq (mSet 6 (eCall (noX m_common) (aCons (eVar 3) (aCons (eVar 4) (aNil))))) (mSeq (mSet 7 (eCall (noX m_joined) (aCons (eVar 3) (aCons (eVar 4) (aNil))))) (mSeq (mIf (mOr (mT (e2 fNe (eVar 7) (eCall (noX m_joined) (aCons (eVar 4) (aCons (eVar 3) (aNil)))))) (mOr (mT (e2 fNe (eVar 6) (eCall (noX m_common) (aCons (eVar 4) (aCons (eVar 3) (aNil)))))) (mOr (mT (e2 fNe (eCall (noX m_plain) (aCons (eVar 7) (aNil))) (eVar 7))) (mT (e2 fNe (eCall (noX m_plain) (aCons (eVar 6) (aNil))) (eVar 6)))))) (mRet (eC (.bl false))) (mNx)) (mSeq (mIf (mT (e2 fNe (eCall (noX m_joined) (aCons (eCall (noX m_joined) (aCons (eVar 3) (aCons (eVar 4) (aNil)))) (aCons (eVar 5) (aNil)))) (eCall (noX m_joined) (aCons (eVar 3) (aCons (eCall (noX m_joined) (aCons (eVar 4) (aCons (eVar 5) (aNil)))) (aNil)))))) (mRet (eC (.bl false))) (mNx)) (mSeq (mIf (mT (e2 fNe (eCall (noX m_common) (aCons (eVar 3) (aCons (eCall (noX m_joined) (aCons (eVar 4) (aCons (eVar 5) (aNil)))) (aNil)))) (eCall (noX m_joined) (aCons (eVar 6) (aCons (eCall (noX m_common) (aCons (eVar 3) (aCons (eVar 5) (aNil)))) (aNil)))))) (mRet (eC (.bl false))) (mNx)) (mSeq (mIf (mOr (mT (e2 fNe (eCall (noX m_joined) (aCons (eCall (noX m_less) (aCons (eVar 3) (aCons (eVar 4) (aNil)))) (aCons (eVar 6) (aNil)))) (eCall (noX m_plain) (aCons (eVar 3) (aNil))))) (mT (e2 fNe (eCall (noX m_common) (aCons (eCall (noX m_less) (aCons (eVar 3) (aCons (eVar 4) (aNil)))) (aCons (eVar 4) (aNil)))) (eLst (aNil))))) (mRet (eC (.bl false))) (mNx)) (mSeq (mIf (mOr (mT (e2 fNe (eCall (noX m_less) (aCons (eVar 3) (aCons (eCall (noX m_joined) (aCons (eVar 4) (aCons (eVar 5) (aNil)))) (aNil)))) (eCall (noX m_less) (aCons (eCall (noX m_less) (aCons (eVar 3) (aCons (eVar 4) (aNil)))) (aCons (eVar 5) (aNil)))))) (mT (e2 fNe (eCall (noX m_less) (aCons (eVar 3) (aCons (eCall (noX m_less) (aCons (eVar 3) (aCons (eVar 4) (aNil)))) (aNil)))) (eVar 6)))) (mRet (eC (.bl false))) (mNx)) (mSeq (mIf (mT (e2 fNe (e2 fAdd (eCall (noX m_amount) (aCons (eVar 3) (aNil))) (eCall (noX m_amount) (aCons (eVar 4) (aNil)))) (e2 fAdd (eCall (noX m_amount) (aCons (eVar 7) (aNil))) (eCall (noX m_amount) (aCons (eVar 6) (aNil)))))) (mRet (eC (.bl false))) (mNx)) (mSeq (mIf (mT (e2 fNe (eCall (noX m_amount) (aCons (eCall (noX m_less) (aCons (eVar 3) (aCons (eVar 4) (aNil)))) (aNil))) (e2 fSub (eCall (noX m_amount) (aCons (eVar 3) (aNil))) (eCall (noX m_amount) (aCons (eVar 6) (aNil)))))) (mRet (eC (.bl false))) (mNx)) (mSeq (mIf (mOr (mNot (mT (eCall (noX m_within) (aCons (eVar 6) (aCons (eVar 3) (aNil)))))) (mOr (mNot (mT (eCall (noX m_within) (aCons (eVar 3) (aCons (eVar 7) (aNil)))))) (mT (e2 fNe (eCall (noX m_within) (aCons (eVar 3) (aCons (eVar 4) (aNil)))) (e2 fEq (eCall (noX m_less) (aCons (eVar 3) (aCons (eVar 4) (aNil)))) (eLst (aNil))))))) (mRet (eC (.bl false))) (mNx)) (mSeq (mSet 8 (eLst (aCons (eVar 3) (aCons (eVar 4) (aCons (eVar 5) (aNil)))))) (mSeq (mIf (mOr (mT (e2 fNe (eCall (noX m_by_many) (aCons (eVar 8) (aCons (eC (.int 1)) (aNil)))) (eCall (noX m_joined) (aCons (eVar 7) (aCons (eVar 5) (aNil)))))) (mT (e2 fNe (eCall (noX m_by_many) (aCons (eVar 8) (aCons (eC (.int 3)) (aNil)))) (eCall (noX m_common) (aCons (eVar 6) (aCons (eVar 5) (aNil))))))) (mRet (eC (.bl false))) (mNx)) (mSeq (mSet 9 (eCall (noX m_joined) (aCons (eCall (noX m_joined) (aCons (eVar 6) (aCons (eCall (noX m_common) (aCons (eVar 3) (aCons (eVar 5) (aNil)))) (aNil)))) (aCons (eCall (noX m_common) (aCons (eVar 4) (aCons (eVar 5) (aNil)))) (aNil))))) (mRet (eB (mAnd (mT (e2 fEq (eCall (noX m_by_many) (aCons (eVar 8) (aCons (eC (.int 2)) (aNil)))) (eVar 9))) (mT (eCall (noX m__law_ends) (aCons (eVar 3) (aNil)))))))))))))))))))
theorem set_ext {k l : Nat} {x y : List Row} (sx : Set k x) (sy : Set l y) (h : ∀ a n, St.In x a n ↔ St.In y a n) : x = y := St.canon_ext sx.can sy.can h
theorem set_nil {k : Nat} {x : List Row} (sx : Set k x) (h : ∀ a n, ¬ St.In x a n) : x = [] := nil_of sx.can h
theorem cnt_cntR (x : List Row) : cnt x = St.cntR x := rfl
theorem cnt_eq {k : Nat} {x : List Row} (s : Set k x) : cnt x = St.total (St.one x) 8 1000000000001 := by
  rw [cnt_cntR]
  exact St.cnt_total s.can fun h n i => by
    have := s.fit.box i
    omega
theorem law_core {a b c : List Row} {s0 s1 s2 : Sl} {μ : Store} (fa : Fit 20 a) (fb : Fit 20 b) (fc : Fit 20 c) :
    endR (lawTail [s0, s1, s2, .sh (rsD a), .sh (rsD b), .sh (rsD c), .no, .no, .no, .no] μ) = .ok (.sh (.bl true)) μ := by
  have sj := join_set fa fb
  have sb := both_set fa fb
  have sl := less_set fa fb
  have sjc := join_set fb fc
  have sac := both_set fa fc
  have sbc := both_set fb fc
  have ij := join_in fa fb
  have ib := both_in fa fb
  have il := less_in fa fb
  have e1 : joinR b a = joinR a b := set_ext (join_set fb fa) sj fun h n => by rw [join_in fb fa, ij]; exact or_comm
  have e2 : bothR b a = bothR a b := set_ext (both_set fb fa) sb fun h n => by rw [both_in fb fa, ib]; exact and_comm
  have e3 : merged (joinR a b) = joinR a b := merged_id sj.can
  have e4 : merged (bothR a b) = bothR a b := merged_id sb.can
  have e5 : joinR a (joinR b c) = joinR (joinR a b) c := set_ext (join_set fa sjc.fit) (join_set sj.fit fc) fun h n => by rw [join_in fa sjc.fit, join_in sj.fit fc, ij, join_in fb fc]; exact or_assoc.symm
  have e6 : joinR (bothR a b) (bothR a c) = bothR a (joinR b c) := set_ext (join_set sb.fit sac.fit) (both_set fa sjc.fit) fun h n => by rw [join_in sb.fit sac.fit, both_in fa sjc.fit, ib, both_in fa fc, join_in fb fc]; exact and_or_left.symm
  have e7 : joinR (lessR a b) (bothR a b) = merged a := set_ext (join_set sl.fit sb.fit) (merged_set fa) fun h n => by
    rw [join_in sl.fit sb.fit, il, ib, merged_in fa]
    by_cases q : St.In b h n <;> simp [q]
  have e8 : bothR (lessR a b) b = [] := set_nil (both_set sl.fit fb) fun h n => by
    rw [both_in sl.fit fb, il]
    exact fun ⟨⟨_, x⟩, y⟩ => x y
  have e9 : lessR (lessR a b) c = lessR a (joinR b c) := set_ext (less_set sl.fit fc) (less_set fa sjc.fit) fun h n => by
    rw [less_in sl.fit fc, less_in fa sjc.fit, il, join_in fb fc]
    simp only [not_or, and_assoc]
  have e10 : lessR a (lessR a b) = bothR a b := set_ext (less_set fa sl.fit) sb fun h n => by
    rw [less_in fa sl.fit, il, ib]
    by_cases p : St.In a h n <;> by_cases q : St.In b h n <;> simp [p, q]
  have e11 : cnt (merged a) + cnt (merged b) = cnt (joinR a b) + cnt (bothR a b) := by
    rw [cnt_eq (merged_set fa), cnt_eq (merged_set fb), cnt_eq sj, cnt_eq sb, ← St.total_add, ← St.total_add]
    exact St.total_congr fun h n => St.one_or (by rw [ij, merged_in fa, merged_in fb]) (by rw [ib, merged_in fa, merged_in fb])
  have e12 : cnt (lessR a b) = cnt (merged a) - cnt (bothR a b) := by
    have : cnt (lessR a b) + cnt (bothR a b) = cnt (merged a) := by
      rw [cnt_eq (merged_set fa), cnt_eq sl, cnt_eq sb, ← St.total_add]
      exact St.total_congr fun h n => St.one_less (y := merged b) (by rw [il, merged_in fa, merged_in fb]) (by rw [ib, merged_in fa, merged_in fb])
    omega
  have e13 : lessR (bothR a b) a = [] := set_nil (less_set sb.fit fa) fun h n => by
    rw [less_in sb.fit fa, ib]
    exact fun ⟨⟨x, _⟩, y⟩ => y x
  have e14 : lessR a (joinR a b) = [] := set_nil (less_set fa sj.fit) fun h n => by
    rw [less_in fa sj.fit, ij]
    exact fun ⟨x, y⟩ => y (.inl x)
  have ms : ∀ s ∈ [a, b, c].map merged, Set 20 s := fun s hs => by
    simp only [List.map_cons, List.map_nil, List.mem_cons, List.not_mem_nil, or_false] at hs
    rcases hs with rfl | rfl | rfl
    · exact merged_set fa
    · exact merged_set fb
    · exact merged_set fc
  have h1 := held_spec (least := 1) ms (by omega)
  have h2 := held_spec (least := 2) ms (by omega)
  have h3 := held_spec (least := 3) ms (by omega)
  have e15 : heldR ([a, b, c].map merged) 1 = joinR (joinR a b) c := St.canon_ext h1.1 (join_set sj.fit fc).can fun h n => by
    rw [h1.2, join_in sj.fit fc, ij]
    simp only [List.map_cons, List.map_nil]
    rw [St.many3_1, merged_in fa, merged_in fb, merged_in fc]
    exact or_assoc.symm
  have e16 : heldR ([a, b, c].map merged) 3 = bothR (bothR a b) c := St.canon_ext h3.1 (both_set sb.fit fc).can fun h n => by
    rw [h3.2, both_in sb.fit fc, ib]
    simp only [List.map_cons, List.map_nil]
    rw [St.many3_3, merged_in fa, merged_in fb, merged_in fc]
    exact and_assoc.symm
  have sp := join_set (join_set sb.fit sac.fit).fit sbc.fit
  have e17 : heldR ([a, b, c].map merged) 2 = joinR (joinR (bothR a b) (bothR a c)) (bothR b c) := St.canon_ext h2.1 sp.can fun h n => by
    rw [h2.2, join_in (join_set sb.fit sac.fit).fit sbc.fit, join_in sb.fit sac.fit, ib, both_in fa fc, both_in fb fc]
    simp only [List.map_cons, List.map_nil]
    rw [St.many3_2, merged_in fa, merged_in fb, merged_in fc]
    exact or_assoc.symm
  have fs : ∀ s ∈ [a, b, c], Fit 20 s := fun s hs => by
    simp only [List.mem_cons, List.not_mem_nil, or_false] at hs
    rcases hs with rfl | rfl | rfl <;> assumption
  have b1 := by_many_m (μ := μ) (least := 1) (by omega) fs (by simp) (by omega) (by simp)
  have b2 := by_many_m (μ := μ) (least := 2) (by omega) fs (by simp) (by omega) (by simp)
  have b3 := by_many_m (μ := μ) (least := 3) (by omega) fs (by simp) (by omega) (by simp)
  rw [e15] at b1
  rw [e16] at b3
  rw [e17] at b2
  simp only [List.map_cons, List.map_nil] at b1 b2 b3
  have q1 := joined_m (μ := μ) fa fb (by omega) (by omega)
  have q2 := joined_m (μ := μ) fb fa (by omega) (by omega)
  have q3 := common_m (μ := μ) fa fb (by omega) (by omega)
  have q4 := common_m (μ := μ) fb fa (by omega) (by omega)
  have q5 := plain_m (μ := μ) sj.fit (by omega)
  have q6 := plain_m (μ := μ) sb.fit (by omega)
  have q7 := joined_m (μ := μ) sj.fit fc (by omega) (by omega)
  have q8 := joined_m (μ := μ) fb fc (by omega) (by omega)
  have q9 := joined_m (μ := μ) fa sjc.fit (by omega) (by omega)
  have q10 := common_m (μ := μ) fa sjc.fit (by omega) (by omega)
  have q11 := common_m (μ := μ) fa fc (by omega) (by omega)
  have q12 := joined_m (μ := μ) sb.fit sac.fit (by omega) (by omega)
  have q13 := less_m (μ := μ) fa fb (by omega) (by omega)
  have q14 := joined_m (μ := μ) sl.fit sb.fit (by omega) (by omega)
  have q15 := plain_m (μ := μ) fa (by omega)
  have q16 := common_m (μ := μ) sl.fit fb (by omega) (by omega)
  have q17 := less_m (μ := μ) fa sjc.fit (by omega) (by omega)
  have q18 := less_m (μ := μ) sl.fit fc (by omega) (by omega)
  have q19 := less_m (μ := μ) fa sl.fit (by omega) (by omega)
  have q20 := amount_m (μ := μ) fa (by omega)
  have q21 := amount_m (μ := μ) fb (by omega)
  have q22 := amount_m (μ := μ) sj.fit (by omega)
  have q23 := amount_m (μ := μ) sb.fit (by omega)
  have q24 := amount_m (μ := μ) sl.fit (by omega)
  have q25 := within_m (μ := μ) sb.fit fa (by omega) (by omega)
  have q26 := within_m (μ := μ) fa sj.fit (by omega) (by omega)
  have q27 := within_m (μ := μ) fa fb (by omega) (by omega)
  have q28 := common_m (μ := μ) sb.fit fc (by omega) (by omega)
  have q29 := common_m (μ := μ) fb fc (by omega) (by omega)
  have q30 := joined_m (μ := μ) (join_set sb.fit sac.fit).fit sbc.fit (by omega) (by omega)
  have q31 := ends_m (μ := μ) fa (by omega)
  rw [merged_id sj.can] at q22
  rw [merged_id sb.can] at q23
  rw [merged_id sl.can] at q24
  rw [e1] at q2
  rw [e2] at q4
  rw [e3] at q5
  rw [e4] at q6
  rw [e5] at q9
  rw [e6] at q12 q30
  rw [e7] at q14
  rw [e8] at q16
  rw [e9] at q18
  rw [e10] at q19
  rw [e12] at q24
  rw [e13] at q25
  rw [e14] at q26
  have ne : fNe (.ob (.lst ([] : List D))) (.ob (.lst [])) = some (.sh (.bl false)) := fNe_rows_nil []
  have nb : ∀ x y : Bool, fNe (.d (.bl x)) (.d (.bl y)) = some (.sh (.bl (!decide (x = y)))) := by intro x y; cases x <;> cases y <;> rfl
  rw [e6] at b2
  unfold lawTail
  simp -implicitDefEqProofs [q1, q2, q3, q4, q5, q6, q7, q8, q9, q10, q11, q12, q13, q14, q15, q16, q17, q18, q19, q20, q21, q22, q23, q24, q25, q26, q27, q28, q29, q30, q31, b1, b2, b3, fNe_rows, fEq_rows, fEq_rows_nil, ne, nb, e11]
end Law

namespace Law
open PySem L2 DL
theorem law_true (ns : List Int) (hl : ns.length ≤ 63) : ∃ μ, m_law [.scr ns] [] = .ok (.sh (.bl true)) μ := by
  obtain ⟨m, hd⟩ := dice_m (ns := ns) (μ := [])
  obtain ⟨v, p1, m1, e1, n1, a1, z1, c1⟩ := next_m (ns := ns) (p := 0) (m := m) (e := 0) (n := 3) (μ := []) (by omega) (by omega) (by omega)
  obtain ⟨d, hx, hy⟩ := fIx_3 (a := .int 20) (b := .int 1000000) (c := .int 1000000000000) a1 z1
  obtain ⟨far, rfl, f1, f2⟩ : ∃ w : Int, d = .int w ∧ 1 ≤ w ∧ w ≤ 1000000000000 := by
    rcases hy with rfl | rfl | rfl <;> exact ⟨_, rfl, by omega, by omega⟩
  obtain ⟨a, p2, m2, z2, n2, fa, c2⟩ := rows_m (ns := ns) (m := m1) (e := e1) (hs := 8) (most := 20) (μ := []) c1 f1 f2 (by omega) (by omega) (by omega) (by omega)
  obtain ⟨b, p3, m3, e3, n3, fb, c3⟩ := rows_m (ns := ns) (m := m2) (e := z2) (hs := 8) (most := 20) (μ := []) c2 f1 f2 (by omega) (by omega) (by omega) (by omega)
  obtain ⟨c, p4, m4, e4, n4, fc, c4⟩ := rows_m (ns := ns) (m := m3) (e := e3) (hs := 8) (most := 20) (μ := []) c3 f1 f2 (by omega) (by omega) (by omega) (by omega)
  have h := law_core (s0 := .sh (.scr ns)) (s1 := .sh (.loc 0)) (s2 := .sh (.int far)) (μ := [diceOb ns p4 m4 e4]) fa fb fc
  refine ⟨[diceOb ns p4 m4 e4], ?_⟩
  rw [← h]
  have el : ∀ (m : ME) (ρ : Ev) (μ : Store) (ob : Ob) (μ1 : Store), m ρ μ = .ok (.own ob) μ1 → eLoc m ρ μ = .ok (.sh (.loc μ1.length)) (μ1 ++ [ob]) := fun m ρ μ ob μ1 h => by
    unfold eLoc
    rw [h]
    rfl
  have e0 : eLoc (eCall (noX m__law_dice) (aCons (eVar 0) aNil)) [.sh (.scr ns), .no, .no, .no, .no, .no, .no, .no, .no, .no] [] = .ok (.sh (.loc 0)) [diceOb ns 0 m 0] := el _ _ _ (diceOb ns 0 m 0) [] (by simp [hd])
  have em : m_law = runB 10 1 (mSeq (mSet 1 (eLoc (eCall (noX m__law_dice) (aCons (eVar 0) (aNil))))) (mSeq (mSet 2 (e2 fIx (eLst (aCons (eC (.int 20)) (aCons (e2 fPow (eC (.int 10)) (eC (.int 6))) (aCons (e2 fPow (eC (.int 10)) (eC (.int 12))) (aNil))))) (eCall (noX m__law_next) (aCons (eVar 1) (aCons (eC (.int 3)) (aNil)))))) (mSeq (mPar [3, 4, 5] (aCons (eCall (noX m__law_rows) (aCons (eVar 1) (aCons (eC (.int 8)) (aCons (eVar 2) (aCons (eC (.int 20)) (aNil)))))) (aCons (eCall (noX m__law_rows) (aCons (eVar 1) (aCons (eC (.int 8)) (aCons (eVar 2) (aCons (eC (.int 20)) (aNil)))))) (aCons (eCall (noX m__law_rows) (aCons (eVar 1) (aCons (eC (.int 8)) (aCons (eVar 2) (aCons (eC (.int 20)) (aNil)))))) (aNil))))) lawTail))) := rfl
  rw [em]
  rw [x_runB, if_pos (show [D.scr ns].length = 1 from rfl)]
  simp -implicitDefEqProofs only [x_startE, List.length_cons, List.length_nil, List.replicate, List.map_cons, List.map_nil, List.cons_append, List.nil_append, Nat.reduceAdd, Nat.reduceSub]
  simp -implicitDefEqProofs only [x_mSeq, x_mSet, x_toD, e0, bind_ok', x_toD1, of_some, List.set_cons_succ, List.set_cons_zero, seqR_nx]
  simp -implicitDefEqProofs only [x_e2, x_eLst, x_aCons, x_aNil, x_toD, x_eC, bind_ok', x_toD1, of_some, x_fin2, x_der1, x_vw1, Option.bind_some, fPow_6, fPow_12, Option.map_some, x_op1, List.length_cons, List.length_nil, Nat.reduceAdd, Nat.reduceLeDiff, if_true, x_eCall, x_eVar, List.getElem?_cons_zero, List.getElem?_cons_succ, x_eVarR1, x_noX, n1, noXR_ok, x_der2, x_rd1, hx, List.set_cons_succ, List.set_cons_zero, seqR_nx]
  have z : mPar [3, 4, 5] (aCons (eCall (noX m__law_rows) (aCons (eVar 1) (aCons (eC (.int 8)) (aCons (eVar 2) (aCons (eC (.int 20)) (aNil)))))) (aCons (eCall (noX m__law_rows) (aCons (eVar 1) (aCons (eC (.int 8)) (aCons (eVar 2) (aCons (eC (.int 20)) (aNil)))))) (aCons (eCall (noX m__law_rows) (aCons (eVar 1) (aCons (eC (.int 8)) (aCons (eVar 2) (aCons (eC (.int 20)) (aNil)))))) (aNil)))) [.sh (.scr ns), .sh (.loc 0), .sh (.int far), .no, .no, .no, .no, .no, .no, .no] [diceOb ns p1 m1 e1] = .ok (.nx, [.sh (.scr ns), .sh (.loc 0), .sh (.int far), .sh (rsD a), .sh (rsD b), .sh (rsD c), .no, .no, .no, .no]) [diceOb ns p4 m4 e4] := by
    simp -implicitDefEqProofs only [x_mPar, x_aCons, x_aNil, x_toD, x_eC, bind_ok', x_toD1, x_toD2, of_some, x_eCall, x_eVar, List.getElem?_cons_zero, List.getElem?_cons_succ, x_eVarR1, x_noX, n2, n3, n4, noXR_ok, x_op2, List.length_cons, List.length_nil, Nat.reduceAdd, if_true, x_setsE1, x_setsE2, List.set_cons_succ, List.set_cons_zero]
  rw [x_mSeq, z, seqR_nx]
end Law

namespace Law
open PySem PySem.Spec PyProof.Rows L2 DL
def dd_is_row : He.DefD := ⟨("is_row", none), "is_row", "is_row", defArgs s_is_row, defBody s_is_row, defScope s_is_row, [], []⟩
def dd_need_rows : He.DefD := ⟨("need_rows", none), "need_rows", "need_rows", defArgs s_need_rows, defBody s_need_rows, defScope s_need_rows, [], []⟩
def dd_need_house : He.DefD := ⟨("need_house", none), "need_house", "need_house", defArgs s_need_house, defBody s_need_house, defScope s_need_house, [], []⟩
def dd_merged : He.DefD := ⟨("merged", none), "merged", "merged", defArgs s_merged, defBody s_merged, defScope s_merged, [], []⟩
def dd_cut_out : He.DefD := ⟨("cut_out", none), "cut_out", "cut_out", defArgs s_cut_out, defBody s_cut_out, defScope s_cut_out, [], []⟩
def dd_in_both : He.DefD := ⟨("in_both", none), "in_both", "in_both", defArgs s_in_both, defBody s_in_both, defScope s_in_both, [], []⟩
def dd_count_of : He.DefD := ⟨("count_of", none), "count_of", "count_of", defArgs s_count_of, defBody s_count_of, defScope s_count_of, [], []⟩
def dd_turns_of : He.DefD := ⟨("turns_of", none), "turns_of", "turns_of", defArgs s_turns_of, defBody s_turns_of, defScope s_turns_of, [], []⟩
def dd_held_by : He.DefD := ⟨("held_by", none), "held_by", "held_by", defArgs s_held_by, defBody s_held_by, defScope s_held_by, [], []⟩
def dd_plain : He.DefD := ⟨("plain", none), "plain", "plain", defArgs s_plain, defBody s_plain, defScope s_plain, [], []⟩
def dd_joined : He.DefD := ⟨("joined", none), "joined", "joined", defArgs s_joined, defBody s_joined, defScope s_joined, [], []⟩
def dd_common : He.DefD := ⟨("common", none), "common", "common", defArgs s_common, defBody s_common, defScope s_common, [], []⟩
def dd_less : He.DefD := ⟨("less", none), "less", "less", defArgs s_less, defBody s_less, defScope s_less, [], []⟩
def dd_within : He.DefD := ⟨("within", none), "within", "within", defArgs s_within, defBody s_within, defScope s_within, [], []⟩
def dd_amount : He.DefD := ⟨("amount", none), "amount", "amount", defArgs s_amount, defBody s_amount, defScope s_amount, [], []⟩
def dd_by_many : He.DefD := ⟨("by_many", none), "by_many", "by_many", defArgs s_by_many, defBody s_by_many, defScope s_by_many, [], []⟩
def dd_reach : He.DefD := ⟨("reach", none), "reach", "reach", defArgs s_reach, defBody s_reach, defScope s_reach, [], []⟩
def dd_whole_to : He.DefD := ⟨("whole_to", none), "whole_to", "whole_to", defArgs s_whole_to, defBody s_whole_to, defScope s_whole_to, [], []⟩
def dd_gaps : He.DefD := ⟨("gaps", none), "gaps", "gaps", defArgs s_gaps, defBody s_gaps, defScope s_gaps, [], []⟩
def dd__law_dice : He.DefD := ⟨("_law_dice", none), "_law_dice", "_law_dice", defArgs s__law_dice, defBody s__law_dice, defScope s__law_dice, [], []⟩
def dd__law_next : He.DefD := ⟨("_law_next", none), "_law_next", "_law_next", defArgs s__law_next, defBody s__law_next, defScope s__law_next, [], []⟩
def dd__law_rows : He.DefD := ⟨("_law_rows", none), "_law_rows", "_law_rows", defArgs s__law_rows, defBody s__law_rows, defScope s__law_rows, [], []⟩
def dd__law_ends : He.DefD := ⟨("_law_ends", none), "_law_ends", "_law_ends", defArgs s__law_ends, defBody s__law_ends, defScope s__law_ends, [], []⟩
def dd_law : He.DefD := ⟨("law", none), "law", "law", defArgs s_law, defBody s_law, defScope s_law, [], []⟩
def fn0 : List He.DefD := [dd_is_row, dd_need_rows, dd_need_house, dd_merged, dd_cut_out, dd_in_both, dd_count_of, dd_turns_of, dd_held_by, dd_plain, dd_joined, dd_common, dd_less, dd_within, dd_amount, dd_by_many, dd_reach, dd_whole_to, dd_gaps, dd__law_dice, dd__law_next, dd__law_rows, dd__law_ends, dd_law]
def fn : List He.DefD := fn0
def fa0 : List He.Fa := [.glo "is_row", .glo "need_rows", .glo "need_house", .glo "merged", .glo "cut_out", .glo "in_both", .glo "count_of", .glo "turns_of", .glo "held_by", .glo "plain", .glo "joined", .glo "common", .glo "less", .glo "within", .glo "amount", .glo "by_many", .glo "reach", .glo "whole_to", .glo "gaps", .glo "_law_dice", .glo "_law_next", .glo "_law_rows", .glo "_law_ends", .glo "law", .free "enumerate"]
def fa1 : List He.Fa := [.free "int", .free "len", .free "max", .free "min", .free "range", .free "sorted", .free "sum", .int "MOST_HOUSES" 8, .int "MOST_NUMBER" 1000000000000, .int "MOST_ROWS" 200]
def fa : List He.Fa := fa0 ++ fa1
def loose0 : List Str := ["DoneError", "BadStretches", "NoHouse", "BadCount", "MOST_HOUSES", "MOST_NUMBER", "MOST_ROWS", "is_row", "need_rows", "need_house", "merged", "cut_out", "in_both", "count_of", "turns_of", "held_by", "plain", "joined", "common", "less", "within", "amount", "by_many", "reach", "whole_to", "gaps", "_law_dice", "_law_next", "_law_rows", "_law_ends"]
def loose : List Str := loose0
abbrev R : PySem.W.OpenRow := PySem.W.OpenLaw.row PySem.Challenge.rw_doneranges_k04_whole_rules_of_sets
abbrev hk : PySem.W.Hook := He.hookD 4 fa fn
def ob (s : PySem.W.SharedT) : He.AlD := He.obsDG 4 fa fn (HandSHeadRun.getT s)
theorem ob_eq (s : PySem.W.SharedT) : ob s = hk.obs s.abs := He.obsDG_eq (HandSHeadRun.getT_eq s)
set_option maxHeartbeats 0 in
theorem run (w : World) : HandSHeadRun.RunEq R (PySem.W.view R.prog [33]) hk ob 30000 loose w := by
  intro os
  kernel_rfl
theorem facts {P : Program} {w : World} {K : PySem.W.Frag} {h : Heap} {mg : Str → Option Value} {f : Addr} (X : K.In h) (G : h.Ns mainGlobals mg) (hfa : mg ("law" : Str) = some (.ref f)) (c : He.SaysD fa fn K) :
    ∃ fd : FuncData, (∀ (s : Shared) (v : Value), BindsTo s fd ⟨[v], []⟩ [("_law_script", v)]) ∧ ∀ base : Heap, K.In base → base.Ns mainGlobals mg → FnOk P w K mg base CX0 7 f fd ["_law_script"] (spM K (He.ga K) 1 (noX m_law)) := by
  have gm : Glob mg := {
    enumerate := He.free_ok X G (c.fact 24 (f := .free "enumerate") rfl),
    int := He.free_ok X G (c.fact 25 (f := .free "int") rfl),
    len := He.free_ok X G (c.fact 26 (f := .free "len") rfl),
    max := He.free_ok X G (c.fact 27 (f := .free "max") rfl),
    min := He.free_ok X G (c.fact 28 (f := .free "min") rfl),
    range := He.free_ok X G (c.fact 29 (f := .free "range") rfl),
    sorted := He.free_ok X G (c.fact 30 (f := .free "sorted") rfl),
    sum := He.free_ok X G (c.fact 31 (f := .free "sum") rfl),
    c_MOST_HOUSES := He.int_ok X G (c.fact 32 (f := .int "MOST_HOUSES" 8) rfl),
    c_MOST_NUMBER := He.int_ok X G (c.fact 33 (f := .int "MOST_NUMBER" 1000000000000) rfl),
    c_MOST_ROWS := He.int_ok X G (c.fact 34 (f := .int "MOST_ROWS" 200) rfl) }
  obtain ⟨fd_is_row, F0_is_row⟩ := c.def_ 0 (d := dd_is_row) rfl
  have F_is_row : Fun K "is_row" "is_row" s_is_row (He.ga K "is_row") fd_is_row := He5.fun_of F0_is_row
  have g_is_row : mg "is_row" = some (.ref (He.ga K "is_row")) := He.glo_ok X G (c.fact 0 (f := .glo "is_row") rfl)
  obtain ⟨fd_need_rows, F0_need_rows⟩ := c.def_ 1 (d := dd_need_rows) rfl
  have F_need_rows : Fun K "need_rows" "need_rows" s_need_rows (He.ga K "need_rows") fd_need_rows := He5.fun_of F0_need_rows
  have g_need_rows : mg "need_rows" = some (.ref (He.ga K "need_rows")) := He.glo_ok X G (c.fact 1 (f := .glo "need_rows") rfl)
  obtain ⟨fd_need_house, F0_need_house⟩ := c.def_ 2 (d := dd_need_house) rfl
  have F_need_house : Fun K "need_house" "need_house" s_need_house (He.ga K "need_house") fd_need_house := He5.fun_of F0_need_house
  have g_need_house : mg "need_house" = some (.ref (He.ga K "need_house")) := He.glo_ok X G (c.fact 2 (f := .glo "need_house") rfl)
  obtain ⟨fd_merged, F0_merged⟩ := c.def_ 3 (d := dd_merged) rfl
  have F_merged : Fun K "merged" "merged" s_merged (He.ga K "merged") fd_merged := He5.fun_of F0_merged
  have g_merged : mg "merged" = some (.ref (He.ga K "merged")) := He.glo_ok X G (c.fact 3 (f := .glo "merged") rfl)
  obtain ⟨fd_cut_out, F0_cut_out⟩ := c.def_ 4 (d := dd_cut_out) rfl
  have F_cut_out : Fun K "cut_out" "cut_out" s_cut_out (He.ga K "cut_out") fd_cut_out := He5.fun_of F0_cut_out
  have g_cut_out : mg "cut_out" = some (.ref (He.ga K "cut_out")) := He.glo_ok X G (c.fact 4 (f := .glo "cut_out") rfl)
  obtain ⟨fd_in_both, F0_in_both⟩ := c.def_ 5 (d := dd_in_both) rfl
  have F_in_both : Fun K "in_both" "in_both" s_in_both (He.ga K "in_both") fd_in_both := He5.fun_of F0_in_both
  have g_in_both : mg "in_both" = some (.ref (He.ga K "in_both")) := He.glo_ok X G (c.fact 5 (f := .glo "in_both") rfl)
  obtain ⟨fd_count_of, F0_count_of⟩ := c.def_ 6 (d := dd_count_of) rfl
  have F_count_of : Fun K "count_of" "count_of" s_count_of (He.ga K "count_of") fd_count_of := He5.fun_of F0_count_of
  have g_count_of : mg "count_of" = some (.ref (He.ga K "count_of")) := He.glo_ok X G (c.fact 6 (f := .glo "count_of") rfl)
  obtain ⟨fd_turns_of, F0_turns_of⟩ := c.def_ 7 (d := dd_turns_of) rfl
  have F_turns_of : Fun K "turns_of" "turns_of" s_turns_of (He.ga K "turns_of") fd_turns_of := He5.fun_of F0_turns_of
  have g_turns_of : mg "turns_of" = some (.ref (He.ga K "turns_of")) := He.glo_ok X G (c.fact 7 (f := .glo "turns_of") rfl)
  obtain ⟨fd_held_by, F0_held_by⟩ := c.def_ 8 (d := dd_held_by) rfl
  have F_held_by : Fun K "held_by" "held_by" s_held_by (He.ga K "held_by") fd_held_by := He5.fun_of F0_held_by
  have g_held_by : mg "held_by" = some (.ref (He.ga K "held_by")) := He.glo_ok X G (c.fact 8 (f := .glo "held_by") rfl)
  obtain ⟨fd_plain, F0_plain⟩ := c.def_ 9 (d := dd_plain) rfl
  have F_plain : Fun K "plain" "plain" s_plain (He.ga K "plain") fd_plain := He5.fun_of F0_plain
  have g_plain : mg "plain" = some (.ref (He.ga K "plain")) := He.glo_ok X G (c.fact 9 (f := .glo "plain") rfl)
  obtain ⟨fd_joined, F0_joined⟩ := c.def_ 10 (d := dd_joined) rfl
  have F_joined : Fun K "joined" "joined" s_joined (He.ga K "joined") fd_joined := He5.fun_of F0_joined
  have g_joined : mg "joined" = some (.ref (He.ga K "joined")) := He.glo_ok X G (c.fact 10 (f := .glo "joined") rfl)
  obtain ⟨fd_common, F0_common⟩ := c.def_ 11 (d := dd_common) rfl
  have F_common : Fun K "common" "common" s_common (He.ga K "common") fd_common := He5.fun_of F0_common
  have g_common : mg "common" = some (.ref (He.ga K "common")) := He.glo_ok X G (c.fact 11 (f := .glo "common") rfl)
  obtain ⟨fd_less, F0_less⟩ := c.def_ 12 (d := dd_less) rfl
  have F_less : Fun K "less" "less" s_less (He.ga K "less") fd_less := He5.fun_of F0_less
  have g_less : mg "less" = some (.ref (He.ga K "less")) := He.glo_ok X G (c.fact 12 (f := .glo "less") rfl)
  obtain ⟨fd_within, F0_within⟩ := c.def_ 13 (d := dd_within) rfl
  have F_within : Fun K "within" "within" s_within (He.ga K "within") fd_within := He5.fun_of F0_within
  have g_within : mg "within" = some (.ref (He.ga K "within")) := He.glo_ok X G (c.fact 13 (f := .glo "within") rfl)
  obtain ⟨fd_amount, F0_amount⟩ := c.def_ 14 (d := dd_amount) rfl
  have F_amount : Fun K "amount" "amount" s_amount (He.ga K "amount") fd_amount := He5.fun_of F0_amount
  have g_amount : mg "amount" = some (.ref (He.ga K "amount")) := He.glo_ok X G (c.fact 14 (f := .glo "amount") rfl)
  obtain ⟨fd_by_many, F0_by_many⟩ := c.def_ 15 (d := dd_by_many) rfl
  have F_by_many : Fun K "by_many" "by_many" s_by_many (He.ga K "by_many") fd_by_many := He5.fun_of F0_by_many
  have g_by_many : mg "by_many" = some (.ref (He.ga K "by_many")) := He.glo_ok X G (c.fact 15 (f := .glo "by_many") rfl)
  obtain ⟨fd_reach, F0_reach⟩ := c.def_ 16 (d := dd_reach) rfl
  have F_reach : Fun K "reach" "reach" s_reach (He.ga K "reach") fd_reach := He5.fun_of F0_reach
  have g_reach : mg "reach" = some (.ref (He.ga K "reach")) := He.glo_ok X G (c.fact 16 (f := .glo "reach") rfl)
  obtain ⟨fd_whole_to, F0_whole_to⟩ := c.def_ 17 (d := dd_whole_to) rfl
  have F_whole_to : Fun K "whole_to" "whole_to" s_whole_to (He.ga K "whole_to") fd_whole_to := He5.fun_of F0_whole_to
  have g_whole_to : mg "whole_to" = some (.ref (He.ga K "whole_to")) := He.glo_ok X G (c.fact 17 (f := .glo "whole_to") rfl)
  obtain ⟨fd_gaps, F0_gaps⟩ := c.def_ 18 (d := dd_gaps) rfl
  have F_gaps : Fun K "gaps" "gaps" s_gaps (He.ga K "gaps") fd_gaps := He5.fun_of F0_gaps
  have g_gaps : mg "gaps" = some (.ref (He.ga K "gaps")) := He.glo_ok X G (c.fact 18 (f := .glo "gaps") rfl)
  obtain ⟨fd__law_dice, F0__law_dice⟩ := c.def_ 19 (d := dd__law_dice) rfl
  have F__law_dice : Fun K "_law_dice" "_law_dice" s__law_dice (He.ga K "_law_dice") fd__law_dice := He5.fun_of F0__law_dice
  have g__law_dice : mg "_law_dice" = some (.ref (He.ga K "_law_dice")) := He.glo_ok X G (c.fact 19 (f := .glo "_law_dice") rfl)
  obtain ⟨fd__law_next, F0__law_next⟩ := c.def_ 20 (d := dd__law_next) rfl
  have F__law_next : Fun K "_law_next" "_law_next" s__law_next (He.ga K "_law_next") fd__law_next := He5.fun_of F0__law_next
  have g__law_next : mg "_law_next" = some (.ref (He.ga K "_law_next")) := He.glo_ok X G (c.fact 20 (f := .glo "_law_next") rfl)
  obtain ⟨fd__law_rows, F0__law_rows⟩ := c.def_ 21 (d := dd__law_rows) rfl
  have F__law_rows : Fun K "_law_rows" "_law_rows" s__law_rows (He.ga K "_law_rows") fd__law_rows := He5.fun_of F0__law_rows
  have g__law_rows : mg "_law_rows" = some (.ref (He.ga K "_law_rows")) := He.glo_ok X G (c.fact 21 (f := .glo "_law_rows") rfl)
  obtain ⟨fd__law_ends, F0__law_ends⟩ := c.def_ 22 (d := dd__law_ends) rfl
  have F__law_ends : Fun K "_law_ends" "_law_ends" s__law_ends (He.ga K "_law_ends") fd__law_ends := He5.fun_of F0__law_ends
  have g__law_ends : mg "_law_ends" = some (.ref (He.ga K "_law_ends")) := He.glo_ok X G (c.fact 22 (f := .glo "_law_ends") rfl)
  obtain ⟨fd_law, F0_law⟩ := c.def_ 23 (d := dd_law) rfl
  have F_law : Fun K "law" "law" s_law (He.ga K "law") fd_law := He5.fun_of F0_law
  have g_law : mg "law" = some (.ref (He.ga K "law")) := He.glo_ok X G (c.fact 23 (f := .glo "law") rfl)
  have e := hfa.symm.trans g_law
  cases e
  have bl : ∀ (s : Shared) (v : Value), BindsTo s fd_law ⟨[v], []⟩ [("_law_script", v)] := fun s v => by
    have b := FunD.bindsA (ps := ["_law_script"]) F0_law fun _ _ _ _ _ _ us hl => match us, hl with | [_], _ => rfl
    exact b s [v] rfl
  refine ⟨fd_law, bl, fun base hK hN => ?_⟩
  have d_is_row := ok_is_row (P := P) (w := w) (base := base) (cad := He.ga K) gm  F_is_row g_is_row
  have d_need_rows := ok_need_rows (P := P) (w := w) (base := base) (cad := He.ga K) gm d_is_row F_need_rows g_need_rows
  have d_need_house := ok_need_house (P := P) (w := w) (base := base) (cad := He.ga K) gm  F_need_house g_need_house
  have d_merged := ok_merged (P := P) (w := w) (base := base) (cad := He.ga K) gm  F_merged g_merged
  have d_cut_out := ok_cut_out (P := P) (w := w) (base := base) (cad := He.ga K) gm  F_cut_out g_cut_out
  have d_in_both := ok_in_both (P := P) (w := w) (base := base) (cad := He.ga K) gm  F_in_both g_in_both
  have d_count_of := ok_count_of (P := P) (w := w) (base := base) (cad := He.ga K) gm  F_count_of g_count_of
  have d_turns_of := ok_turns_of (P := P) (w := w) (base := base) (cad := He.ga K) gm  F_turns_of g_turns_of
  have d_held_by := ok_held_by (P := P) (w := w) (base := base) (cad := He.ga K) gm d_merged d_turns_of F_held_by g_held_by
  have d_plain := ok_plain (P := P) (w := w) (base := base) (cad := He.ga K) gm d_merged d_need_rows F_plain g_plain
  have d_joined := ok_joined (P := P) (w := w) (base := base) (cad := He.ga K) gm d_merged d_plain F_joined g_joined
  have d_common := ok_common (P := P) (w := w) (base := base) (cad := He.ga K) gm d_in_both d_plain F_common g_common
  have d_less := ok_less (P := P) (w := w) (base := base) (cad := He.ga K) gm d_cut_out d_plain F_less g_less
  have d_within := ok_within (P := P) (w := w) (base := base) (cad := He.ga K) gm d_less F_within g_within
  have d_amount := ok_amount (P := P) (w := w) (base := base) (cad := He.ga K) gm d_count_of d_plain F_amount g_amount
  have d_by_many := ok_by_many (P := P) (w := w) (base := base) (cad := He.ga K) gm d_held_by d_plain F_by_many g_by_many
  have d_reach := ok_reach (P := P) (w := w) (base := base) (cad := He.ga K) gm  F_reach g_reach
  have d_whole_to := ok_whole_to (P := P) (w := w) (base := base) (cad := He.ga K) gm d_need_house d_plain d_reach F_whole_to g_whole_to
  have d_gaps := ok_gaps (P := P) (w := w) (base := base) (cad := He.ga K) gm d_cut_out d_plain F_gaps g_gaps
  have d__law_dice := ok__law_dice (P := P) (w := w) (base := base) (cad := He.ga K) gm  F__law_dice g__law_dice
  have d__law_next := ok__law_next (P := P) (w := w) (base := base) (cad := He.ga K) gm  F__law_next g__law_next
  have d__law_rows := ok__law_rows (P := P) (w := w) (base := base) (cad := He.ga K) gm d__law_next F__law_rows g__law_rows
  have d__law_ends := ok__law_ends (P := P) (w := w) (base := base) (cad := He.ga K) gm d_common d_gaps d_joined d_whole_to d_within F__law_ends g__law_ends
  exact ok_law_fn (P := P) (w := w) (base := base) (cad := He.ga K) gm d__law_dice d__law_ends d__law_next d__law_rows d_amount d_by_many d_common d_joined d_less d_plain d_within F_law
end Law

open PySem PySem.W PySem.Calls PyProof.Rows
set_option maxHeartbeats 0 in
theorem PySem.Challenge.cw_doneranges_k04_whole_rules_of_sets_holds : PySem.Challenge.rw_doneranges_k04_whole_rules_of_sets.Holds := by
  w_on; o_law
  refine HandSHeadRun.head_any (r := OpenLaw.row PySem.Challenge.rw_doneranges_k04_whole_rules_of_sets) (q := view (OpenLaw.row PySem.Challenge.rw_doneranges_k04_whole_rules_of_sets).prog [33]) (H := Law.hk) (ob := Law.ob) (M := 30000) (loose := Law.loose) (d := HandSHeadRun.topDef (OpenLaw.row PySem.Challenge.rw_doneranges_k04_whole_rules_of_sets).prog 33) (kwd := []) Law.ob_eq
    (by kernel_rfl) (fun s => by kernel_rfl) Law.run (by kernel_rfl) (by kernel_rfl) (by kernel_rfl) (by rfl) (by first | assumption | decide +kernel) (by decide +kernel) ⟨rfl, rfl, rfl, rfl, rfl, by decide +kernel⟩ ?hw ?hc
  case hw => w_witness2
  case hc =>
    refine L2.walk_ofE (l := PySem.Challenge.rw_doneranges_k04_whole_rules_of_sets) (n := 63) (k := 7) (x := "_law_script") (CX := L2.CX0) rfl (by decide) (by kernel_rfl) ⟨rfl, by decide, by decide⟩ ?F (fun _ _ _ _ z => z)
    intro w mg fa h Y G hmg0
    obtain ⟨K, KX, c⟩ := Y
    have hmg : mg ("law" : PySem.Str) = some (.ref fa) := by
      have e : (HandSHeadRun.topDef (OpenLaw.row PySem.Challenge.rw_doneranges_k04_whole_rules_of_sets).prog 33).name = ("law" : PySem.Str) := by kernel_rfl
      rw [← e]
      exact hmg0
    obtain ⟨fd, hb, hF⟩ := Law.facts (P := (PySem.Challenge.rw_doneranges_k04_whole_rules_of_sets).prog) (w := w) KX G hmg c
    exact ⟨K, fd, DL.spM K (He.ga K) 1 (DL.noX Law.m_law), KX, hb, fun H a ns hl _ hS => DL.law_sp hS (Law.law_true ns hl), hF⟩


