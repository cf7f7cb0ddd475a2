import PyProof.Rows.All
import Wide.All
import OpenK.AllK
import Wide.FinOn
import KE.KStateDown
import Lean
import HandS.ForMost
import HandS.ForExc
import HandS.More
import HandS.Defaults
import HandS.Head0
import HandS.Head1
import HandS.Head2
import HandS.HeadEnd
import HandS.HeadHook1
import HandS.HeadHook2
import HandS.HeadNt
import HandS.TupLe
import HandS.TupAny
import HandS.IsInst
import HandS.Deep
import HandS.SortInts
import HandS.Wide
import HandS.Style
import HandS.TupLen
import HandS.SortOrd
import KE.KDictPairs
import KE.KDictCopyH
import KE.KDictSum
import PyProof.Rows.StrDigitsNeg
import HandS.Codes
import PySem.Challenge.RW_doneranges_k05_texts
set_option Elab.async false
set_option linter.all false
set_option maxRecDepth 100000
set_option maxHeartbeats 4000000
/-! ### the head with further checks -/
namespace He
open PySem PySem.Spec PyProof.Rows L2
abbrev Chk : Type := PySem.W.Frag → Bool
def obsQ (fa : List Fa) (fn : List DefD) (ex : List Chk) (K : PySem.W.Frag) : AlD := ((ex.all fun f => f K) && (obsD fa fn K).1, (obsD fa fn K).2)
def SaysQ (fa : List Fa) (fn : List DefD) (ex : List Chk) (K : PySem.W.Frag) : Prop := obsQ fa fn ex K = valD fn
def obsQG (n : Nat) (fa : List Fa) (fn : List DefD) (ex : List Chk) (g : Addr → Option Obj) : AlD := obsQ fa fn ex (frG g (asD g n))
def hookQ (n : Nat) (fa : List Fa) (fn : List DefD) (ex : List Chk) : PySem.W.Hook where
  α := AlD
  obs := fun s => obsQG n fa fn ex s.heap.get?
  val := fun _ => valD fn
  says := fun _ h => ∃ K : PySem.W.Frag, K.In h ∧ SaysQ fa fn ex K
  of := fun _ _ e => ⟨_, frG_in, e⟩
  keeps := fun _ _ _ ⟨K, hK, c⟩ k => ⟨K, PySem.W.Frag.In.keeps hK k, c⟩
theorem obsQG_eq {n : Nat} {fa : List Fa} {fn : List DefD} {ex : List Chk} {g : Addr → Option Obj} {s : Shared} (h : ∀ a, g a = s.heap.get? a) : obsQG n fa fn ex g = (hookQ n fa fn ex).obs s := by
  have e : g = s.heap.get? := funext h
  rw [e] <;> rfl
section
variable {fa : List Fa} {fn : List DefD} {ex : List Chk} {K : PySem.W.Frag}
theorem SaysQ.d (c : SaysQ fa fn ex K) : SaysD fa fn K := by
  have c1 := (ba (show ((ex.all fun f => f K) && (obsD fa fn K).1) = true from congrArg (fun z : AlD => z.1) c)).2
  have c2 : (obsQ fa fn ex K).2 = (valD fn).2 := congrArg (fun z : AlD => z.2) c
  exact Prod.ext c1 c2
theorem SaysQ.chk (c : SaysQ fa fn ex K) (i : Nat) {f : Chk} (h : ex[i]? = some f := by rfl) : f K = true := by
  have c1 := (ba (show ((ex.all fun f => f K) && (obsD fa fn K).1) = true from congrArg (fun z : AlD => z.1) c)).1
  exact List.all_eq_true.mp c1 f (List.mem_of_getElem? h)
end
end He

/-! DL: plain data over the hand layer: what a def computes as a function over data (D), with a small store for things that change. -/
namespace DL
open PySem PySem.Spec PyProof.Rows L2

/-- data: loc n is the n-th thing of the store; all others never change -/
inductive D where
  | non | bl (b : Bool) | int (i : Int) | str (s : Str)
  | tup (xs : List D) | lst (xs : List D)
  | dK (ks : List Key) (vs : List D) | dT (ks : List (List Key)) (vs : List D)
  | ins (c : Str) (ns : List Str) (vs : List D)
  | loc (n : Nat)
  /-- the script itself -/
  | scr (ns : List Int)
/-- what a thing that changes holds -/
inductive Ob where
  | lst (xs : List D) | dK (kvs : List (Key × D)) | dT (kvs : List (List Key × D)) | ins (c : Str) (fs : List (Str × D))
  | lkK (kvs : List (Key × D)) | lkT (kvs : List (List Key × D)) | dead
/-- a slot: nothing, data, a thing that this name alone holds -/
inductive Sl where | no | sh (d : D) | own (o : Ob)
/-- what an expression gives: data, a new thing, the thing of a slot -/
inductive Op where | sh (d : D) | own (o : Ob) | slot (i : Nat)
/-- what a def hands back -/
inductive Rv where | sh (d : D) | own (o : Ob)
/-- what an operation looks at -/
inductive Vw where | d (x : D) | ob (o : Ob)
abbrev Store := List Ob
abbrev Ev := List Sl
structure Xc where
  cls : Str
  ns : List Str
  vs : List D
inductive Res (α : Type) where | ok (a : α) (μ : Store) | exc (x : Xc) (μ : Store) | stk
def Res.bind {α β : Type} (r : Res α) (f : α → Store → Res β) : Res β := match r with
  | .ok a μ => f a μ
  | .exc x μ => .exc x μ
  | .stk => .stk
theorem Res.bind_ok {α β : Type} {a : α} {μ : Store} {f : α → Store → Res β} : (Res.ok a μ).bind f = f a μ := rfl
theorem Res.bind_exc {α β : Type} {x : Xc} {μ : Store} {f : α → Store → Res β} : (Res.exc x μ : Res α).bind f = .exc x μ := rfl
theorem Res.bind_stk {α β : Type} {f : α → Store → Res β} : (Res.stk : Res α).bind f = .stk := rfl
def Res.of {α : Type} (o : Option α) (μ : Store) : Res α := match o with
  | some a => .ok a μ
  | none => .stk
abbrev ME := Ev → Store → Res Op
abbrev MT := Ev → Store → Res Bool
abbrev MA := Ev → Store → Res (List D)

/-! ### what data stands for -/
mutual
def VR (K : PySem.W.Frag) (cad : Str → Addr) (ι : List Addr) (F : Hp) : D → V → Prop
  | .non, v => v = .non
  | .bl b, v => v = .bl b
  | .int i, v => v = .int i
  | .str s, v => v = .str s
  | .tup ds, v => ∃ a vs, v = .ref a ∧ F a = some (.tup vs) ∧ VRs K cad ι F ds vs
  | .lst ds, v => ∃ a vs, v = .ref a ∧ F a = some (.lst vs) ∧ VRs K cad ι F ds vs
  | .dK ks ds, v => ∃ a o vs, v = .ref a ∧ F a = some (.frz o (.dK (ks.zip vs))) ∧ ks.length = vs.length ∧ VRs K cad ι F ds vs
  | .dT ks ds, v => ∃ a o vs, v = .ref a ∧ F a = some (.frz o (.dT (ks.zip vs))) ∧ ks.length = vs.length ∧ VRs K cad ι F ds vs
  | .ins c ns ds, v => ∃ a dx vs, v = .ref a ∧ F a = some (.ins (cad c) dx (ns.zip vs)) ∧ ns.length = vs.length ∧ VRs K cad ι F ds vs
  | .loc n, v => ∃ a, v = .ref a ∧ ι[n]? = some a
  | .scr ns, v => ∃ a, v = .ref a ∧ SqL K F a (ns.map V.int)
def VRs (K : PySem.W.Frag) (cad : Str → Addr) (ι : List Addr) (F : Hp) : List D → List V → Prop
  | [], vs => vs = []
  | d :: ds, vs => ∃ v vs', vs = v :: vs' ∧ VR K cad ι F d v ∧ VRs K cad ι F ds vs'
end
theorem pre_get {α : Type} {l l' : List α} (h : l <+: l') {n : Nat} {a : α} (e : l[n]? = some a) : l'[n]? = some a := by
  obtain ⟨t, rfl⟩ := h
  have hn : n < l.length := (List.getElem?_eq_some_iff.mp e).1
  rw [List.getElem?_append_left hn]
  exact e
section
variable {K : PySem.W.Frag} {cad : Str → Addr} {ι ι' : List Addr} {F F' H H' : Hp}
mutual
theorem VR.mono (hf : Same F F') (hi : ι <+: ι') : ∀ (d : D) (v : V), VR K cad ι F d v → VR K cad ι' F' d v
  | .non, _, h => h
  | .bl _, _, h => h
  | .int _, _, h => h
  | .str _, _, h => h
  | .tup ds, _, h => by
    unfold VR at h ⊢
    obtain ⟨a, vs, e, f, r⟩ := h
    exact ⟨a, vs, e, hf _ _ f, VRs.mono hf hi ds vs r⟩
  | .lst ds, _, h => by
    unfold VR at h ⊢
    obtain ⟨a, vs, e, f, r⟩ := h
    exact ⟨a, vs, e, hf _ _ f, VRs.mono hf hi ds vs r⟩
  | .dK ks ds, _, h => by
    unfold VR at h ⊢
    obtain ⟨a, o, vs, e, f, l, r⟩ := h
    exact ⟨a, o, vs, e, hf _ _ f, l, VRs.mono hf hi ds vs r⟩
  | .dT ks ds, _, h => by
    unfold VR at h ⊢
    obtain ⟨a, o, vs, e, f, l, r⟩ := h
    exact ⟨a, o, vs, e, hf _ _ f, l, VRs.mono hf hi ds vs r⟩
  | .ins c ns ds, _, h => by
    unfold VR at h ⊢
    obtain ⟨a, o, vs, e, f, l, r⟩ := h
    exact ⟨a, o, vs, e, hf _ _ f, l, VRs.mono hf hi ds vs r⟩
  | .loc n, _, h => by
    unfold VR at h ⊢
    obtain ⟨a, e, f⟩ := h
    exact ⟨a, e, pre_get hi f⟩
  | .scr ns, _, h => by
    unfold VR at h ⊢
    obtain ⟨a, e, f⟩ := h
    exact ⟨a, e, hf.seq f⟩
theorem VRs.mono (hf : Same F F') (hi : ι <+: ι') : ∀ (ds : List D) (vs : List V), VRs K cad ι F ds vs → VRs K cad ι' F' ds vs
  | [], _, h => h
  | d :: ds, _, h => by
    unfold VRs at h ⊢
    obtain ⟨v, vs, e, r, rs⟩ := h
    exact ⟨v, vs, e, VR.mono hf hi d v r, VRs.mono hf hi ds vs rs⟩
end
theorem VRs.nil : VRs K cad ι F [] [] := rfl
theorem VRs.cons {d : D} {v : V} {ds : List D} {vs : List V} (h : VR K cad ι F d v) (t : VRs K cad ι F ds vs) : VRs K cad ι F (d :: ds) (v :: vs) := ⟨v, vs, rfl, h, t⟩
theorem VRs.of_nil {vs : List V} (h : VRs K cad ι F [] vs) : vs = [] := h
theorem VRs.of_cons {d : D} {ds : List D} {v : V} {vs : List V} (h : VRs K cad ι F (d :: ds) (v :: vs)) : VR K cad ι F d v ∧ VRs K cad ι F ds vs := by
  obtain ⟨v', vs', e, r, t⟩ := h
  cases e
  exact ⟨r, t⟩
theorem VRs.len : ∀ {ds : List D} {vs : List V}, VRs K cad ι F ds vs → ds.length = vs.length
  | [], _, h => by cases h; rfl
  | d :: ds, _, h => by
    obtain ⟨v, vs, rfl, _, t⟩ := h
    simp only [List.length_cons, VRs.len t]
theorem VRs.get : ∀ {ds : List D} {vs : List V} {i : Nat} {d : D}, VRs K cad ι F ds vs → ds[i]? = some d → ∃ v, vs[i]? = some v ∧ VR K cad ι F d v
  | [], _, _, _, _, e => by simp at e
  | x :: ds, _, 0, d, h, e => by
    obtain ⟨v, vs, rfl, r, _⟩ := h
    simp at e
    subst e
    exact ⟨v, rfl, r⟩
  | x :: ds, _, i + 1, d, h, e => by
    obtain ⟨v, vs, rfl, _, t⟩ := h
    simp only [List.getElem?_cons_succ] at e ⊢
    exact VRs.get t e
theorem VRs.got : ∀ {ds : List D} {vs : List V} {i : Nat} {v : V}, VRs K cad ι F ds vs → vs[i]? = some v → ∃ d, ds[i]? = some d ∧ VR K cad ι F d v
  | [], _, i, v, h, e => by cases h; simp at e
  | x :: ds, _, 0, v, h, e => by
    obtain ⟨v', vs, rfl, r, _⟩ := h
    simp at e
    subst e
    exact ⟨x, rfl, r⟩
  | x :: ds, _, i + 1, v, h, e => by
    obtain ⟨v', vs, rfl, _, t⟩ := h
    simp only [List.getElem?_cons_succ] at e ⊢
    exact VRs.got t e
theorem VRs.app : ∀ {ds es : List D} {vs us : List V}, VRs K cad ι F ds vs → VRs K cad ι F es us → VRs K cad ι F (ds ++ es) (vs ++ us)
  | [], _, _, _, h, t => by cases h; exact t
  | d :: ds, _, _, _, h, t => by
    obtain ⟨v, vs, rfl, r, h⟩ := h
    exact ⟨v, _, rfl, r, VRs.app h t⟩
theorem VRs.take : ∀ {ds : List D} {vs : List V} (n : Nat), VRs K cad ι F ds vs → VRs K cad ι F (ds.take n) (vs.take n)
  | _, _, 0, _ => rfl
  | [], _, _ + 1, h => by cases h; rfl
  | d :: ds, _, n + 1, h => by
    obtain ⟨v, vs, rfl, r, h⟩ := h
    exact ⟨v, _, rfl, r, VRs.take n h⟩
theorem VRs.drop : ∀ {ds : List D} {vs : List V} (n : Nat), VRs K cad ι F ds vs → VRs K cad ι F (ds.drop n) (vs.drop n)
  | _, _, 0, h => h
  | [], _, _ + 1, h => by cases h; rfl
  | d :: ds, _, n + 1, h => by
    obtain ⟨v, vs, rfl, r, h⟩ := h
    exact VRs.drop n h
theorem VRs.set : ∀ {ds : List D} {vs : List V} (i : Nat) {d : D} {v : V}, VRs K cad ι F ds vs → VR K cad ι F d v → VRs K cad ι F (ds.set i d) (vs.set i v)
  | [], _, _, _, _, h, _ => by cases h; rfl
  | x :: ds, _, 0, d, v, h, r => by
    obtain ⟨v', vs, rfl, _, h⟩ := h
    exact ⟨v, vs, rfl, r, h⟩
  | x :: ds, _, i + 1, d, v, h, r => by
    obtain ⟨v', vs, rfl, r', h⟩ := h
    exact ⟨v', _, rfl, r', VRs.set i h r⟩
theorem VRs.rev {ds : List D} {vs : List V} (h : VRs K cad ι F ds vs) : VRs K cad ι F ds.reverse vs.reverse := by
  induction ds generalizing vs with
  | nil => cases h; rfl
  | cons d ds ih =>
    obtain ⟨v, vs, rfl, r, h⟩ := h
    rw [List.reverse_cons, List.reverse_cons]
    exact (ih h).app ⟨v, [], rfl, r, rfl⟩
theorem VRs.split {es : List D} : ∀ {ds : List D} {vs : List V}, VRs K cad ι F (ds ++ es) vs → ∃ us ws, vs = us ++ ws ∧ VRs K cad ι F ds us ∧ VRs K cad ι F es ws
  | [], vs, h => ⟨[], vs, rfl, rfl, h⟩
  | d :: ds, vs, h => by
    obtain ⟨v, vs, rfl, r, h⟩ := h
    obtain ⟨us, ws, rfl, h1, h2⟩ := VRs.split (ds := ds) h
    exact ⟨v :: us, ws, rfl, ⟨v, us, rfl, r, h1⟩, h2⟩
end

/-! ### the store -/
def OR (K : PySem.W.Frag) (cad : Str → Addr) (ι : List Addr) (F : Hp) : Ob → HO → Prop
  | .lst ds, ho => ∃ vs, ho = .lst vs ∧ VRs K cad ι F ds vs
  | .dK kvs, ho => ∃ vs, ho = .dK ((kvs.map (·.1)).zip vs) ∧ VRs K cad ι F (kvs.map (·.2)) vs
  | .dT kvs, ho => ∃ vs, ho = .dT ((kvs.map (·.1)).zip vs) ∧ VRs K cad ι F (kvs.map (·.2)) vs
  | .ins c fs, ho => ∃ dx vs, ho = .ins (cad c) dx ((fs.map (·.1)).zip vs) ∧ VRs K cad ι F (fs.map (·.2)) vs
  | .lkK kvs, ho => ∃ o vs, ho = .frz o (.dK ((kvs.map (·.1)).zip vs)) ∧ VRs K cad ι F (kvs.map (·.2)) vs
  | .lkT kvs, ho => ∃ o vs, ho = .frz o (.dT ((kvs.map (·.1)).zip vs)) ∧ VRs K cad ι F (kvs.map (·.2)) vs
  | .dead, _ => False
section
variable {K : PySem.W.Frag} {cad : Str → Addr} {ι ι' : List Addr} {F F' H H' : Hp}
theorem OR.mono (hf : Same F F') (hi : ι <+: ι') : ∀ {o : Ob} {ho : HO}, OR K cad ι F o ho → OR K cad ι' F' o ho
  | .lst _, _, ⟨vs, e, r⟩ => ⟨vs, e, VRs.mono hf hi _ _ r⟩
  | .dK _, _, ⟨vs, e, r⟩ => ⟨vs, e, VRs.mono hf hi _ _ r⟩
  | .dT _, _, ⟨vs, e, r⟩ => ⟨vs, e, VRs.mono hf hi _ _ r⟩
  | .ins _ _, _, ⟨dx, vs, e, r⟩ => ⟨dx, vs, e, VRs.mono hf hi _ _ r⟩
  | .lkK _, _, ⟨o, vs, e, r⟩ => ⟨o, vs, e, VRs.mono hf hi _ _ r⟩
  | .lkT _, _, ⟨o, vs, e, r⟩ => ⟨o, vs, e, VRs.mono hf hi _ _ r⟩
  | .dead, _, h => h.elim
theorem OR.notup {o : Ob} {xs : List V} (h : OR K cad ι F o (.tup xs)) : False := by
  cases o with
  | lst _ => obtain ⟨_, e, _⟩ := h; cases e
  | dK _ => obtain ⟨_, e, _⟩ := h; cases e
  | dT _ => obtain ⟨_, e, _⟩ := h; cases e
  | ins _ _ => obtain ⟨_, _, e, _⟩ := h; cases e
  | lkK _ => obtain ⟨_, _, e, _⟩ := h; cases e
  | lkT _ => obtain ⟨_, _, e, _⟩ := h; cases e
  | dead => exact h
end
/-- the store at the addresses ι; F: what never changes -/
structure RS (K : PySem.W.Frag) (cad : Str → Addr) (F : Hp) (ι : List Addr) (μ : Store) (H : Hp) : Prop where
  sub : Same F H
  len : ι.length = μ.length
  nd : ι.Nodup
  sep : ∀ a ∈ ι, F a = none
  obj : ∀ (n : Nat) (o : Ob) (a : Addr), μ[n]? = some o → ι[n]? = some a → ∃ ho, H a = some ho ∧ OR K cad ι F o ho
/-- what an expression may do: things of the store change, new things come -/
structure Ext (F : Hp) (ι : List Addr) (H : Hp) (F' : Hp) (ι' : List Addr) (H' : Hp) : Prop where
  f : Same F F'
  i : ι <+: ι'
  kept : ∀ a o, a ∉ ι → H a = some o → H' a = some o
  dom : ∀ a, H' a = none → H a = none
  nf : ∀ a, F a = none → F' a ≠ none → a ∉ ι ∧ (H a = none ∨ ∃ xs, H a = some (.tup xs))
  ni : ∀ a, a ∈ ι' → a ∉ ι → H a = none
  lk : ∀ a o u, H a = some (.frz o u) → H' a = some (.frz o u)
section
variable {F F' F'' H H' H'' : Hp} {ι ι' ι'' : List Addr}
theorem Ext.refl (F : Hp) (ι : List Addr) (H : Hp) : Ext F ι H F ι H :=
  ⟨Same.refl _, List.prefix_rfl, fun _ _ _ h => h, fun _ h => h, fun a h1 h2 => absurd h1 h2, fun a h1 h2 => absurd h1 h2, fun _ _ _ h => h⟩
theorem Ext.trans (x : Ext F ι H F' ι' H') (y : Ext F' ι' H' F'' ι'' H'') : Ext F ι H F'' ι'' H'' := by
  refine ⟨x.f.trans y.f, x.i.trans y.i, fun a o h e => ?_, fun a h => x.dom a (y.dom a h), fun a h1 h2 => ?_, fun a h1 h2 => ?_, fun a o u h => y.lk a o u (x.lk a o u h)⟩
  · refine y.kept a o (fun z => ?_) (x.kept a o h e)
    have q := x.ni a z h
    rw [e] at q
    cases q
  · by_cases q : F' a = none
    · obtain ⟨n1, n2⟩ := y.nf a q h2
      have n3 : a ∉ ι := fun z => n1 (x.i.subset z)
      refine ⟨n3, ?_⟩
      rcases n2 with n2 | ⟨xs, n2⟩
      · exact .inl (x.dom a n2)
      · cases c : H a with
        | none => exact .inl rfl
        | some o =>
          rw [x.kept a o n3 c] at n2
          exact .inr ⟨xs, n2⟩
    · exact x.nf a h1 q
  · by_cases q : a ∈ ι'
    · exact x.ni a q h2
    · exact x.dom a (y.ni a h1 q)
theorem same_new {F : Hp} {p : Addr} {o : HO} (h : F p = none) : Same F (upd F p o) := fun b x e => by
  rw [upd_ne (ne_of_none e h)]
  exact e
theorem Ext.newH {p : Addr} {o : HO} (h : H p = none) : Ext F ι H F ι (upd H p o) := by
  refine ⟨Same.refl _, List.prefix_rfl, fun a o' _ e => ?_, fun a e => ?_, fun a h1 h2 => absurd h1 h2, fun a h1 h2 => absurd h1 h2, fun a o' u e => by rw [upd_ne (ne_of_none e h)]; exact e⟩
  · rw [upd_ne (ne_of_none e h)]
    exact e
  · by_cases q : a = p
    · rw [q] at e ⊢
      exact h
    · rw [upd_ne q] at e
      exact e
end
section
variable {K : PySem.W.Frag} {cad : Str → Addr} {F F' H H' : Hp} {ι ι' : List Addr} {μ μ' : Store}
theorem RS.addr (r : RS K cad F ι μ H) {n : Nat} {o : Ob} (e : μ[n]? = some o) : ∃ a, ι[n]? = some a ∧ a ∈ ι ∧ F a = none := by
  have hn : n < μ.length := (List.getElem?_eq_some_iff.mp e).1
  have hi : n < ι.length := by rw [r.len]; exact hn
  refine ⟨ι[n], List.getElem?_eq_getElem hi, List.getElem_mem hi, r.sep _ (List.getElem_mem hi)⟩
theorem RS.inj (r : RS K cad F ι μ H) {n m : Nat} {a : Addr} (e : ι[n]? = some a) (e' : ι[m]? = some a) : n = m := by
  exact (List.getElem?_inj (List.getElem?_eq_some_iff.mp e).1 r.nd).mp (e.trans e'.symm)
/-- what is fresh to H is fresh to F and none of ι -/
theorem RS.fresh (r : RS K cad F ι μ H) {p : Addr} (h : H p = none) : F p = none ∧ p ∉ ι := by
  refine ⟨r.sub.free h, fun hp => ?_⟩
  obtain ⟨n, hn, e⟩ := List.getElem_of_mem hp
  have hm : n < μ.length := by rw [← r.len]; exact hn
  obtain ⟨ho, e1, _⟩ := r.obj n μ[n] p (List.getElem?_eq_getElem hm) (by rw [List.getElem?_eq_getElem hn, e])
  rw [h] at e1
  cases e1
/-- the same store over more -/
theorem RS.grow (r : RS K cad F ι μ H) (hf : Same F F') (hs : Same F' H') (hk : ∀ a ∈ ι, ∀ o, H a = some o → H' a = some o) (hn : ∀ a ∈ ι, F' a = none) : RS K cad F' ι μ H' := by
  refine ⟨hs, r.len, r.nd, hn, fun n o a e1 e2 => ?_⟩
  obtain ⟨ho, e, q⟩ := r.obj n o a e1 e2
  exact ⟨ho, hk a (List.mem_of_getElem? e2) ho e, q.mono hf List.prefix_rfl⟩
theorem same_upd {F H : Hp} {p : Addr} {o : HO} (s : Same F H) (h : H p = none) : Same F (upd H p o) := fun b x e => by
  rw [upd_ne (ne_of_none (s b x e) h)]
  exact s b x e
theorem same_upd2 {F H : Hp} {p : Addr} {o : HO} (s : Same F H) : Same (upd F p o) (upd H p o) := fun b x e => by
  by_cases q : b = p
  · rw [q, upd_same] at e ⊢
    exact e
  · rw [upd_ne q] at e ⊢
    exact s b x e
/-- a new thing, not in F -/
theorem RS.newH (r : RS K cad F ι μ H) {p : Addr} {o : HO} (h : H p = none) : RS K cad F ι μ (upd H p o) :=
  r.grow (Same.refl _) (same_upd r.sub h) (fun a ha x e => by rw [upd_ne (ne_of_none e h)]; exact e) r.sep
/-- a new thing that never changes -/
theorem RS.newF (r : RS K cad F ι μ H) {p : Addr} {o : HO} (h : H p = none) : RS K cad (upd F p o) ι μ (upd H p o) :=
  r.grow (same_new (r.fresh h).1) (same_upd2 r.sub) (fun a ha x e => by rw [upd_ne (ne_of_none e h)]; exact e) fun a ha => by
    rw [upd_ne (show a ≠ p from fun z => (r.fresh h).2 (z ▸ ha))]
    exact r.sep a ha
theorem Ext.newF (r : RS K cad F ι μ H) {p : Addr} {o : HO} (h : H p = none) : Ext F ι H (upd F p o) ι (upd H p o) := by
  refine ⟨same_new (r.fresh h).1, List.prefix_rfl, fun a o' _ e => ?_, fun a e => ?_, fun a h1 h2 => ?_, fun a h1 h2 => absurd h1 h2, fun a o' u e => by rw [upd_ne (ne_of_none e h)]; exact e⟩
  · rw [upd_ne (ne_of_none e h)]
    exact e
  · by_cases q : a = p
    · rw [q] at e ⊢
      exact h
    · rw [upd_ne q] at e
      exact e
  · by_cases q : a = p
    · rw [q]
      exact ⟨(r.fresh h).2, .inl h⟩
    · rw [upd_ne q] at h2
      exact absurd h1 h2
/-- a thing of its own from now on never changes -/
theorem RS.freeze (r : RS K cad F ι μ H) {p : Addr} {o : HO} (h : H p = some o) (hi : p ∉ ι) (hF : F p = none) : RS K cad (upd F p o) ι μ H :=
  r.grow (same_new hF) (fun b x e => by
    by_cases q : b = p
    · rw [q, upd_same] at e
      rw [q, h]
      exact e
    · rw [upd_ne q] at e
      exact r.sub b x e) (fun _ _ _ e => e) fun a ha => by
    rw [upd_ne (show a ≠ p from fun z => hi (z ▸ ha))]
    exact r.sep a ha
/-- a thing of the store changes -/
theorem RS.put (r : RS K cad F ι μ H) {n : Nat} {a : Addr} {o : Ob} {ho : HO} (e : ι[n]? = some a) (q : OR K cad ι F o ho) : RS K cad F ι (μ.set n o) (upd H a ho) := by
  have ha : a ∈ ι := List.mem_of_getElem? e
  refine ⟨fun b x s => ?_, by rw [r.len, List.length_set], r.nd, r.sep, fun m o' b e1 e2 => ?_⟩
  · rw [upd_ne (fun z => by rw [z, r.sep a ha] at s; cases s)]
    exact r.sub b x s
  · by_cases hb : b = a
    · subst hb
      have hm : m = n := r.inj e2 e
      subst hm
      rw [List.getElem?_set_self (by have := (List.getElem?_eq_some_iff.mp e).1; rw [r.len] at this; exact this)] at e1
      cases e1
      exact ⟨ho, upd_same, q⟩
    · have hm : n ≠ m := fun z => hb (by subst z; rw [e] at e2; exact (Option.some.inj e2).symm)
      rw [List.getElem?_set_ne hm] at e1
      obtain ⟨h1, e3, q3⟩ := r.obj m o' b e1 e2
      exact ⟨h1, by rw [upd_ne hb]; exact e3, q3⟩
theorem Ext.put {n : Nat} {a : Addr} {ho : HO} (e : ι[n]? = some a) (nf : ∀ o u, H a ≠ some (.frz o u)) : Ext F ι H F ι (upd H a ho) := by
  have ha : a ∈ ι := List.mem_of_getElem? e
  refine ⟨Same.refl _, List.prefix_rfl, fun b o hb s => ?_, fun b s => ?_, fun a h1 h2 => absurd h1 h2, fun a h1 h2 => absurd h1 h2, fun b o u s => by rw [upd_ne (show b ≠ a from fun z => nf o u (by rw [← z]; exact s))]; exact s⟩
  · rw [upd_ne (show b ≠ a from fun z => hb (z ▸ ha))]
    exact s
  · by_cases q : b = a
    · rw [q, upd_same] at s
      cases s
    · rw [upd_ne q] at s
      exact s
theorem pre_snoc {α : Type} (l : List α) (a : α) : l <+: l ++ [a] := ⟨[a], rfl⟩
/-- a thing of its own comes into the store -/
theorem RS.push (r : RS K cad F ι μ H) {p : Addr} {o : Ob} {ho : HO} (h : H p = some ho) (hi : p ∉ ι) (hF : F p = none) (q : OR K cad ι F o ho) : RS K cad F (ι ++ [p]) (μ ++ [o]) H := by
  refine ⟨r.sub, by rw [List.length_append, List.length_append, r.len]; rfl, ?_, fun a ha => ?_, fun n o' a e1 e2 => ?_⟩
  · refine List.nodup_append.mpr ⟨r.nd, by simp, fun a ha b hb => ?_⟩
    have : b = p := by simpa using hb
    subst this
    exact fun z => hi (z ▸ ha)
  · rcases List.mem_append.mp ha with z | z
    · exact r.sep a z
    · have : a = p := by simpa using z
      rw [this]
      exact hF
  · by_cases hn : n < μ.length
    · rw [List.getElem?_append_left hn] at e1
      rw [List.getElem?_append_left (by rw [r.len]; exact hn)] at e2
      obtain ⟨h1, e3, q3⟩ := r.obj n o' a e1 e2
      exact ⟨h1, e3, q3.mono (Same.refl _) (pre_snoc _ _)⟩
    · have hn' : μ.length ≤ n := Nat.le_of_not_lt hn
      rw [List.getElem?_append_right hn'] at e1
      rw [List.getElem?_append_right (by rw [r.len]; exact hn')] at e2
      have z : n - μ.length = 0 := by
        cases c : n - μ.length with
        | zero => rfl
        | succ k =>
          rw [c] at e1
          simp at e1
      rw [z] at e1
      rw [r.len, z] at e2
      simp at e1 e2
      subst e1
      subst e2
      exact ⟨ho, h, q.mono (Same.refl _) (pre_snoc _ _)⟩
end

/-- what is of its own is not taken into F' -/
theorem Ext.apart {K : PySem.W.Frag} {cad : Str → Addr} {F F' H H' : Hp} {ι ι' : List Addr} {a : Addr} {o : Ob} {ho : HO} (x : Ext F ι H F' ι' H') (h1 : F a = none) (h2 : H a = some ho) (q : OR K cad ι F o ho) : F' a = none := by
  cases c : F' a with
  | none => rfl
  | some o' =>
    obtain ⟨_, z⟩ := x.nf a h1 (by rw [c]; intro z; cases z)
    rcases z with z | ⟨xs, z⟩
    · rw [h2] at z; cases z
    · rw [h2] at z; cases z; exact q.notup.elim
/-! ### slots -/
structure R (K : PySem.W.Frag) (cad : Str → Addr) (F : Hp) (ι : List Addr) (μ : Store) (ρ : Ev) (σ : L2.St) (H : Hp) : Prop where
  rs : RS K cad F ι μ H
  len : σ.length = ρ.length
  sh : ∀ (i : Nat) (d : D), ρ[i]? = some (.sh d) → ∃ v, σ[i]? = some (some v) ∧ VR K cad ι F d v
  own : ∀ (i : Nat) (o : Ob), ρ[i]? = some (.own o) → ∃ a ho, σ[i]? = some (some (.ref a)) ∧ F a = none ∧ a ∉ ι ∧ H a = some ho ∧ OR K cad ι F o ho
  dis : ∀ (i j : Nat) (o o' : Ob) (a : Addr), ρ[i]? = some (.own o) → ρ[j]? = some (.own o') → σ[i]? = some (some (.ref a)) → σ[j]? = some (some (.ref a)) → i = j
section
variable {K : PySem.W.Frag} {cad : Str → Addr} {F F' H H' : Hp} {ι ι' : List Addr} {μ μ' : Store} {ρ : Ev} {σ : L2.St}
theorem R.ext (r : R K cad F ι μ ρ σ H) (x : Ext F ι H F' ι' H') (s : RS K cad F' ι' μ' H') : R K cad F' ι' μ' ρ σ H' := by
  refine ⟨s, r.len, fun i d e => ?_, fun i o e => ?_, r.dis⟩
  · obtain ⟨v, e1, q⟩ := r.sh i d e
    exact ⟨v, e1, VR.mono x.f x.i _ _ q⟩
  · obtain ⟨a, ho, e1, e2, e3, e4, q⟩ := r.own i o e
    have nn : H a ≠ none := by rw [e4]; intro z; cases z
    exact ⟨a, ho, e1, x.apart e2 e4 q, fun z => nn (x.ni a z e3), x.kept a ho e3 e4, q.mono x.f x.i⟩
end
end DL

namespace DL
open PySem PySem.Spec PyProof.Rows L2

/-! ### what an operation looks at -/
def Ob.rd : Ob → Option Ob
  | .lkK kvs => some (.dK kvs)
  | .lkT kvs => some (.dT kvs)
  | .dead => none
  | o => some o
def D.vw (μ : Store) : D → Option Vw
  | .lst xs => some (.ob (.lst xs))
  | .dK ks vs => some (.ob (.dK (ks.zip vs)))
  | .dT ks vs => some (.ob (.dT (ks.zip vs)))
  | .ins c ns vs => some (.ob (.ins c (ns.zip vs)))
  | .loc n => (μ[n]?).bind fun o => o.rd.map .ob
  | d => some (.d d)
def deref (ρ : Ev) (μ : Store) : Op → Option Vw
  | .sh d => d.vw μ
  | .own o => o.rd.map .ob
  | .slot i => match ρ[i]? with
    | some (.own o) => o.rd.map .ob
    | _ => none
def ObR (K : PySem.W.Frag) (cad : Str → Addr) (ι : List Addr) (F H : Hp) (a : Addr) : Ob → Prop
  | .lst ds => ∃ vs, H a = some (.lst vs) ∧ VRs K cad ι F ds vs
  | .dK kvs => ∃ vs, Rd H a (.dK ((kvs.map (·.1)).zip vs)) ∧ VRs K cad ι F (kvs.map (·.2)) vs
  | .dT kvs => ∃ vs, Rd H a (.dT ((kvs.map (·.1)).zip vs)) ∧ VRs K cad ι F (kvs.map (·.2)) vs
  | .ins c fs => ∃ dx vs, H a = some (.ins (cad c) dx ((fs.map (·.1)).zip vs)) ∧ VRs K cad ι F (fs.map (·.2)) vs
  | _ => False
def VwR (K : PySem.W.Frag) (cad : Str → Addr) (F : Hp) (ι : List Addr) (H : Hp) : Vw → V → Prop
  | .d d, v => VR K cad ι F d v
  | .ob o, v => ∃ a, v = .ref a ∧ ObR K cad ι F H a o
/-- what an expression gave; H0 the heap ahead of it -/
def OpV (K : PySem.W.Frag) (cad : Str → Addr) (ρ : Ev) (σ : L2.St) (H0 F : Hp) (ι : List Addr) (H : Hp) : Op → V → Prop
  | .sh d, v => VR K cad ι F d v
  | .own o, v => ∃ a ho, v = .ref a ∧ F a = none ∧ a ∉ ι ∧ H0 a = none ∧ H a = some ho ∧ OR K cad ι F o ho
  | .slot i, v => σ[i]? = some (some v) ∧ ∃ o, ρ[i]? = some (.own o)
def Rv.op : Rv → Op
  | .sh d => .sh d
  | .own o => .own o
def RvR (K : PySem.W.Frag) (cad : Str → Addr) (H0 F : Hp) (ι : List Addr) (H : Hp) (r : Rv) (v : V) : Prop := OpV K cad [] [] H0 F ι H r.op v
section
variable {K : PySem.W.Frag} {cad : Str → Addr} {F F' H H' H0 : Hp} {ι ι' : List Addr} {μ μ' : Store} {ρ : Ev} {σ : L2.St}
theorem OR.view {o o' : Ob} {ho : HO} {a : Addr} (e : H a = some ho) (q : OR K cad ι F o ho) (hr : o.rd = some o') : ObR K cad ι F H a o' := by
  cases o with
  | lst ds => cases hr; obtain ⟨vs, rfl, r⟩ := q; exact ⟨vs, e, r⟩
  | dK kvs => cases hr; obtain ⟨vs, rfl, r⟩ := q; exact ⟨vs, .inl e, r⟩
  | dT kvs => cases hr; obtain ⟨vs, rfl, r⟩ := q; exact ⟨vs, .inl e, r⟩
  | ins c fs => cases hr; obtain ⟨dx, vs, rfl, r⟩ := q; exact ⟨dx, vs, e, r⟩
  | lkK kvs => cases hr; obtain ⟨o, vs, rfl, r⟩ := q; exact ⟨vs, .inr ⟨o, e⟩, r⟩
  | lkT kvs => cases hr; obtain ⟨o, vs, rfl, r⟩ := q; exact ⟨vs, .inr ⟨o, e⟩, r⟩
  | dead => cases hr
theorem map_zip1 {α β : Type} : ∀ {l : List α} {m : List β}, l.length = m.length → (l.zip m).map (·.1) = l
  | [], _, _ => rfl
  | a :: l, [], h => by cases h
  | a :: l, b :: m, h => by
    simp only [List.zip_cons_cons, List.map_cons, List.cons.injEq, true_and]
    exact map_zip1 (by simpa using h)
theorem map_zip2 {α β : Type} : ∀ {l : List α} {m : List β}, l.length = m.length → (l.zip m).map (·.2) = m
  | [], [], _ => rfl
  | [], b :: m, h => by cases h
  | a :: l, [], h => by cases h
  | a :: l, b :: m, h => by
    simp only [List.zip_cons_cons, List.map_cons, List.cons.injEq, true_and]
    exact map_zip2 (by simpa using h)
theorem VR.view (rs : RS K cad F ι μ H) {d : D} {v : V} {w : Vw} (h : VR K cad ι F d v) (e : d.vw μ = some w) : VwR K cad F ι H w v := by
  cases d with
  | non => cases e; exact h
  | bl b => cases e; exact h
  | int i => cases e; exact h
  | str s => cases e; exact h
  | tup xs => cases e; exact h
  | scr ns => cases e; exact h
  | lst xs =>
    cases e
    unfold VR at h
    obtain ⟨a, vs, e1, s, r⟩ := h
    exact ⟨a, e1, vs, rs.sub _ _ s, r⟩
  | dK ks ds =>
    cases e
    unfold VR at h
    obtain ⟨a, o, vs, e1, s, l, r⟩ := h
    have l2 : ks.length = ds.length := l.trans r.len.symm
    refine ⟨a, e1, vs, ?_, ?_⟩
    · rw [map_zip1 l2]
      exact .inr ⟨o, rs.sub _ _ s⟩
    · rw [map_zip2 l2]
      exact r
  | dT ks ds =>
    cases e
    unfold VR at h
    obtain ⟨a, o, vs, e1, s, l, r⟩ := h
    have l2 : ks.length = ds.length := l.trans r.len.symm
    refine ⟨a, e1, vs, ?_, ?_⟩
    · rw [map_zip1 l2]
      exact .inr ⟨o, rs.sub _ _ s⟩
    · rw [map_zip2 l2]
      exact r
  | ins c ns ds =>
    cases e
    unfold VR at h
    obtain ⟨a, o, vs, e1, s, l, r⟩ := h
    have l2 : ns.length = ds.length := l.trans r.len.symm
    refine ⟨a, e1, o, vs, ?_, ?_⟩
    · rw [map_zip1 l2]
      exact rs.sub _ _ s
    · rw [map_zip2 l2]
      exact r
  | loc n =>
    unfold VR at h
    obtain ⟨a, e1, e2⟩ := h
    have e : (μ[n]?).bind (fun o => o.rd.map Vw.ob) = some w := e
    cases c : μ[n]? with
    | none => rw [c] at e; cases e
    | some o =>
      rw [c] at e
      cases c2 : o.rd with
      | none => simp [c2] at e
      | some o' =>
        simp [c2] at e
        subst e
        obtain ⟨ho, e3, q⟩ := rs.obj n o a c e2
        exact ⟨a, e1, q.view e3 c2⟩
theorem OpV.view (r : R K cad F ι μ ρ σ H) {o : Op} {v : V} {w : Vw} (h : OpV K cad ρ σ H0 F ι H o v) (e : deref ρ μ o = some w) : VwR K cad F ι H w v := by
  cases o with
  | sh d => exact VR.view r.rs h e
  | own o =>
    obtain ⟨a, ho, e1, _, _, _, e2, q⟩ := h
    have e : o.rd.map Vw.ob = some w := e
    cases c2 : o.rd with
    | none => simp [c2] at e
    | some o' =>
      simp [c2] at e
      subst e
      exact ⟨a, e1, q.view e2 c2⟩
  | slot i =>
    obtain ⟨e1, o, e2⟩ := h
    have e : (match ρ[i]? with | some (.own o) => o.rd.map Vw.ob | _ => none) = some w := e
    rw [e2] at e
    cases c2 : o.rd with
    | none => simp [c2] at e
    | some o' =>
      simp [c2] at e
      subst e
      obtain ⟨a, ho, e3, _, _, e4, q⟩ := r.own i o e2
      rw [e1] at e3
      cases e3
      exact ⟨a, rfl, q.view e4 c2⟩
theorem OpV.mono {H1 : Hp} (x : Ext F ι H F' ι' H') {o : Op} {v : V} (h : OpV K cad ρ σ H0 F ι H o v) : OpV K cad ρ σ H0 F' ι' H' o v := by
  cases o with
  | sh d => exact VR.mono x.f x.i _ _ h
  | own o =>
    obtain ⟨a, ho, e1, e2, e3, e4, e5, q⟩ := h
    have nn : H a ≠ none := by rw [e5]; intro z; cases z
    exact ⟨a, ho, e1, x.apart e2 e5 q, fun z => nn (x.ni a z e3), e4, x.kept a ho e3 e5, q.mono x.f x.i⟩
  | slot i => exact h
theorem RvR.op {r : Rv} {v : V} (h : RvR K cad H0 F ι H r v) : OpV K cad ρ σ H0 F ι H r.op v := by
  cases r with
  | sh d => exact h
  | own o => exact h
theorem VwR.mono {w : Vw} {v : V} (hf : Same F F') (hi : ι <+: ι') (hs : ∀ a o, H a = some o → H' a = some o) (h : VwR K cad F ι H w v) : VwR K cad F' ι' H' w v := by
  cases w with
  | d d => exact VR.mono hf hi _ _ h
  | ob o =>
    obtain ⟨a, e, q⟩ := h
    refine ⟨a, e, ?_⟩
    have hr : ∀ u, Rd H a u → Rd H' a u := fun u z => z.elim (fun z => .inl (hs _ _ z)) fun ⟨o, z⟩ => .inr ⟨o, hs _ _ z⟩
    cases o with
    | lst ds => obtain ⟨vs, s, r⟩ := q; exact ⟨vs, hs _ _ s, VRs.mono hf hi _ _ r⟩
    | dK kvs => obtain ⟨vs, s, r⟩ := q; exact ⟨vs, hr _ s, VRs.mono hf hi _ _ r⟩
    | dT kvs => obtain ⟨vs, s, r⟩ := q; exact ⟨vs, hr _ s, VRs.mono hf hi _ _ r⟩
    | ins c fs => obtain ⟨dx, vs, s, r⟩ := q; exact ⟨dx, vs, hs _ _ s, VRs.mono hf hi _ _ r⟩
    | lkK _ => exact q
    | lkT _ => exact q
    | dead => exact q
end

/-! ### what is to be shown behind a piece -/
/-- a relation between what the data side gives and what the machine gives, by the heap ahead -/
structure Rl (α β : Type) where
  r : Hp → Hp → List Addr → Hp → α → β → Prop
  mono : ∀ {H H1 F : Hp} {ι : List Addr} {H' : Hp} {a : α} {b : β}, (∀ p, H1 p = none → H p = none) → r H1 F ι H' a b → r H F ι H' a b
def rlE (K : PySem.W.Frag) (cad : Str → Addr) (ρ : Ev) (σ : L2.St) : Rl Op V := ⟨OpV K cad ρ σ, fun {H H1 F ι H' a b} h q => by
  cases a with
  | sh d => exact q
  | own o => obtain ⟨a, ho, e1, e2, e3, e4, e5, z⟩ := q; exact ⟨a, ho, e1, e2, e3, h a e4, e5, z⟩
  | slot i => exact q⟩
def rlT : Rl Bool Bool := ⟨fun _ _ _ _ a b => a = b, fun _ q => q⟩
def rlD (K : PySem.W.Frag) (cad : Str → Addr) : Rl D V := ⟨fun _ F ι _ d v => VR K cad ι F d v, fun _ q => q⟩
def rlDs (K : PySem.W.Frag) (cad : Str → Addr) : Rl (List D) (List V) := ⟨fun _ F ι _ d v => VRs K cad ι F d v, fun _ q => q⟩
def OpVs (K : PySem.W.Frag) (cad : Str → Addr) (ρ : Ev) (σ : L2.St) (H0 F : Hp) (ι : List Addr) (H : Hp) (os : List Op) (vs : List V) : Prop := Paired (OpV K cad ρ σ H0 F ι H) os vs
def rlA (K : PySem.W.Frag) (cad : Str → Addr) (ρ : Ev) (σ : L2.St) : Rl (List Op) (List V) := ⟨OpVs K cad ρ σ, fun {H H1 F ι H' a b} h q => Paired.mapP q fun x y z => (rlE K cad ρ σ).mono h z⟩
/-- an exception: its class, its fields -/
def XR (K : PySem.W.Frag) (cad : Str → Addr) (F : Hp) (ι : List Addr) (x : Xc) (d : Option Addr) : Prop := (x.ns = [] ∧ d = none) ∨ (x.ns ≠ [] ∧ ∃ a vs, d = some a ∧ F a = some (.xd (x.ns.zip vs)) ∧ x.ns.length = vs.length ∧ VRs K cad ι F x.vs vs)
def Post {α β : Type} (K : PySem.W.Frag) (cad : Str → Addr) (W : WX) (rl : Rl α β) (F : Hp) (ι : List Addr) (H : Hp) (σ : L2.St) (r : Res α) (Q : β → Hp → Prop) : Prop := match r with
  | .ok a μ' => ∀ F' ι' H' b, Ext F ι H F' ι' H' → RS K cad F' ι' μ' H' → rl.r H F' ι' H' a b → Q b H'
  | .exc x μ' => ∀ F' ι' H' d, Ext F ι H F' ι' H' → RS K cad F' ι' μ' H' → XR K cad F' ι' x d → W (.ref (cad x.cls)) d σ H'
  | .stk => False
section
variable {α β α' β' : Type} {K : PySem.W.Frag} {cad : Str → Addr} {W : WX} {rl : Rl α β} {rl' : Rl α' β'} {F F' H H' H0 : Hp} {ι ι' : List Addr} {μ μ' : Store} {ρ : Ev} {σ : L2.St}
theorem Post.ext {r : Res α} {Q : β → Hp → Prop} (x : Ext F ι H F' ι' H') (h : Post K cad W rl F ι H σ r Q) : Post K cad W rl F' ι' H' σ r Q := by
  cases r with
  | ok a μ => exact fun F2 ι2 H2 b y s q => h F2 ι2 H2 b (x.trans y) s (rl.mono x.dom q)
  | exc e μ => exact fun F2 ι2 H2 d y s q => h F2 ι2 H2 d (x.trans y) s q
  | stk => exact h
theorem Post.bind {r : Res α} {f : α → Store → Res α'} {Q : β → Hp → Prop} {Q' : β' → Hp → Prop} (h : Post K cad W rl' F ι H σ (r.bind f) Q')
    (k : ∀ a μ1 F1 ι1 H1 b, Ext F ι H F1 ι1 H1 → RS K cad F1 ι1 μ1 H1 → rl.r H F1 ι1 H1 a b → Post K cad W rl' F1 ι1 H1 σ (f a μ1) Q' → Q b H1) : Post K cad W rl F ι H σ r Q := by
  cases r with
  | ok a μ => exact fun F2 ι2 H2 b y s q => k a μ F2 ι2 H2 b y s q (Post.ext y h)
  | exc e μ => exact h
  | stk => exact h
/-- the same, by the first heap -/
theorem Post.bindX {F1 H1 : Hp} {ι1 : List Addr} {r : Res α} {f : α → Store → Res α'} {Q : β → Hp → Prop} {Q' : β' → Hp → Prop} (x0 : Ext F ι H F1 ι1 H1) (h : Post K cad W rl' F ι H σ (r.bind f) Q')
    (k : ∀ a μ2 F2 ι2 H2 b, Ext F1 ι1 H1 F2 ι2 H2 → RS K cad F2 ι2 μ2 H2 → rl.r H1 F2 ι2 H2 a b → Post K cad W rl' F ι H σ (f a μ2) Q' → Q b H2) : Post K cad W rl F1 ι1 H1 σ r Q := by
  cases r with
  | ok a μ => exact fun F2 ι2 H2 b y s q => k a μ F2 ι2 H2 b y s q h
  | exc e μ => exact fun F2 ι2 H2 d y s q => h F2 ι2 H2 d (x0.trans y) s q
  | stk => exact h
/-- the same piece, one change of what is given -/
theorem Post.imp {r : Res α} {Q Q' : β → Hp → Prop} (h : Post K cad W rl F ι H σ r Q) (k : ∀ a F1 ι1 H1 b, Ext F ι H F1 ι1 H1 → rl.r H F1 ι1 H1 a b → Q b H1 → Q' b H1) : Post K cad W rl F ι H σ r Q' := by
  cases r with
  | ok a μ => exact fun F2 ι2 H2 b y s q => k a F2 ι2 H2 b y q (h F2 ι2 H2 b y s q)
  | exc e μ => exact h
  | stk => exact h
theorem Post.of {o : Option α} {Q : β → Hp → Prop} (h : Post K cad W rl F ι H σ (Res.of o μ) Q) : ∃ a, o = some a ∧ ∀ F' ι' H' b, Ext F ι H F' ι' H' → RS K cad F' ι' μ H' → rl.r H F' ι' H' a b → Q b H' := by
  cases o with
  | none => exact h.elim
  | some a => exact ⟨a, rfl, h⟩
end

/-! ### readings -/
def tE (K : PySem.W.Frag) (cad : Str → Addr) (W : WX) (m : ME) : TE := fun σ H Q => ∃ F ι μ ρ, R K cad F ι μ ρ σ H ∧ Post K cad W (rlE K cad ρ σ) F ι H σ (m ρ μ) Q
def tT (K : PySem.W.Frag) (cad : Str → Addr) (W : WX) (m : MT) : TT := fun σ H Q => ∃ F ι μ ρ, R K cad F ι μ ρ σ H ∧ Post K cad W rlT F ι H σ (m ρ μ) Q
def tD (K : PySem.W.Frag) (cad : Str → Addr) (W : WX) (m : Ev → Store → Res D) : TE := fun σ H Q => ∃ F ι μ ρ, R K cad F ι μ ρ σ H ∧ Post K cad W (rlD K cad) F ι H σ (m ρ μ) Q
def tDs (K : PySem.W.Frag) (cad : Str → Addr) (W : WX) (m : MA) : TA := fun σ H Q => ∃ F ι μ ρ, R K cad F ι μ ρ σ H ∧ Post K cad W (rlDs K cad) F ι H σ (m ρ μ) Q
def tOs (K : PySem.W.Frag) (cad : Str → Addr) (W : WX) (m : Ev → Store → Res (List Op)) : TA := fun σ H Q => ∃ F ι μ ρ, R K cad F ι μ ρ σ H ∧ Post K cad W (rlA K cad ρ σ) F ι H σ (m ρ μ) Q
section
variable {X : Cx} {e : Expr} {es : List Expr}
theorem pe_imp {t t' : TE} (h : PE X e t) (k : ∀ σ H Q, t' σ H Q → t σ H Q) : PE X e t' := ⟨fun pins s σ H Q I q => h.run pins s σ H Q I (k σ H Q q)⟩
theorem pt_imp {t t' : TT} (h : PT X e t) (k : ∀ σ H Q, t' σ H Q → t σ H Q) : PT X e t' := ⟨fun pins s σ H Q I q => h.run pins s σ H Q I (k σ H Q q)⟩
theorem pw_imp {t t' : TT} (h : PW X e t) (k : ∀ σ H Q, t' σ H Q → t σ H Q) : PW X e t' := ⟨fun whole pins s σ H Q I q => h.run whole pins s σ H Q I (k σ H Q q)⟩
theorem pa_imp {t t' : TA} (h : PA X es t) (k : ∀ σ H Q, t' σ H Q → t σ H Q) : PA X es t' := ⟨fun pos pins s σ H Q I q => h.run pos pins s σ H Q I (k σ H Q q)⟩
theorem ps_imp {st : Stmt} {t t' : TS} (h : PS X st t) (k : ∀ D σ H, t' D σ H → t D σ H) : PS X st t' := ⟨fun pins s σ H D I q => h.run pins s σ H D I (k D σ H q)⟩
theorem pss_imp {st : List Stmt} {t t' : TS} (h : PSs X st t) (k : ∀ D σ H, t' D σ H → t D σ H) : PSs X st t' := ⟨fun pins s σ H D I q => h.run pins s σ H D I (k D σ H q)⟩
end
/-! ### names, constants -/
def eVar (i : Nat) : ME := fun ρ μ => match ρ[i]? with
  | some (.sh d) => .ok (.sh d) μ
  | some (.own o) => .ok (.slot i) μ
  | _ => .stk
def eC (d : D) : ME := fun _ μ => .ok (.sh d) μ
section
variable {X : Cx} {cad : Str → Addr} {W : WX} {pos : Pos}
theorem de_var (i : Nat) {x : Str} (hN : X.N[i]? = some x := by rfl) (hv : Vis X.env.scope x := by first | exact Or.inl rfl | exact Or.inr (Or.inl rfl) | exact Or.inr (Or.inr rfl)) (hd : (x == ("__debug__" : Str)) = false := by decide)
    (hcd : (x == ("__classdict__" : Str)) = false := by decide) : PE X (.Name x pos) (tE X.K cad W (eVar i)) := by
  refine pe_imp (pe_var hN hv hd hcd) fun σ H Q ⟨F, ι, μ, ρ, r, h⟩ => ?_
  unfold eVar at h
  split at h
  · next d e =>
    obtain ⟨v, e1, q⟩ := r.sh i d e
    exact ⟨v, e1, h F ι H v (Ext.refl _ _ _) r.rs q⟩
  · next o e =>
    obtain ⟨a, ho, e1, _⟩ := r.own i o e
    exact ⟨_, e1, h F ι H _ (Ext.refl _ _ _) r.rs ⟨e1, o, e⟩⟩
  · exact h.elim
theorem tC_of {K : PySem.W.Frag} {d : D} {v : V} (hv : ∀ ι F, VR K cad ι F d v) {σ : L2.St} {H : Hp} {Q : VK} (h : tE K cad W (eC d) σ H Q) : tC v σ H Q := by
  obtain ⟨F, ι, μ, ρ, r, h⟩ := h
  exact h F ι H v (Ext.refl _ _ _) r.rs (hv ι F)
theorem de_int {i : Int} {j} : PE X (.Constant (.int i) j pos) (tE X.K cad W (eC (.int i))) := pe_imp pe_int fun σ H Q h => tC_of (d := .int i) (fun _ _ => by unfold VR; rfl) h
theorem de_bl {b : Bool} {j} : PE X (.Constant (.bool b) j pos) (tE X.K cad W (eC (.bl b))) := pe_imp pe_bl fun σ H Q h => tC_of (d := .bl b) (fun _ _ => by unfold VR; rfl) h
theorem de_non {j} : PE X (.Constant .none j pos) (tE X.K cad W (eC .non)) := pe_imp pe_non fun σ H Q h => tC_of (d := .non) (fun _ _ => by unfold VR; rfl) h
theorem de_str {x : Str} {j} : PE X (.Constant (.str x) j pos) (tE X.K cad W (eC (.str x))) := pe_imp pe_str fun σ H Q h => tC_of (d := .str x) (fun _ _ => by unfold VR; rfl) h
/-- a module's constant: an int, a text -/
theorem de_gint {x : Str} {i : Int} (hg : Gl X x) (hm : ∃ t, X.mg x = some (.int i t)) (hd : (x == ("__debug__" : Str)) = false := by decide) : PE X (.Name x pos) (tE X.K cad W (eC (.int i))) := by
  obtain ⟨t, hm⟩ := hm
  exact pe_imp (pe_glob (v := .int i) hg hm ⟨t, rfl⟩ hd) fun σ H Q h => tC_of (d := .int i) (fun _ _ => by unfold VR; rfl) h
theorem de_gstr {x s : Str} (hg : Gl X x) (hm : ∃ t, X.mg x = some (.str s t)) (hd : (x == ("__debug__" : Str)) = false := by decide) : PE X (.Name x pos) (tE X.K cad W (eC (.str s))) := by
  obtain ⟨t, hm⟩ := hm
  exact pe_imp (pe_glob (v := .str s) hg hm ⟨t, rfl⟩ hd) fun σ H Q h => tC_of (d := .str s) (fun _ _ => by unfold VR; rfl) h
end
/-! ### data out of what an expression gave -/
def Op.toD : Op → Option D
  | .sh d => some d
  | .own (.lst xs) => some (.lst xs)
  | .own (.ins c fs) => some (.ins c (fs.map (·.1)) (fs.map (·.2)))
  | _ => none
def toD (m : ME) : Ev → Store → Res D := fun ρ μ => (m ρ μ).bind fun o μ' => Res.of o.toD μ'
section
variable {K : PySem.W.Frag} {cad : Str → Addr} {W : WX} {F F' H H' H0 : Hp} {ι ι' : List Addr} {μ μ' : Store} {ρ : Ev} {σ : L2.St}
theorem Ext.frz {p : Addr} {ho : HO} (x : Ext F ι H F' ι' H') (h1 : F' p = none) (h0 : H p = none) (hi : p ∉ ι') : Ext F ι H (upd F' p ho) ι' H' := by
  refine ⟨x.f.trans (same_new h1), x.i, x.kept, x.dom, fun a e1 e2 => ?_, x.ni, x.lk⟩
  by_cases q : a = p
  · rw [q]
    exact ⟨fun z => hi (x.i.subset z), .inl h0⟩
  · rw [upd_ne q] at e2
    exact x.nf a e1 e2
theorem Post.toD {r : Res Op} {Q : VK} (h : Post K cad W (rlD K cad) F ι H σ (r.bind fun o μ' => Res.of o.toD μ') Q) : Post K cad W (rlE K cad ρ σ) F ι H σ r Q := by
  cases r with
  | exc x μ => exact h
  | stk => exact h
  | ok o μ1 =>
    obtain ⟨d, e, h⟩ := Post.of h
    intro F1 ι1 H1 v x s q
    cases o with
    | sh d' => cases e; exact h F1 ι1 H1 v x s q
    | slot i => cases e
    | own o =>
      obtain ⟨a, ho, rfl, e2, e3, e4, e5, z⟩ := q
      have x2 := x.frz (ho := ho) e2 e4 e3
      have s2 := s.freeze e5 e3 e2
      have sm : Same F1 (upd F1 a ho) := same_new e2
      cases o with
      | lst xs =>
        cases e
        obtain ⟨vs, rfl, rv⟩ := z
        refine h _ _ _ _ x2 s2 ?_
        show VR K cad ι1 _ (.lst xs) _
        unfold VR
        exact ⟨a, vs, rfl, upd_same, VRs.mono sm List.prefix_rfl _ _ rv⟩
      | ins c fs =>
        cases e
        obtain ⟨dx, vs, rfl, rv⟩ := z
        refine h _ _ _ _ x2 s2 ?_
        show VR K cad ι1 _ (.ins c _ _) _
        unfold VR
        refine ⟨a, dx, vs, rfl, upd_same, ?_, VRs.mono sm List.prefix_rfl _ _ rv⟩
        have := rv.len
        rw [List.length_map] at this ⊢
        exact this
      | dK kvs => cases e
      | dT kvs => cases e
      | lkK kvs => cases e
      | lkT kvs => cases e
      | dead => cases e
end
section
variable {X : Cx} {cad : Str → Addr} {W : WX} {pos : Pos} {e : Expr} {es : List Expr}
theorem de_toD {m : ME} (h : PE X e (tE X.K cad W m)) : PE X e (tD X.K cad W (toD m)) := pe_imp h fun σ H Q ⟨F, ι, μ, ρ, r, q⟩ => ⟨F, ι, μ, ρ, r, q.toD⟩
/-! ### arguments -/
def aNil : MA := fun _ μ => .ok [] μ
def aCons (m : ME) (r : MA) : MA := fun ρ μ => (toD m ρ μ).bind fun d μ1 => (r ρ μ1).bind fun ds μ2 => .ok (d :: ds) μ2
theorem da_nil : PA X [] (tDs X.K cad W aNil) := pa_imp pa_nil fun σ H Q ⟨F, ι, μ, ρ, r, q⟩ => q F ι H [] (Ext.refl _ _ _) r.rs rfl
theorem da_cons {m : ME} {ms : MA} (h : PE X e (tE X.K cad W m)) (t : PA X es (tDs X.K cad W ms)) (hs : starEach (e :: es) X.env = (false, eval e X.env) :: starEach es X.env := by rfl) : PA X (e :: es) (tDs X.K cad W (aCons m ms)) := by
  refine pa_imp (pa_cons (de_toD h) t hs) fun σ H Q ⟨F, ι, μ, ρ, r, q⟩ => ?_
  refine ⟨F, ι, μ, ρ, r, q.bind fun d μ1 F1 ι1 H1 v x1 s1 q1 h1 => ?_⟩
  refine ⟨F1, ι1, μ1, ρ, r.ext x1 s1, h1.bind fun ds μ2 F2 ι2 H2 vs x2 s2 q2 h2 => ?_⟩
  exact h2 F2 ι2 H2 (v :: vs) (Ext.refl _ _ _) s2 ⟨v, vs, rfl, VR.mono x2.f x2.i _ _ q1, q2⟩
/-- arguments that are looked at -/
def oNil : Ev → Store → Res (List Op) := fun _ μ => .ok [] μ
def oCons (m : ME) (r : Ev → Store → Res (List Op)) : Ev → Store → Res (List Op) := fun ρ μ => (m ρ μ).bind fun d μ1 => (r ρ μ1).bind fun ds μ2 => .ok (d :: ds) μ2
theorem do_nil : PA X [] (tOs X.K cad W oNil) := pa_imp pa_nil fun σ H Q ⟨F, ι, μ, ρ, r, q⟩ => q F ι H [] (Ext.refl _ _ _) r.rs .nil
theorem do_cons {m : ME} {ms : Ev → Store → Res (List Op)} (h : PE X e (tE X.K cad W m)) (t : PA X es (tOs X.K cad W ms)) (hs : starEach (e :: es) X.env = (false, eval e X.env) :: starEach es X.env := by rfl) : PA X (e :: es) (tOs X.K cad W (oCons m ms)) := by
  refine pa_imp (pa_cons h t hs) fun σ H Q ⟨F, ι, μ, ρ, r, q⟩ => ?_
  refine ⟨F, ι, μ, ρ, r, q.bindX (Ext.refl _ _ _) fun d μ1 F1 ι1 H1 v x1 s1 q1 h1 => ?_⟩
  refine ⟨F1, ι1, μ1, ρ, r.ext x1 s1, h1.bindX x1 fun ds μ2 F2 ι2 H2 vs x2 s2 q2 h2 => ?_⟩
  exact h2 F2 ι2 H2 (v :: vs) (x1.trans x2) s2 (.cons (OpV.mono (H1 := H1) x2 q1) ((rlA X.K cad ρ σ).mono x1.dom q2))
end
end DL

namespace DL
open PySem PySem.Spec PyProof.Rows L2

/-! ### two operands -/
def fin2 (f : Vw → Vw → Option Rv) (ρ : Ev) (μ : Store) (x y : Op) : Option Op := (deref ρ μ x).bind fun wx => (deref ρ μ y).bind fun wy => (f wx wy).map Rv.op
def e2 (f : Vw → Vw → Option Rv) (a b : ME) : ME := fun ρ μ => (a ρ μ).bind fun x μ1 => (b ρ μ1).bind fun y μ2 => Res.of (fin2 f ρ μ2 x y) μ2
def Sd2 (K : PySem.W.Frag) (cad : Str → Addr) (r : R2) (f : Vw → Vw → Option Rv) : Prop := ∀ {F : Hp} {ι : List Addr} {μ : Store} {H : Hp} {wx wy : Vw} {vx vy : V} {rv : Rv} {Q : VK}, RS K cad F ι μ H → VwR K cad F ι H wx vx → VwR K cad F ι H wy vy → f wx wy = some rv →
  (∀ F' ι' H' v, Ext F ι H F' ι' H' → RS K cad F' ι' μ H' → RvR K cad H F' ι' H' rv v → Q v H') → r vx vy H Q
def e1 (f : Vw → Option Rv) (a : ME) : ME := fun ρ μ => (a ρ μ).bind fun x μ1 => Res.of ((deref ρ μ1 x).bind fun wx => (f wx).map Rv.op) μ1
def Sd1 (K : PySem.W.Frag) (cad : Str → Addr) (r : V → Hp → VK → Prop) (f : Vw → Option Rv) : Prop := ∀ {F : Hp} {ι : List Addr} {μ : Store} {H : Hp} {wx : Vw} {vx : V} {rv : Rv} {Q : VK}, RS K cad F ι μ H → VwR K cad F ι H wx vx → f wx = some rv →
  (∀ F' ι' H' v, Ext F ι H F' ι' H' → RS K cad F' ι' μ H' → RvR K cad H F' ι' H' rv v → Q v H') → r vx H Q
section
variable {K : PySem.W.Frag} {cad : Str → Addr} {W : WX}
theorem fin2_ok {r : R2} {f : Vw → Vw → Option Rv} (sd : Sd2 K cad r f) {F : Hp} {ι : List Addr} {μ : Store} {H : Hp} {ρ : Ev} {σ : L2.St} {x y o : Op} {vx vy : V} {H0 H1 : Hp} {Q : VK} (rr : R K cad F ι μ ρ σ H) (qx : OpV K cad ρ σ H0 F ι H x vx) (qy : OpV K cad ρ σ H1 F ι H y vy)
    (e : fin2 f ρ μ x y = some o) (q : ∀ F' ι' H' v, Ext F ι H F' ι' H' → RS K cad F' ι' μ H' → OpV K cad ρ σ H F' ι' H' o v → Q v H') : r vx vy H Q := by
  unfold fin2 at e
  cases cx : deref ρ μ x with
  | none => rw [cx] at e; cases e
  | some wx =>
    cases cy : deref ρ μ y with
    | none => rw [cx, cy] at e; cases e
    | some wy =>
      rw [cx, cy] at e
      cases cf : f wx wy with
      | none => simp [cf] at e
      | some rv =>
        simp [cf] at e
        subst e
        exact sd rr.rs (qx.view rr cx) (qy.view rr cy) cf fun F' ι' H' v x s z => q F' ι' H' v x s z.op
theorem e2_ok {r : R2} {f : Vw → Vw → Option Rv} (sd : Sd2 K cad r f) {a b : ME} {σ : L2.St} {H : Hp} {Q : VK} (h : tE K cad W (e2 f a b) σ H Q) : tOp r (tE K cad W a) (tE K cad W b) σ H Q := by
  obtain ⟨F, ι, μ, ρ, rr, q⟩ := h
  refine ⟨F, ι, μ, ρ, rr, q.bind fun x μ1 F1 ι1 H1 vx x1 s1 q1 h1 => ?_⟩
  refine ⟨F1, ι1, μ1, ρ, rr.ext x1 s1, h1.bind fun y μ2 F2 ι2 H2 vy x2 s2 q2 h2 => ?_⟩
  obtain ⟨o, e, h3⟩ := Post.of h2
  exact fin2_ok sd ((rr.ext x1 s1).ext x2 s2) (OpV.mono (H1 := H1) x2 q1) q2 e h3
theorem e1_ok {r : V → Hp → VK → Prop} {f : Vw → Option Rv} (sd : Sd1 K cad r f) {a : ME} {σ : L2.St} {H : Hp} {Q : VK} (h : tE K cad W (e1 f a) σ H Q) : tUn r (tE K cad W a) σ H Q := by
  obtain ⟨F, ι, μ, ρ, rr, q⟩ := h
  refine ⟨F, ι, μ, ρ, rr, q.bind fun x μ1 F1 ι1 H1 vx x1 s1 q1 h1 => ?_⟩
  obtain ⟨o, e, h3⟩ := Post.of h1
  cases cx : deref ρ μ1 x with
  | none => rw [cx] at e; cases e
  | some wx =>
    rw [cx] at e
    cases cf : f wx with
    | none => simp [cf] at e
    | some rv =>
      simp [cf] at e
      subst e
      exact sd s1 (OpV.view (rr.ext x1 s1) q1 cx) cf fun F' ι' H' v x s z => h3 F' ι' H' v x s z.op
end
/-! ### a test -/
def mT (m : ME) : MT := fun ρ μ => (m ρ μ).bind fun o μ' => match o with
  | .sh (.bl b) => .ok b μ'
  | _ => .stk
section
variable {X : Cx} {cad : Str → Addr} {W : WX} {pos : Pos} {a b c d : Expr} {ma mb mc md : ME} {op op' op'' : CmpOp} {r r' r'' : R2} {f f' f'' : Vw → Vw → Option Rv}
theorem mT_ok {K : PySem.W.Frag} {m : ME} {σ : L2.St} {H : Hp} {Q : Bool → Hp → Prop} (h : tT K cad W (mT m) σ H Q) : tE K cad W m σ H fun x H' => ∃ k, x = .bl k ∧ Q k H' := by
  obtain ⟨F, ι, μ, ρ, rr, q⟩ := h
  refine ⟨F, ι, μ, ρ, rr, q.bind fun o μ1 F1 ι1 H1 v x1 s1 q1 h1 => ?_⟩
  split at h1
  · next b =>
    have q1 : VR K cad ι1 F1 (.bl b) v := q1
    unfold VR at q1
    exact ⟨b, q1, h1 F1 ι1 H1 b (Ext.refl _ _ _) s1 rfl⟩
  · exact h1.elim
theorem dt_val {e : Expr} {m : ME} (h : PE X e (tE X.K cad W m)) (he : ∀ whole, isTrue e X.env whole = (do let v ← whole; standAt e.pos; holding [v] (truthy v)) := by intro _; rfl) : PT X e (tT X.K cad W (mT m)) :=
  pt_imp (pt_val h he) fun σ H Q q => mT_ok q
theorem de_bin {op : Operator} (ho : OpR X (binaryOp op) r) (sd : Sd2 X.K cad r f) (ha : PE X a (tE X.K cad W ma)) (hb : PE X b (tE X.K cad W mb)) : PE X (.BinOp a op b pos) (tE X.K cad W (e2 f ma mb)) := pe_imp (pe_op ho ha hb) fun σ H Q q => e2_ok sd q
theorem de_un {op : UnaryOp} {r : V → Hp → VK → Prop} {f : Vw → Option Rv} (ho : UnR X (unaryOp op) r) (sd : Sd1 X.K cad r f) (ha : PE X a (tE X.K cad W ma)) : PE X (.UnaryOp op a pos) (tE X.K cad W (e1 f ma)) := pe_imp (pe_un ho ha) fun σ H Q q => e1_ok sd q
theorem de_cmp (ho : OpR X (compareOp op) r) (sd : Sd2 X.K cad r f) (ha : PE X a (tE X.K cad W ma)) (hb : PE X b (tE X.K cad W mb)) (hm : behindInMarks op b = false := by first | exact nomark _ | rfl | with_unfolding_all rfl) : PE X (.Compare a [op] [b] pos) (tE X.K cad W (e2 f ma mb)) := pe_imp (pe_cmpR ho ha hb hm) fun σ H Q q => e2_ok sd q
theorem dt_cmp (ho : OpR X (compareOp op) r) (sd : Sd2 X.K cad r f) (ha : PE X a (tE X.K cad W ma)) (hb : PE X b (tE X.K cad W mb)) (hm : behindInMarks op b = false := by first | exact nomark _ | rfl | with_unfolding_all rfl) : PT X (.Compare a [op] [b] pos) (tT X.K cad W (mT (e2 f ma mb))) :=
  pt_imp (pt_cmpR ho ha hb hm) fun σ H Q q => e2_ok sd (mT_ok q)
theorem de_ix (hr : IxR X r) (sd : Sd2 X.K cad r f) (ha : PE X a (tE X.K cad W ma)) (hb : PE X b (tE X.K cad W mb)) (hs : PlainIx b := by intro _ _; rfl) : PE X (.Subscript a b pos) (tE X.K cad W (e2 f ma mb)) := pe_imp (pe_ix hr ha hb hs) fun σ H Q q => e2_ok sd q

/-! ### chains -/
def chainE (f : Vw → Vw → Option Rv) (ρ : Ev) (μ : Store) (x y : Op) (k : Store → Res Op) : Res Op := match fin2 f ρ μ x y with
  | some (.sh (.bl c)) => if c = true then k μ else .ok (.sh (.bl false)) μ
  | _ => .stk
def eCh2 (f f' : Vw → Vw → Option Rv) (a b c : ME) : ME := fun ρ μ => (a ρ μ).bind fun x μ1 => (b ρ μ1).bind fun y μ2 => chainE f ρ μ2 x y fun μ2 => (c ρ μ2).bind fun z μ3 => Res.of (fin2 f' ρ μ3 y z) μ3
def eCh3 (f f' f'' : Vw → Vw → Option Rv) (a b c d : ME) : ME := fun ρ μ => (a ρ μ).bind fun x μ1 => (b ρ μ1).bind fun y μ2 => chainE f ρ μ2 x y fun μ2 => (c ρ μ2).bind fun z μ3 => chainE f' ρ μ3 y z fun μ3 => (d ρ μ3).bind fun u μ4 => Res.of (fin2 f'' ρ μ4 z u) μ4
/-- a op b op' c op'' d -/
def tChain3 (r r' r'' : R2) (ta tb tc td : TE) : TE := fun σ H Q => ta σ H fun x H1 => tb σ H1 fun y H2 => r x y H2 fun z H3 => ∃ k, z = .bl k ∧
  (if k = true then tc σ H3 fun z' H4 => r' y z' H4 fun z2 H5 => ∃ k, z2 = .bl k ∧ (if k = true then td σ H5 fun u H6 => r'' z' u H6 Q else Q (.bl false) H5) else Q (.bl false) H3)
theorem pe_chain3 {ta tb tc td : TE} (ho : OpR X (compareOp op) r) (ho' : OpR X (compareOp op') r') (ho'' : OpR X (compareOp op'') r'') (ha : PE X a ta) (hb : PE X b tb) (hc : PE X c tc) (hd : PE X d td)
    (hm : lastMarks [op, op', op''] [b, c, d] = false := by with_unfolding_all rfl) : PE X (.Compare a [op, op', op''] [b, c, d] pos) (tChain3 r r' r'' ta tb tc td) := by
  refine ⟨fun pins s σ H Q I h => ?_⟩
  refine Compare_chain (thn (ha.run pins s σ H _ I h) fun v s1 ⟨x, H1, I1, r1, q1⟩ => chain_link (thn (hb.run pins s1 σ H1 _ I1 q1) fun u s2 ⟨y, H2, I2, r2, q2⟩ =>
    thn (ho pins s2 σ H2 x y v u _ I2 r1 r2 q2) fun d' s3 ⟨z, H3, I3, r3, k, e, q3⟩ => ?_)) hm
  subst e
  cases r3
  refine wpAny_truthy_bool ?_
  cases k with
  | false => exact ite_ff ⟨.bl false, H3, I3, rfl, q3⟩
  | true =>
    refine ite_tt (chain_link (thn (hc.run pins s3 σ H3 _ I3 q3) fun w' s4 ⟨z', H4, I4, r4, q4⟩ => thn (ho' pins s4 σ H4 y z' u w' _ I4 r2 r4 q4) fun d2 s5 ⟨z2, H5, I5, r5, k2, e2, q5⟩ => ?_))
    subst e2
    cases r5
    refine wpAny_truthy_bool ?_
    cases k2 with
    | false => exact ite_ff ⟨.bl false, H5, I5, rfl, q5⟩
    | true => exact ite_tt (chain_last (thn (hd.run pins s5 σ H5 _ I5 q5) fun w2 s6 ⟨z3, H6, I6, r6, q6⟩ => ho'' pins s6 σ H6 z' z3 w' w2 Q I6 r4 r6 q6))
theorem pt_chain3 {ta tb tc td : TE} (ho : OpR X (compareOp op) r) (ho' : OpR X (compareOp op') r') (ho'' : OpR X (compareOp op'') r'') (ha : PE X a ta) (hb : PE X b tb) (hc : PE X c tc) (hd : PE X d td)
    (hm : lastMarks [op, op', op''] [b, c, d] = false := by with_unfolding_all rfl) : PT X (.Compare a [op, op', op''] [b, c, d] pos) (tTest (tChain3 r r' r'' ta tb tc td)) := by
  refine ⟨fun pins s σ H Q I h => ?_⟩
  refine isTrue_chain (thn (ha.run pins s σ H _ I h) fun v s1 ⟨x, H1, I1, r1, q1⟩ => test_link (thn (hb.run pins s1 σ H1 _ I1 q1) fun u s2 ⟨y, H2, I2, r2, q2⟩ =>
    thn (ho pins s2 σ H2 x y v u _ I2 r1 r2 q2) fun d' s3 ⟨z, H3, I3, r3, k, e, q3⟩ => ?_)) hm
  subst e
  cases r3
  refine wpAny_truthy_bool ?_
  cases k with
  | false =>
    obtain ⟨k', e', q'⟩ := q3
    cases e'
    exact ite_ff ⟨H3, I3, q'⟩
  | true =>
    refine ite_tt (test_link (thn (hc.run pins s3 σ H3 _ I3 q3) fun w' s4 ⟨z', H4, I4, r4, q4⟩ => thn (ho' pins s4 σ H4 y z' u w' _ I4 r2 r4 q4) fun d2 s5 ⟨z2, H5, I5, r5, k2, e2, q5⟩ => ?_))
    subst e2
    cases r5
    refine wpAny_truthy_bool ?_
    cases k2 with
    | false =>
      obtain ⟨k', e', q'⟩ := q5
      cases e'
      exact ite_ff ⟨H5, I5, q'⟩
    | true =>
      refine ite_tt (test_last (thn (hd.run pins s5 σ H5 _ I5 q5) fun w2 s6 ⟨z3, H6, I6, r6, q6⟩ => thn (ho'' pins s6 σ H6 z' z3 w' w2 _ I6 r4 r6 q6) fun d3 s7 ⟨z4, H7, I7, r7, k3, e3, q7⟩ => ?_))
      subst e3
      cases r7
      exact wpAny_truthy_bool ⟨H7, I7, q7⟩
theorem chainE_ok {K : PySem.W.Frag} {W : WX} (sd : Sd2 K cad r f) {F : Hp} {ι : List Addr} {μ : Store} {H : Hp} {ρ : Ev} {σ : L2.St} {x y : Op} {vx vy : V} {H0 H1 : Hp} {k : Store → Res Op} {Q : VK} (rr : R K cad F ι μ ρ σ H) (qx : OpV K cad ρ σ H0 F ι H x vx) (qy : OpV K cad ρ σ H1 F ι H y vy)
    (h : Post K cad W (rlE K cad ρ σ) F ι H σ (chainE f ρ μ x y k) Q) {P : Hp → Prop} (kk : ∀ F' ι' H', Ext F ι H F' ι' H' → RS K cad F' ι' μ H' → Post K cad W (rlE K cad ρ σ) F' ι' H' σ (k μ) Q → P H') :
    r vx vy H fun z H3 => ∃ k, z = .bl k ∧ (if k = true then P H3 else Q (.bl false) H3) := by
  unfold chainE at h
  split at h
  · next c e =>
    refine fin2_ok sd rr qx qy e fun F' ι' H' v x s q => ?_
    have q : VR K cad ι' F' (.bl c) v := q
    unfold VR at q
    refine ⟨c, q, ?_⟩
    cases c with
    | true => rw [if_pos rfl] at h ⊢; exact kk F' ι' H' x s (h.ext x)
    | false =>
      rw [if_neg Bool.false_ne_true] at h ⊢
      refine h F' ι' H' _ x s ?_
      show VR K cad ι' F' (.bl false) _
      unfold VR
      rfl
  · exact h.elim
theorem eCh2_ok {K : PySem.W.Frag} {W : WX} (sd : Sd2 K cad r f) (sd' : Sd2 K cad r' f') {σ : L2.St} {H : Hp} {Q : VK} (h : tE K cad W (eCh2 f f' ma mb mc) σ H Q) : tChain r r' (tE K cad W ma) (tE K cad W mb) (tE K cad W mc) σ H Q := by
  obtain ⟨F, ι, μ, ρ, rr, q⟩ := h
  refine ⟨F, ι, μ, ρ, rr, q.bind fun x μ1 F1 ι1 H1 vx x1 s1 q1 h1 => ?_⟩
  refine ⟨F1, ι1, μ1, ρ, rr.ext x1 s1, h1.bind fun y μ2 F2 ι2 H2 vy x2 s2 q2 h2 => ?_⟩
  have r2 := (rr.ext x1 s1).ext x2 s2
  refine chainE_ok sd r2 (OpV.mono (H1 := H1) x2 q1) q2 h2 fun F3 ι3 H3 x3 s3 h3 => ?_
  refine ⟨F3, ι3, μ2, ρ, r2.ext x3 s3, h3.bind fun z μ4 F4 ι4 H4 vz x4 s4 q4 h4 => ?_⟩
  obtain ⟨o, e, h5⟩ := Post.of h4
  exact fin2_ok sd' ((r2.ext x3 s3).ext x4 s4) (OpV.mono (H1 := H1) x4 (OpV.mono (H1 := H1) x3 q2)) q4 e h5
theorem eCh3_ok {K : PySem.W.Frag} {W : WX} (sd : Sd2 K cad r f) (sd' : Sd2 K cad r' f') (sd'' : Sd2 K cad r'' f'') {σ : L2.St} {H : Hp} {Q : VK} (h : tE K cad W (eCh3 f f' f'' ma mb mc md) σ H Q) : tChain3 r r' r'' (tE K cad W ma) (tE K cad W mb) (tE K cad W mc) (tE K cad W md) σ H Q := by
  obtain ⟨F, ι, μ, ρ, rr, q⟩ := h
  refine ⟨F, ι, μ, ρ, rr, q.bind fun x μ1 F1 ι1 H1 vx x1 s1 q1 h1 => ?_⟩
  refine ⟨F1, ι1, μ1, ρ, rr.ext x1 s1, h1.bind fun y μ2 F2 ι2 H2 vy x2 s2 q2 h2 => ?_⟩
  have r2 := (rr.ext x1 s1).ext x2 s2
  refine chainE_ok sd r2 (OpV.mono (H1 := H1) x2 q1) q2 h2 fun F3 ι3 H3 x3 s3 h3 => ?_
  have r3 := r2.ext x3 s3
  refine ⟨F3, ι3, μ2, ρ, r3, h3.bind fun z μ4 F4 ι4 H4 vz x4 s4 q4 h4 => ?_⟩
  have r4 := r3.ext x4 s4
  refine chainE_ok sd' r4 (OpV.mono (H1 := H1) x4 (OpV.mono (H1 := H1) x3 q2)) q4 h4 fun F5 ι5 H5 x5 s5 h5 => ?_
  have r5 := r4.ext x5 s5
  refine ⟨F5, ι5, μ4, ρ, r5, h5.bind fun u μ6 F6 ι6 H6 vu x6 s6 q6 h6 => ?_⟩
  obtain ⟨o, e, h7⟩ := Post.of h6
  exact fin2_ok sd'' (r5.ext x6 s6) (OpV.mono (H1 := H1) x6 (OpV.mono (H1 := H1) x5 q4)) q6 e h7
theorem de_ch2 (ho : OpR X (compareOp op) r) (sd : Sd2 X.K cad r f) (ho' : OpR X (compareOp op') r') (sd' : Sd2 X.K cad r' f') (ha : PE X a (tE X.K cad W ma)) (hb : PE X b (tE X.K cad W mb)) (hc : PE X c (tE X.K cad W mc)) (hm : lastMarks [op, op'] [b, c] = false := by with_unfolding_all rfl) :
    PE X (.Compare a [op, op'] [b, c] pos) (tE X.K cad W (eCh2 f f' ma mb mc)) := pe_imp (pe_chain ho ho' ha hb hc hm) fun σ H Q q => eCh2_ok sd sd' q
theorem dt_ch2 (ho : OpR X (compareOp op) r) (sd : Sd2 X.K cad r f) (ho' : OpR X (compareOp op') r') (sd' : Sd2 X.K cad r' f') (ha : PE X a (tE X.K cad W ma)) (hb : PE X b (tE X.K cad W mb)) (hc : PE X c (tE X.K cad W mc)) (hm : lastMarks [op, op'] [b, c] = false := by with_unfolding_all rfl) :
    PT X (.Compare a [op, op'] [b, c] pos) (tT X.K cad W (mT (eCh2 f f' ma mb mc))) := pt_imp (pt_chain ho ho' ha hb hc hm) fun σ H Q q => eCh2_ok sd sd' (mT_ok q)
theorem de_ch3 (ho : OpR X (compareOp op) r) (sd : Sd2 X.K cad r f) (ho' : OpR X (compareOp op') r') (sd' : Sd2 X.K cad r' f') (ho'' : OpR X (compareOp op'') r'') (sd'' : Sd2 X.K cad r'' f'') (ha : PE X a (tE X.K cad W ma)) (hb : PE X b (tE X.K cad W mb)) (hc : PE X c (tE X.K cad W mc)) (hd : PE X d (tE X.K cad W md))
    (hm : lastMarks [op, op', op''] [b, c, d] = false := by with_unfolding_all rfl) : PE X (.Compare a [op, op', op''] [b, c, d] pos) (tE X.K cad W (eCh3 f f' f'' ma mb mc md)) := pe_imp (pe_chain3 ho ho' ho'' ha hb hc hd hm) fun σ H Q q => eCh3_ok sd sd' sd'' q
theorem dt_ch3 (ho : OpR X (compareOp op) r) (sd : Sd2 X.K cad r f) (ho' : OpR X (compareOp op') r') (sd' : Sd2 X.K cad r' f') (ho'' : OpR X (compareOp op'') r'') (sd'' : Sd2 X.K cad r'' f'') (ha : PE X a (tE X.K cad W ma)) (hb : PE X b (tE X.K cad W mb)) (hc : PE X c (tE X.K cad W mc)) (hd : PE X d (tE X.K cad W md))
    (hm : lastMarks [op, op', op''] [b, c, d] = false := by with_unfolding_all rfl) : PT X (.Compare a [op, op', op''] [b, c, d] pos) (tT X.K cad W (mT (eCh3 f f' f'' ma mb mc md))) := pt_imp (pt_chain3 ho ho' ho'' ha hb hc hd hm) fun σ H Q q => eCh3_ok sd sd' sd'' (mT_ok q)
end

/-! ### and, or, not, if .. else -/
def mAnd (a b : MT) : MT := fun ρ μ => (a ρ μ).bind fun c μ1 => if c = true then b ρ μ1 else .ok false μ1
def mOr (a b : MT) : MT := fun ρ μ => (a ρ μ).bind fun c μ1 => if c = true then .ok true μ1 else b ρ μ1
def mNot (a : MT) : MT := fun ρ μ => (a ρ μ).bind fun c μ1 => .ok (!c) μ1
/-- a test as a value -/
def eB (m : MT) : ME := fun ρ μ => (m ρ μ).bind fun b μ1 => .ok (.sh (.bl b)) μ1
def eIf (t : MT) (a b : ME) : ME := fun ρ μ => (t ρ μ).bind fun c μ1 => if c = true then a ρ μ1 else b ρ μ1
section
variable {X : Cx} {cad : Str → Addr} {W : WX} {pos : Pos} {a b : Expr} {rest : List Expr} {ma mb : ME} {ta tb : MT}
theorem dw_and (ha : PT X a (tT X.K cad W ta)) (hb : PW X (.BoolOp .And (b :: rest) pos) (tT X.K cad W tb)) : PW X (.BoolOp .And (a :: b :: rest) pos) (tT X.K cad W (mAnd ta tb)) := by
  refine pw_imp (pw_and ha hb) fun σ H Q ⟨F, ι, μ, ρ, rr, q⟩ => ?_
  refine ⟨F, ι, μ, ρ, rr, q.bind fun c μ1 F1 ι1 H1 k x1 s1 q1 h1 => ?_⟩
  have q1 : c = k := q1
  subst q1
  cases c with
  | true => rw [if_pos rfl] at h1 ⊢; exact ⟨F1, ι1, μ1, ρ, rr.ext x1 s1, h1⟩
  | false => rw [if_neg Bool.false_ne_true] at h1 ⊢; exact h1 F1 ι1 H1 false (Ext.refl _ _ _) s1 rfl
theorem dw_or (ha : PT X a (tT X.K cad W ta)) (hb : PW X (.BoolOp .Or (b :: rest) pos) (tT X.K cad W tb)) : PW X (.BoolOp .Or (a :: b :: rest) pos) (tT X.K cad W (mOr ta tb)) := by
  refine pw_imp (pw_or ha hb) fun σ H Q ⟨F, ι, μ, ρ, rr, q⟩ => ?_
  refine ⟨F, ι, μ, ρ, rr, q.bind fun c μ1 F1 ι1 H1 k x1 s1 q1 h1 => ?_⟩
  have q1 : c = k := q1
  subst q1
  cases c with
  | true => rw [if_pos rfl] at h1 ⊢; exact h1 F1 ι1 H1 true (Ext.refl _ _ _) s1 rfl
  | false => rw [if_neg Bool.false_ne_true] at h1 ⊢; exact ⟨F1, ι1, μ1, ρ, rr.ext x1 s1, h1⟩
theorem dt_not (ha : PT X a (tT X.K cad W ta)) : PT X (.UnaryOp .Not a pos) (tT X.K cad W (mNot ta)) := by
  refine pt_imp (pt_not ha) fun σ H Q ⟨F, ι, μ, ρ, rr, q⟩ => ?_
  refine ⟨F, ι, μ, ρ, rr, q.bind fun c μ1 F1 ι1 H1 k x1 s1 q1 h1 => ?_⟩
  have q1 : c = k := q1
  subst q1
  exact h1 F1 ι1 H1 (!c) (Ext.refl _ _ _) s1 rfl
/-- a value that is True or False, by its test -/
structure PB (X : Cx) (cad : Str → Addr) (W : WX) (e : Expr) (m : MT) : Prop where
  v : PE X e (tE X.K cad W (eB m))
theorem eB_ok {K : PySem.W.Frag} {m : ME} {σ : L2.St} {H : Hp} {Q : VK} (h : tE K cad W (eB (mT m)) σ H Q) : tE K cad W m σ H Q := by
  obtain ⟨F, ι, μ, ρ, rr, q⟩ := h
  refine ⟨F, ι, μ, ρ, rr, ?_⟩
  unfold eB mT at q
  cases c : m ρ μ with
  | stk => rw [c] at q; exact q
  | exc x μ1 => rw [c] at q; exact q
  | ok o μ1 =>
    rw [c] at q
    cases o with
    | own o => exact q.elim
    | slot i => exact q.elim
    | sh d =>
      cases d with
      | bl b => exact q
      | _ => exact q.elim
theorem pb_val {e : Expr} {m : ME} (h : PE X e (tE X.K cad W m)) : PB X cad W e (mT m) := ⟨pe_imp h fun σ H Q q => eB_ok q⟩
theorem pb_one {op} (ha : PB X cad W a ta) : PB X cad W (.BoolOp op [a] pos) ta := ⟨pe_one ha.v⟩
theorem pb_and (ha : PB X cad W a ta) (hb : PB X cad W (.BoolOp .And (b :: rest) pos) tb) : PB X cad W (.BoolOp .And (a :: b :: rest) pos) (mAnd ta tb) := by
  refine ⟨pe_imp (pe_and ha.v hb.v) fun σ H Q ⟨F, ι, μ, ρ, rr, q⟩ => ?_⟩
  refine ⟨F, ι, μ, ρ, rr, ?_⟩
  unfold eB mAnd at q
  unfold eB
  cases c : ta ρ μ with
  | stk => rw [c] at q; exact q
  | exc x μ1 => rw [c] at q; exact q
  | ok k μ1 =>
    rw [c] at q
    intro F1 ι1 H1 v x1 s1 q1
    have q1 : VR X.K cad ι1 F1 (.bl k) v := q1
    unfold VR at q1
    refine ⟨k, q1, ?_⟩
    cases k with
    | true =>
      rw [if_pos rfl]
      exact ⟨F1, ι1, μ1, ρ, rr.ext x1 s1, Post.ext x1 q⟩
    | false =>
      rw [if_neg Bool.false_ne_true]
      refine q F1 ι1 H1 _ x1 s1 ?_
      show VR X.K cad ι1 F1 (.bl false) _
      unfold VR
      rfl
theorem pb_or (ha : PB X cad W a ta) (hb : PB X cad W (.BoolOp .Or (b :: rest) pos) tb) : PB X cad W (.BoolOp .Or (a :: b :: rest) pos) (mOr ta tb) := by
  refine ⟨pe_imp (pe_or ha.v hb.v) fun σ H Q ⟨F, ι, μ, ρ, rr, q⟩ => ?_⟩
  refine ⟨F, ι, μ, ρ, rr, ?_⟩
  unfold eB mOr at q
  unfold eB
  cases c : ta ρ μ with
  | stk => rw [c] at q; exact q
  | exc x μ1 => rw [c] at q; exact q
  | ok k μ1 =>
    rw [c] at q
    intro F1 ι1 H1 v x1 s1 q1
    have q1 : VR X.K cad ι1 F1 (.bl k) v := q1
    unfold VR at q1
    refine ⟨k, q1, ?_⟩
    cases k with
    | false =>
      rw [if_neg Bool.false_ne_true]
      exact ⟨F1, ι1, μ1, ρ, rr.ext x1 s1, Post.ext x1 q⟩
    | true =>
      rw [if_pos rfl]
      refine q F1 ι1 H1 _ x1 s1 ?_
      show VR X.K cad ι1 F1 (.bl true) _
      unfold VR
      rfl
theorem pb_not (ha : PB X cad W a ta) : PB X cad W (.UnaryOp .Not a pos) (mNot ta) := by
  refine ⟨pe_imp (pe_not ha.v) fun σ H Q ⟨F, ι, μ, ρ, rr, q⟩ => ?_⟩
  refine ⟨F, ι, μ, ρ, rr, ?_⟩
  unfold eB mNot at q
  unfold eB
  cases c : ta ρ μ with
  | stk => rw [c] at q; exact q
  | exc x μ1 => rw [c] at q; exact q
  | ok k μ1 =>
    rw [c] at q
    intro F1 ι1 H1 v x1 s1 q1
    have q1 : VR X.K cad ι1 F1 (.bl k) v := q1
    unfold VR at q1
    refine ⟨k, q1, q F1 ι1 H1 _ x1 s1 ?_⟩
    show VR X.K cad ι1 F1 (.bl (!k)) _
    unfold VR
    rfl
theorem de_ifx {t : Expr} {mt : MT} (ht : PT X t (tT X.K cad W mt)) (ha : PE X a (tE X.K cad W ma)) (hb : PE X b (tE X.K cad W mb)) : PE X (.IfExp t a b pos) (tE X.K cad W (eIf mt ma mb)) := by
  refine pe_imp (pe_ifExp ht ha hb) fun σ H Q ⟨F, ι, μ, ρ, rr, q⟩ => ?_
  refine ⟨F, ι, μ, ρ, rr, q.bind fun c μ1 F1 ι1 H1 k x1 s1 q1 h1 => ?_⟩
  have q1 : c = k := q1
  subst q1
  cases c with
  | true => rw [if_pos rfl] at h1 ⊢; exact ⟨F1, ι1, μ1, ρ, rr.ext x1 s1, h1⟩
  | false => rw [if_neg Bool.false_ne_true] at h1 ⊢; exact ⟨F1, ι1, μ1, ρ, rr.ext x1 s1, h1⟩
end
end DL

namespace DL
open PySem PySem.Spec PyProof.Rows L2
section
variable {K : PySem.W.Frag} {cad : Str → Addr} {F F' H H' H0 : Hp} {ι ι' : List Addr} {μ : Store} {v : V}
theorem VR.int_ {i : Int} : VR K cad ι F (.int i) v ↔ v = .int i := by unfold VR; exact Iff.rfl
theorem VR.bl_ {i : Bool} : VR K cad ι F (.bl i) v ↔ v = .bl i := by unfold VR; exact Iff.rfl
theorem VR.str_ {i : Str} : VR K cad ι F (.str i) v ↔ v = .str i := by unfold VR; exact Iff.rfl
theorem VR.non_ : VR K cad ι F .non v ↔ v = .non := by unfold VR; exact Iff.rfl
theorem VR.tup_ {ds : List D} : VR K cad ι F (.tup ds) v ↔ ∃ a vs, v = .ref a ∧ F a = some (.tup vs) ∧ VRs K cad ι F ds vs := by unfold VR; exact Iff.rfl
theorem VR.lst_ {ds : List D} : VR K cad ι F (.lst ds) v ↔ ∃ a vs, v = .ref a ∧ F a = some (.lst vs) ∧ VRs K cad ι F ds vs := by unfold VR; exact Iff.rfl
theorem VR.loc_ {n : Nat} : VR K cad ι F (.loc n) v ↔ ∃ a, v = .ref a ∧ ι[n]? = some a := by unfold VR; exact Iff.rfl
theorem VR.scr_ {ns : List Int} : VR K cad ι F (.scr ns) v ↔ ∃ a, v = .ref a ∧ SqL K F a (ns.map V.int) := by unfold VR; exact Iff.rfl
/-- nothing new: a plain answer -/
theorem fin_sh {Q : VK} {d : D} (rs : RS K cad F ι μ H) (q : ∀ F' ι' H' v, Ext F ι H F' ι' H' → RS K cad F' ι' μ H' → RvR K cad H F' ι' H' (.sh d) v → Q v H') (h : VR K cad ι F d v) : Q v H := q F ι H v (Ext.refl _ _ _) rs h
theorem fin_int {Q : VK} {i : Int} (rs : RS K cad F ι μ H) (q : ∀ F' ι' H' v, Ext F ι H F' ι' H' → RS K cad F' ι' μ H' → RvR K cad H F' ι' H' (.sh (.int i)) v → Q v H') : Q (.int i) H := fin_sh rs q (VR.int_.mpr rfl)
theorem fin_bl {Q : VK} {i : Bool} (rs : RS K cad F ι μ H) (q : ∀ F' ι' H' v, Ext F ι H F' ι' H' → RS K cad F' ι' μ H' → RvR K cad H F' ι' H' (.sh (.bl i)) v → Q v H') : Q (.bl i) H := fin_sh rs q (VR.bl_.mpr rfl)
theorem fin_str {Q : VK} {i : Str} (rs : RS K cad F ι μ H) (q : ∀ F' ι' H' v, Ext F ι H F' ι' H' → RS K cad F' ι' μ H' → RvR K cad H F' ι' H' (.sh (.str i)) v → Q v H') : Q (.str i) H := fin_sh rs q (VR.str_.mpr rfl)
/-- a new thing of its own -/
theorem fin_own {Q : VK} {o : Ob} {ho : HO} {p : Addr} (rs : RS K cad F ι μ H) (q : ∀ F' ι' H' v, Ext F ι H F' ι' H' → RS K cad F' ι' μ H' → RvR K cad H F' ι' H' (.own o) v → Q v H') (hp : H p = none) (h : OR K cad ι F o ho) : Q (.ref p) (upd H p ho) :=
  q F ι _ _ (Ext.newH hp) (rs.newH hp) ⟨p, ho, rfl, (rs.fresh hp).1, (rs.fresh hp).2, hp, upd_same, h⟩
/-- a new tuple -/
theorem fin_tup {Q : VK} {ds : List D} {vs : List V} {p : Addr} (rs : RS K cad F ι μ H) (q : ∀ F' ι' H' v, Ext F ι H F' ι' H' → RS K cad F' ι' μ H' → RvR K cad H F' ι' H' (.sh (.tup ds)) v → Q v H') (hp : H p = none) (h : VRs K cad ι F ds vs) : Q (.ref p) (upd H p (.tup vs)) :=
  q _ ι _ _ (Ext.newF rs hp) (rs.newF hp) (VR.tup_.mpr ⟨p, vs, rfl, upd_same, VRs.mono (same_new (rs.fresh hp).1) List.prefix_rfl _ _ h⟩)
theorem vw_int {i : Int} (h : VwR K cad F ι H (.d (.int i)) v) : v = .int i := VR.int_.mp (show VR K cad ι F (.int i) v from h)
theorem vw_bl {i : Bool} (h : VwR K cad F ι H (.d (.bl i)) v) : v = .bl i := VR.bl_.mp (show VR K cad ι F (.bl i) v from h)
theorem vw_str {i : Str} (h : VwR K cad F ι H (.d (.str i)) v) : v = .str i := VR.str_.mp (show VR K cad ι F (.str i) v from h)
theorem vw_non (h : VwR K cad F ι H (.d .non) v) : v = .non := VR.non_.mp (show VR K cad ι F (.non) v from h)
theorem vw_tup {ds : List D} (h : VwR K cad F ι H (.d (.tup ds)) v) : ∃ a vs, v = .ref a ∧ F a = some (.tup vs) ∧ VRs K cad ι F ds vs := VR.tup_.mp (show VR K cad ι F (.tup ds) v from h)
theorem vw_scr {ns : List Int} (h : VwR K cad F ι H (.d (.scr ns)) v) : ∃ a, v = .ref a ∧ SqL K F a (ns.map V.int) := VR.scr_.mp (show VR K cad ι F (.scr ns) v from h)
theorem SqT.sub (rs : RS K cad F ι μ H) {a : Addr} {vs : List V} (e : F a = some (.tup vs)) : SqT K H a vs := SqT.of (rs.sub _ _ e)
end

/-! ### arithmetic -/
def fAdd : Vw → Vw → Option Rv
  | .d (.int i), .d (.int j) => some (.sh (.int (i + j)))
  | .d (.str a), .d (.str b) => if a.length + b.length ≤ 16777216 then some (.sh (.str (a ++ b))) else none
  | .ob (.lst xs), .ob (.lst ys) => if xs.length + ys.length ≤ 16777216 then some (.own (.lst (xs ++ ys))) else none
  | .d (.tup xs), .d (.tup ys) => if xs.length + ys.length ≤ 16777216 then some (.sh (.tup (xs ++ ys))) else none
  | _, _ => none
def rAddA (K : PySem.W.Frag) : R2 := fun x y H Q => (rI0 fun i j => .int (i + j)) x y H Q ∨ (∃ i j, x = .str i ∧ y = .str j ∧ i.length + j.length ≤ sizeLine ∧ Q (.str (i ++ j)) H) ∨ rCat x y H Q ∨ rCatA K x y H Q
theorem op_addA {X : Cx} : OpR X (binaryOp .Add) (rAddA X.K) := op_add.or (op_add_str.or (op_cat.or op_catA))
theorem line_eq {n : Nat} : n ≤ sizeLine ↔ n ≤ 16777216 := by rw [sizeLine_eq]
section
variable {K : PySem.W.Frag} {cad : Str → Addr}
theorem sd_add : Sd2 K cad (rAddA K) fAdd := by
  intro F ι μ H wx wy vx vy rv Q rs hx hy e q
  unfold fAdd at e
  split at e
  · cases e
    obtain rfl := vw_int hx
    obtain rfl := vw_int hy
    exact .inl ⟨_, _, rfl, rfl, fin_int rs q⟩
  · split at e
    · next h =>
      cases e
      obtain rfl := vw_str hx
      obtain rfl := vw_str hy
      exact .inr (.inl ⟨_, _, rfl, rfl, line_eq.mpr h, fin_str rs q⟩)
    · cases e
  · split at e
    · next h =>
      cases e
      obtain ⟨a, rfl, vs, e1, r1⟩ := hx
      obtain ⟨b, rfl, us, e2, r2⟩ := hy
      refine .inr (.inr (.inl ⟨a, b, vs, us, rfl, rfl, e1, e2, ?_, fun p hp => fin_own rs q hp ⟨_, rfl, r1.app r2⟩⟩))
      rw [← r1.len, ← r2.len]
      exact line_eq.mpr h
    · cases e
  · split at e
    · next xs ys h =>
      cases e
      obtain ⟨a, vs, rfl, e1, r1⟩ := vw_tup hx
      obtain ⟨b, us, rfl, e2, r2⟩ := vw_tup hy
      refine .inr (.inr (.inr ⟨a, b, vs, us, rfl, rfl, SqT.sub rs e1, SqT.sub rs e2, ?_, ?_⟩))
      · rw [← r1.len, ← r2.len]
        exact line_eq.mpr h
      · refine ⟨fun z => ?_, fun z1 z2 => ?_, fun z1 z2 p hp => fin_tup rs q hp (r1.app r2)⟩
        · subst z
          refine fin_sh rs q (VR.tup_.mpr ⟨b, us, rfl, e2, ?_⟩)
          have : xs = [] := List.eq_nil_of_length_eq_zero r1.len
          subst this
          exact r2
        · subst z2
          refine fin_sh rs q (VR.tup_.mpr ⟨a, vs, rfl, e1, ?_⟩)
          have : ys = [] := List.eq_nil_of_length_eq_zero r2.len
          subst this
          rw [List.append_nil]
          exact r1
    · cases e
  · cases e
/-- two ints, with a condition -/
def fI (c : Int → Int → Bool) (g : Int → Int → D) : Vw → Vw → Option Rv
  | .d (.int i), .d (.int j) => if c i j = true then some (.sh (g i j)) else none
  | _, _ => none
theorem sd_I {C : Int → Int → Prop} {c : Int → Int → Bool} {gv : Int → Int → V} {g : Int → Int → D} (hc : ∀ i j, c i j = true → C i j) (hg : ∀ ι F i j, VR K cad ι F (g i j) (gv i j)) : Sd2 K cad (rI C gv) (fI c g) := by
  intro F ι μ H wx wy vx vy rv Q rs hx hy e q
  unfold fI at e
  split at e
  · split at e
    · next h =>
      cases e
      obtain rfl := vw_int hx
      obtain rfl := vw_int hy
      exact ⟨_, _, rfl, rfl, hc _ _ h, fin_sh rs q (hg _ _ _ _)⟩
    · cases e
  · cases e
def fSub : Vw → Vw → Option Rv := fI (fun _ _ => true) fun i j => .int (i - j)
theorem op_subA {X : Cx} : OpR X (binaryOp .Sub) (rI (fun _ _ => True) fun i j => .int (i - j)) := fun pins s σ H x y v u Q I r1 r2 ⟨i, j, e1, e2, _, q⟩ => op_sub pins s σ H x y v u Q I r1 r2 ⟨i, j, e1, e2, q⟩
theorem sd_sub : Sd2 K cad (rI (fun _ _ => True) fun i j => .int (i - j)) fSub := sd_I (fun _ _ _ => trivial) fun _ _ _ _ => VR.int_.mpr rfl
def cDiv (_ j : Int) : Bool := decide (0 < j ∧ j < 18446744073709551616)
def fDiv : Vw → Vw → Option Rv := fI cDiv fun i j => .int (i / j)
theorem cDiv_ok {i j : Int} (h : cDiv i j = true) : CDivW i j := by
  obtain ⟨h0, h1⟩ := of_decide_eq_true h
  exact wide_div (b := 64) h0 (by show j.natAbs < 18446744073709551616; omega) (by decide) (by decide)
theorem sd_div : Sd2 K cad (rI CDivW fun i j => .int (i / j)) fDiv := sd_I (fun i j h => cDiv_ok h) fun _ _ _ _ => VR.int_.mpr rfl
def fMod : Vw → Vw → Option Rv := fI (fun _ j => decide (0 < j)) fun i j => .int (i % j)
theorem sd_mod : Sd2 K cad (rI (fun _ j => 0 < j) fun i j => .int (i % j)) fMod := sd_I (fun i j h => of_decide_eq_true h) fun _ _ _ _ => VR.int_.mpr rfl
def cPow (i j : Int) : Bool := decide (0 ≤ j ∧ j ≤ 1000000 ∧ i.natAbs < 18446744073709551616)
def fPow : Vw → Vw → Option Rv := fI cPow fun i j => .int (i ^ j.toNat)
theorem sd_pow : Sd2 K cad (rI CPow fun i j => .int (i ^ j.toNat)) fPow := sd_I (fun i j h => of_decide_eq_true h) fun _ _ _ _ => VR.int_.mpr rfl
/-- ints; a list times an int -/
def fMul : Vw → Vw → Option Rv
  | .d (.int i), .d (.int j) => if (-18446744073709551616 < i ∧ i < 18446744073709551616) ∨ (-18446744073709551616 < j ∧ j < 18446744073709551616) then some (.sh (.int (i * j))) else none
  | .ob (.lst xs), .d (.int k) => if -9223372036854775808 ≤ k ∧ k < 9223372036854775808 ∧ xs.length * k.toNat ≤ 16777216 then some (.own (.lst (List.replicate k.toNat xs).flatten)) else none
  | _, _ => none
def rMulA : R2 := fun x y H Q => rI CMul (fun i j => .int (i * j)) x y H Q ∨ rRep x y H Q
theorem op_mulA {X : Cx} : OpR X (binaryOp .Mult) rMulA := op_mul.or op_rep
theorem VRs.rep {F : Hp} {ι : List Addr} {ds : List D} {vs : List V} (h : VRs K cad ι F ds vs) : ∀ k : Nat, VRs K cad ι F (List.replicate k ds).flatten (List.replicate k vs).flatten
  | 0 => rfl
  | k + 1 => by
    rw [List.replicate_succ, List.replicate_succ, List.flatten_cons, List.flatten_cons]
    exact h.app (VRs.rep h k)
theorem sd_mul : Sd2 K cad rMulA fMul := by
  intro F ι μ H wx wy vx vy rv Q rs hx hy e q
  unfold fMul at e
  split at e
  · split at e
    · next h =>
      cases e
      obtain rfl := vw_int hx
      obtain rfl := vw_int hy
      exact .inl ⟨_, _, rfl, rfl, h, fin_int rs q⟩
    · cases e
  · split at e
    · next h =>
      cases e
      obtain ⟨a, rfl, vs, e1, r1⟩ := hx
      obtain rfl := vw_int hy
      refine .inr ⟨a, _, vs, rfl, rfl, e1, h.1, h.2.1, ?_, fun p hp => fin_own rs q hp ⟨_, rfl, r1.rep _⟩⟩
      rw [← r1.len]
      exact line_eq.mpr h.2.2
    · cases e
  · cases e
def fNeg : Vw → Option Rv
  | .d (.int i) => some (.sh (.int (-i)))
  | _ => none
theorem sd_neg : Sd1 K cad (rU fun i => .int (-i)) fNeg := by
  intro F ι μ H wx vx rv Q rs hx e q
  unfold fNeg at e
  split at e
  · cases e
    obtain rfl := vw_int hx
    exact ⟨_, rfl, fin_int rs q⟩
  · cases e
end

/-! ### order: ints, tuples of ints -/
def D.ints : List D → Option (List Int)
  | [] => some []
  | .int i :: r => (D.ints r).map (i :: ·)
  | _ :: _ => none
/-- from the first pair that differs on; z: what the lengths give -/
def lexZ (p : Int → Int → Bool) (z : Bool) : List Int → List Int → Bool
  | x :: xs, y :: ys => if x = y then lexZ p z xs ys else p x y
  | _, _ => z
theorem lexAt_shift {x y : Int} {p : Int → Int → Bool} {z : Bool} {xs ys : List Int} : ∀ (k i : Nat), Ob.lexAt (fun j => decide ((x :: xs).getD j 0 = (y :: ys).getD j 0)) (fun j => p ((x :: xs).getD j 0) ((y :: ys).getD j 0)) z (i + 1) k = Ob.lexAt (fun j => decide (xs.getD j 0 = ys.getD j 0)) (fun j => p (xs.getD j 0) (ys.getD j 0)) z i k
  | 0, _ => rfl
  | k + 1, i => by
    rw [Ob.lexAt_succ, Ob.lexAt_succ, lexAt_shift k (i + 1)]
    rfl
theorem lexAt_eq (p : Int → Int → Bool) (z : Bool) : ∀ xs ys : List Int, Ob.lexAt (fun j => decide (xs.getD j 0 = ys.getD j 0)) (fun j => p (xs.getD j 0) (ys.getD j 0)) z 0 (min xs.length ys.length) = lexZ p z xs ys
  | [], ys => by
    rw [show min ([] : List Int).length ys.length = 0 by simp]
    cases ys <;> rfl
  | _ :: _, [] => rfl
  | x :: xs, y :: ys => by
    rw [show min (x :: xs).length (y :: ys).length = min xs.length ys.length + 1 by simp only [List.length_cons]; omega, Ob.lexAt_succ, lexAt_shift, lexAt_eq p z xs ys]
    show (if decide (x = y) = true then lexZ p z xs ys else p x y) = lexZ p z (x :: xs) (y :: ys)
    rw [lexZ]
    by_cases h : x = y
    · rw [if_pos (decide_eq_true h), if_pos h]
    · rw [if_neg (by rw [decide_eq_false h]; exact Bool.false_ne_true), if_neg h]
/-- x op y: ints by p, tuples of ints by q -/
def fOrd (p : Int → Int → Bool) (q : List Int → List Int → Bool) : Vw → Vw → Option Rv
  | .d (.int i), .d (.int j) => some (.sh (.bl (p i j)))
  | .d (.tup xs), .d (.tup ys) => (D.ints xs).bind fun ns => (D.ints ys).map fun ms => .sh (.bl (q ns ms))
  | _, _ => none
def rOrdT (K : PySem.W.Frag) (q : List Int → List Int → Bool) : R2 := fun x y H Q => ∃ a b ns ms, x = .ref a ∧ y = .ref b ∧ SqT K H a (ns.map V.int) ∧ SqT K H b (ms.map V.int) ∧ Q (.bl (q ns ms)) H
def rOrd (K : PySem.W.Frag) (p : Int → Int → Bool) (q : List Int → List Int → Bool) : R2 := fun x y H Q => rI0 (fun i j => .bl (p i j)) x y H Q ∨ rOrdT K q x y H Q
section
variable {K : PySem.W.Frag} {cad : Str → Addr}
theorem ints_vals {F : Hp} {ι : List Addr} : ∀ {ds : List D} {vs : List V} {ns : List Int}, VRs K cad ι F ds vs → D.ints ds = some ns → vs = ns.map V.int
  | [], _, _, h, e => by
    cases e
    exact h
  | d :: ds, _, ns, h, e => by
    obtain ⟨v, vs, rfl, r, t⟩ := h
    cases d with
    | int i =>
      cases c : D.ints ds with
      | none => simp [D.ints, c] at e
      | some ms =>
        simp [D.ints, c] at e
        subst e
        rw [VR.int_.mp r, ints_vals t c]
        rfl
    | _ => simp [D.ints] at e
theorem sd_ord {p : Int → Int → Bool} {q : List Int → List Int → Bool} : Sd2 K cad (rOrd K p q) (fOrd p q) := by
  intro F ι μ H wx wy vx vy rv Q rs hx hy e k
  unfold fOrd at e
  split at e
  · cases e
    obtain rfl := vw_int hx
    obtain rfl := vw_int hy
    exact .inl ⟨_, _, rfl, rfl, fin_bl rs k⟩
  · next xs ys =>
    cases cx : D.ints xs with
    | none => simp [cx] at e
    | some ns =>
      cases cy : D.ints ys with
      | none => simp [cx, cy] at e
      | some ms =>
        simp [cx, cy] at e
        subst e
        obtain ⟨a, vs, rfl, e1, r1⟩ := vw_tup hx
        obtain ⟨b, us, rfl, e2, r2⟩ := vw_tup hy
        rw [ints_vals r1 cx] at e1
        rw [ints_vals r2 cy] at e2
        exact .inr ⟨a, b, ns, ms, rfl, rfl, SqT.sub rs e1, SqT.sub rs e2, fin_bl rs k⟩
  · cases e
end
/-- the four of them -/
def qLt (ns ms : List Int) : Bool := lexZ (fun a b => decide (a < b)) (decide (ns.length < ms.length)) ns ms
def qLe (ns ms : List Int) : Bool := lexZ (fun a b => decide (a ≤ b)) (decide (ns.length ≤ ms.length)) ns ms
def qGt (ns ms : List Int) : Bool := lexZ (fun a b => decide (b < a)) (decide (ns.length > ms.length)) ns ms
def qGe (ns ms : List Int) : Bool := lexZ (fun a b => decide (b ≤ a)) (decide (ns.length ≥ ms.length)) ns ms
theorem op_ordT {X : Cx} {op : CmpOp} {p : Int → Int → Bool} {zf : Nat → Nat → Bool} (hu : X.A.units + 100 < cLine) (hop : ∀ a b, compareOp op a b = richCompare op a b)
    (h : ∀ {s : Shared} {l b : Addr} {items items2 : Array Value} {e r : Nat → Bool}, s.heap.IsTuple l items → s.heap.IsTuple b items2 → X.A.units < cLine → (∀ j (h1 : j < items.size) (h2 : j < items2.size), SeqAt.EqAt X.A.in1 s items[j] items2[j] (e j)) →
      (∀ j (h1 : j < items.size) (h2 : j < items2.size), e j = false → Ob.RcOp op X.A.in1 s items[j] items2[j] (r j)) → Ob.RcOp op X.A s (.ref l) (.ref b) (Ob.lexAt e r (zf items.size items2.size) 0 (min items.size items2.size)))
    (hi : ∀ {A : Around} {s : Shared} (a b : Int) (t u : Tok), Ob.RcOp op A s (.int a t) (.int b u) (p a b)) : OpR X (compareOp op) (rOrdT X.K fun ns ms => lexZ p (zf ns.length ms.length) ns ms) := by
  intro pins s σ H x y v u Q I rx ry hh
  obtain ⟨a, b, ns, ms, rfl, rfl, ha, hb, q⟩ := hh
  cases rx
  cases ry
  obtain ⟨its, r1, p1, _⟩ := I.tuple ha
  obtain ⟨its2, r2, p2, _⟩ := I.tuple hb
  have i1 : IntsAre its ns := Vals.ints r1
  have i2 : IntsAre its2 ms := Vals.ints r2
  have e1 : its.toArray.size = ns.length := by rw [List.size_toArray]; exact i1.length
  have e2 : its2.toArray.size = ms.length := by rw [List.size_toArray]; exact i2.length
  have at1 : ∀ j (h1 : j < its.toArray.size), ∃ t, its.toArray[j] = .int (ns.getD j 0) t := fun j h1 => PyProof.Rows.IntsAre.int_at i1 _ _ (by simp at h1; simp [h1])
  have at2 : ∀ j (h1 : j < its2.toArray.size), ∃ t, its2.toArray[j] = .int (ms.getD j 0) t := fun j h1 => PyProof.Rows.IntsAre.int_at i2 _ _ (by simp at h1; simp [h1])
  have R := h (s := s) (e := fun j => decide (ns.getD j 0 = ms.getD j 0)) (r := fun j => p (ns.getD j 0) (ms.getD j 0)) p1 p2 (by omega) (fun j h1 h2 => by
    obtain ⟨t, et⟩ := at1 j h1
    obtain ⟨t', et'⟩ := at2 j h2
    rw [et, et']
    have z : (ns.getD j 0 == ms.getD j 0) = decide (ns.getD j 0 = ms.getD j 0) := by
      by_cases q : ns.getD j 0 = ms.getD j 0
      · rw [decide_eq_true q]; exact beq_iff_eq.mpr q
      · rw [decide_eq_false q]; exact beq_eq_false_iff_ne.mpr q
    rw [← z]
    exact SeqAt.EqAt.int_int _ _ _ _) (fun j h1 h2 _ => by
    obtain ⟨t, et⟩ := at1 j h1
    obtain ⟨t', et'⟩ := at2 j h2
    rw [et, et']
    exact hi _ _ _ _)
  rw [e1, e2, lexAt_eq] at R
  rw [hop]
  exact R X.prog X.w X.xe (EP X pins σ Q) ⟨.bl _, H, I, rfl, q⟩
def fLt := fOrd (fun i j => decide (i < j)) qLt
def fLe := fOrd (fun i j => decide (i ≤ j)) qLe
def fGt := fOrd (fun i j => decide (j < i)) qGt
def fGe := fOrd (fun i j => decide (j ≤ i)) qGe
section
variable {X : Cx}
theorem op_ltA (hu : X.A.units + 100 < cLine) : OpR X (compareOp .Lt) (rOrd X.K (fun i j => decide (i < j)) qLt) := op_lt.or (op_ordT (zf := fun n m => decide (n < m)) hu (fun _ _ => rfl) (fun h1 h2 h3 h4 h5 => Ob.RcOp.tuples_lt h1 h2 h3 h4 h5) Ob.RcOp.lt_int)
theorem op_leA (hu : X.A.units + 100 < cLine) : OpR X (compareOp .LtE) (rOrd X.K (fun i j => decide (i ≤ j)) qLe) := op_le.or (op_ordT (zf := fun n m => decide (n ≤ m)) hu (fun _ _ => rfl) (fun h1 h2 h3 h4 h5 => Ob.RcOp.tuples_le h1 h2 h3 h4 h5) Ob.RcOp.le_int)
theorem op_gtA (hu : X.A.units + 100 < cLine) : OpR X (compareOp .Gt) (rOrd X.K (fun i j => decide (j < i)) qGt) := op_gt.or (op_ordT (zf := fun n m => decide (n > m)) hu (fun _ _ => rfl) (fun h1 h2 h3 h4 h5 => Ob.RcOp.tuples_gt h1 h2 h3 h4 h5) Ob.RcOp.gt_int)
theorem op_geA (hu : X.A.units + 100 < cLine) : OpR X (compareOp .GtE) (rOrd X.K (fun i j => decide (j ≤ i)) qGe) := op_ge.or (op_ordT (zf := fun n m => decide (n ≥ m)) hu (fun _ _ => rfl) (fun h1 h2 h3 h4 h5 => Ob.RcOp.tuples_ge h1 h2 h3 h4 h5) Ob.RcOp.ge_int)
end
end DL

namespace DL
open PySem PySem.Spec PyProof.Rows L2

/-! ### == and != of data -/
mutual
def D.py : D → Option PyData
  | .non => some .none
  | .bl b => some (.bool b)
  | .int i => some (.int i)
  | .str s => some (.str s)
  | .tup ds => (D.pys ds).map .tuple
  | .lst ds => (D.pys ds).map .list
  | _ => none
def D.pys : List D → Option (List PyData)
  | [] => some []
  | d :: ds => (D.py d).bind fun p => (D.pys ds).map (p :: ·)
end
def Vw.py : Vw → Option PyData
  | .d x => x.py
  | .ob (.lst ds) => (D.pys ds).map .list
  | _ => none
def fEq2 (g : Bool → Bool) : Vw → Vw → Option Rv := fun x y => x.py.bind fun p => y.py.bind fun q => if SeqAt.shaped p = true ∧ SeqAt.shaped q = true then some (.sh (.bl (g (PyData.eqv p q)))) else none
def fEq : Vw → Vw → Option Rv := fEq2 id
def fNe : Vw → Vw → Option Rv := fEq2 not
section
variable {K : PySem.W.Frag} {cad : Str → Addr} {F H : Hp} {ι : List Addr} {μ : Store}
mutual
theorem VR.dp (hs : Same F H) : ∀ (d : D) (v : V) (p : PyData), VR K cad ι F d v → d.py = some p → Dp K H v p
  | .non, v, p, h, e => by cases e; rw [VR.non_.mp h]; exact .non
  | .bl b, v, p, h, e => by cases e; rw [VR.bl_.mp h]; exact .bl b
  | .int b, v, p, h, e => by cases e; rw [VR.int_.mp h]; exact .int b
  | .str b, v, p, h, e => by cases e; rw [VR.str_.mp h]; exact .str b
  | .tup ds, v, p, h, e => by
    obtain ⟨a, vs, rfl, e1, r⟩ := VR.tup_.mp h
    unfold D.py at e
    cases c : D.pys ds with
    | none => rw [c] at e; cases e
    | some ps =>
      rw [c] at e
      cases e
      exact .tup (SqT.of (hs _ _ e1)) (VRs.dp hs ds vs ps r c)
  | .lst ds, v, p, h, e => by
    obtain ⟨a, vs, rfl, e1, r⟩ := VR.lst_.mp h
    unfold D.py at e
    cases c : D.pys ds with
    | none => rw [c] at e; cases e
    | some ps =>
      rw [c] at e
      cases e
      exact .lst (SqL.of (hs _ _ e1)) (VRs.dp hs ds vs ps r c)
  | .dK _ _, _, _, _, e => by cases e
  | .dT _ _, _, _, _, e => by cases e
  | .ins _ _ _, _, _, _, e => by cases e
  | .loc _, _, _, _, e => by cases e
  | .scr _, _, _, _, e => by cases e
theorem VRs.dp (hs : Same F H) : ∀ (ds : List D) (vs : List V) (ps : List PyData), VRs K cad ι F ds vs → D.pys ds = some ps → DpAll K H vs ps
  | [], vs, ps, h, e => by cases e; rw [VRs.of_nil h]; exact .nil
  | d :: ds, vs, ps, h, e => by
    obtain ⟨v, vs, rfl, r, t⟩ := h
    unfold D.pys at e
    cases c : D.py d with
    | none => rw [c] at e; cases e
    | some p =>
      cases c2 : D.pys ds with
      | none => simp [c, c2] at e
      | some ps' =>
        simp [c, c2] at e
        subst e
        exact .cons (VR.dp hs d v p r c) (VRs.dp hs ds vs ps' t c2)
end
theorem VwR.dp (rs : RS K cad F ι μ H) {w : Vw} {v : V} {p : PyData} (h : VwR K cad F ι H w v) (e : w.py = some p) : Dp K H v p := by
  cases w with
  | d d => exact VR.dp rs.sub d v p h e
  | ob o =>
    cases o with
    | lst ds =>
      obtain ⟨a, rfl, vs, e1, r⟩ := h
      cases c : D.pys ds with
      | none => simp [Vw.py, c] at e
      | some ps =>
        simp [Vw.py, c] at e
        subst e
        exact .lst (SqL.of e1) (VRs.dp rs.sub ds vs ps r c)
    | _ => cases e
theorem eq2_inv {g : Bool → Bool} {x y : Vw} {rv : Rv} (e : fEq2 g x y = some rv) : ∃ p q, x.py = some p ∧ y.py = some q ∧ SeqAt.shaped p = true ∧ SeqAt.shaped q = true ∧ rv = .sh (.bl (g (PyData.eqv p q))) := by
  unfold fEq2 at e
  cases c : x.py with
  | none => simp [c] at e
  | some p =>
    cases c2 : y.py with
    | none => simp [c, c2] at e
    | some q =>
      simp only [c, c2, Option.bind_some] at e
      split at e
      · next h => cases e; exact ⟨p, q, rfl, rfl, h.1, h.2, rfl⟩
      · cases e
theorem sd_eq : Sd2 K cad (rEqD K) fEq := by
  intro F ι μ H wx wy vx vy rv Q rs hx hy e k
  obtain ⟨p, q, e1, e2, s1, s2, rfl⟩ := eq2_inv e
  exact ⟨p, q, hx.dp rs e1, hy.dp rs e2, s1, s2, fin_bl rs k⟩
theorem sd_ne : Sd2 K cad (rNeD K) fNe := by
  intro F ι μ H wx wy vx vy rv Q rs hx hy e k
  obtain ⟨p, q, e1, e2, s1, s2, rfl⟩ := eq2_inv e
  exact ⟨p, q, hx.dp rs e1, hy.dp rs e2, s1, s2, fin_bl rs k⟩
end
theorem op_eqA {X : Cx} (hu : X.A.units + 100 < cLine) : OpR X (compareOp .Eq) (rEqD X.K) := op_eqD (by omega)
theorem op_neA {X : Cx} (hu : X.A.units + 100 < cLine) : OpR X (compareOp .NotEq) (rNeD X.K) := op_neD (by omega)

/-! ### is None -/
def Vw.isNon : Vw → Bool
  | .d .non => true
  | _ => false
def fIs (g : Bool → Bool) : Vw → Vw → Option Rv
  | x, .d .non => some (.sh (.bl (g x.isNon)))
  | _, _ => none
section
variable {K : PySem.W.Frag} {cad : Str → Addr}
theorem vw_isNon {F H : Hp} {ι : List Addr} {w : Vw} {v : V} (h : VwR K cad F ι H w v) : decide (v = .non) = w.isNon := by
  cases w with
  | ob o => obtain ⟨a, rfl, _⟩ := h; rfl
  | d d =>
    have h : VR K cad ι F d v := h
    cases d with
    | non => rw [VR.non_.mp h]; rfl
    | bl b => rw [VR.bl_.mp h]; rfl
    | int b => rw [VR.int_.mp h]; rfl
    | str b => rw [VR.str_.mp h]; rfl
    | tup ds => obtain ⟨a, vs, rfl, _⟩ := VR.tup_.mp h; rfl
    | lst ds => obtain ⟨a, vs, rfl, _⟩ := VR.lst_.mp h; rfl
    | scr ds => obtain ⟨a, rfl, _⟩ := VR.scr_.mp h; rfl
    | loc ds => obtain ⟨a, rfl, _⟩ := VR.loc_.mp h; rfl
    | dK _ _ => unfold VR at h; obtain ⟨a, o, vs, rfl, _⟩ := h; rfl
    | dT _ _ => unfold VR at h; obtain ⟨a, o, vs, rfl, _⟩ := h; rfl
    | ins _ _ _ => unfold VR at h; obtain ⟨a, o, vs, rfl, _⟩ := h; rfl
theorem is_inv {g : Bool → Bool} {x y : Vw} {rv : Rv} (e : fIs g x y = some rv) : y = .d .non ∧ rv = .sh (.bl (g x.isNon)) := by
  unfold fIs at e
  split at e
  · cases e; exact ⟨rfl, rfl⟩
  · cases e
theorem sd_is : Sd2 K cad (fun x y H Q => y = .non ∧ Q (.bl (decide (x = .non))) H) (fIs id) := by
  intro F ι μ H wx wy vx vy rv Q rs hx hy e k
  obtain ⟨rfl, rfl⟩ := is_inv e
  refine ⟨vw_non hy, ?_⟩
  rw [vw_isNon hx]
  exact fin_bl rs k
theorem sd_isnot : Sd2 K cad (fun x y H Q => y = .non ∧ Q (.bl (!decide (x = .non))) H) (fIs not) := by
  intro F ι μ H wx wy vx vy rv Q rs hx hy e k
  obtain ⟨rfl, rfl⟩ := is_inv e
  refine ⟨vw_non hy, ?_⟩
  rw [vw_isNon hx]
  exact fin_bl rs k
end

/-! ### in: lists and tuples of data, dicts -/
def D.key : D → Option Key
  | .int i => some (.inl i)
  | .str s => some (.inr s)
  | _ => none
def D.keys : List D → Option (List Key)
  | [] => some []
  | d :: ds => d.key.bind fun k => (D.keys ds).map (k :: ·)
def getK {κ : Type} [DecidableEq κ] (kvs : List (κ × D)) (k : κ) : Option D := (kvs.find? fun kv => decide (kv.1 = k)).map (·.2)
/-- what a dict holds at a key: none: not such a dict or key -/
def fGet : Vw → Vw → Option (Option D)
  | .ob (.dK kvs), .d d => d.key.map fun k => getK kvs k
  | .ob (.dT kvs), .d (.tup ds) => (D.keys ds).map fun k => getK kvs k
  | _, _ => none
def flatD : D → Bool
  | .non => true
  | .bl _ => true
  | .int _ => true
  | .str _ => true
  | _ => false
def eqF : D → D → Bool
  | .non, .non => true
  | .bl a, .bl b => a == b
  | .bl a, .int b => (if a then 1 else 0) == b
  | .int a, .bl b => a == (if b then 1 else 0)
  | .int a, .int b => a == b
  | .str a, .str b => a == b
  | _, _ => false
def fIn (g : Bool → Bool) : Vw → Vw → Option Rv
  | x, .ob (.lst ds) => x.py.bind fun p => (D.pys ds).bind fun ps => if SeqAt.shaped p = true ∧ SeqAt.shaped (.list ps) = true then some (.sh (.bl (g (ps.any fun z => PyData.eqv z p)))) else none
  | .d x, .d (.tup ds) => if flatD x = true ∧ ds.all flatD = true then some (.sh (.bl (g (ds.any fun y => eqF y x)))) else none
  | .d (.str x), .d (.str z) => match x.cps.toList with
    | [c] => some (.sh (.bl (g (decide (c ∈ z.cps.toList)))))
    | _ => none
  | x, y => (fGet y x).map fun o => .sh (.bl (g o.isSome))
def rDIn (g : Bool → Bool) : R2 := fun y x H Q => ∃ a o, x = .ref a ∧ DGet H a y o ∧ Q (.bl (g o.isSome)) H
def rInA (K : PySem.W.Frag) : R2 := fun x y H Q => rInD K x y H Q ∨ rIn K false x y H Q ∨ (∃ (c : Nat) (z : Str), x = .str ⟨#[c]⟩ ∧ y = .str z ∧ Q (.bl (decide (c ∈ z.cps.toList))) H) ∨ rDIn id x y H Q
def rNotInA (K : PySem.W.Frag) : R2 := fun x y H Q => rNotInD K x y H Q ∨ rIn K true x y H Q ∨ (∃ (c : Nat) (z : Str), x = .str ⟨#[c]⟩ ∧ y = .str z ∧ Q (.bl (!decide (c ∈ z.cps.toList))) H) ∨ rDIn not x y H Q
section
variable {X : Cx}
theorem op_din (hu : X.A.units + 100 < cLine) : OpR X (compareOp .In) (rDIn id) := by
  intro pins s σ H y x u v Q I ry rx h
  obtain ⟨a, o, rfl, g, q⟩ := h
  cases rx
  exact d_in (by omega) I g ry fun s' I' => ⟨.bl o.isSome, H, I', rfl, q⟩
theorem op_dnotin (hu : X.A.units + 100 < cLine) : OpR X (compareOp .NotIn) (rDIn not) := by
  intro pins s σ H y x u v Q I ry rx h
  obtain ⟨a, o, rfl, g, q⟩ := h
  cases rx
  exact d_notIn (by omega) I g ry fun s' I' => ⟨.bl (!o.isSome), H, I', rfl, q⟩
theorem op_inA (hu : X.A.units + 100 < cLine) : OpR X (compareOp .In) (rInA X.K) := (op_inD (by omega)).or (op_in_seq.or (op_in_sign.or (op_din hu)))
theorem op_notInA (hu : X.A.units + 100 < cLine) : OpR X (compareOp .NotIn) (rNotInA X.K) := (op_notInD (by omega)).or (op_notIn_seq.or (op_notIn_sign.or (op_dnotin hu)))
end
section
variable {K : PySem.W.Frag} {cad : Str → Addr} {F H : Hp} {ι : List Addr} {μ : Store}
theorem key_VR {d : D} {v : V} {k : Key} (h : VR K cad ι F d v) (e : d.key = some k) : v = kV k := by
  cases d with
  | int i => cases e; exact VR.int_.mp h
  | str i => cases e; exact VR.str_.mp h
  | _ => cases e
theorem keys_VRs : ∀ {ds : List D} {vs : List V} {k : List Key}, VRs K cad ι F ds vs → D.keys ds = some k → vs = k.map kV
  | [], _, _, h, e => by cases e; exact VRs.of_nil h
  | d :: ds, _, k, h, e => by
    obtain ⟨v, vs, rfl, r, t⟩ := h
    cases c : d.key with
    | none => simp [D.keys, c] at e
    | some k1 =>
      cases c2 : D.keys ds with
      | none => simp [D.keys, c, c2] at e
      | some k2 =>
        simp [D.keys, c, c2] at e
        subst e
        rw [key_VR r c, keys_VRs t c2]
        rfl
/-- a dict's value by its key, on both sides -/
theorem get_val {κ : Type} [DecidableEq κ] (k : κ) : ∀ {kvs : List (κ × D)} {vs : List V}, VRs K cad ι F (kvs.map (·.2)) vs → match getK kvs k, valV ((kvs.map (·.1)).zip vs) k with
    | some d, some v => VR K cad ι F d v
    | none, none => True
    | _, _ => False
  | [], _, h => by cases h; trivial
  | (k', d) :: kvs, _, h => by
    obtain ⟨v, vs, rfl, r, t⟩ := h
    have ih := get_val k t
    by_cases c : k' = k
    · have e1 : getK ((k', d) :: kvs) k = some d := by simp [getK, List.find?_cons, c]
      have e2 : valV (((((k', d) :: kvs).map (·.1)).zip (v :: vs))) k = some v := by
        rw [List.map_cons, List.zip_cons_cons]
        exact valV_pos c
      rw [e1, e2]
      exact r
    · have e1 : getK ((k', d) :: kvs) k = getK kvs k := by simp [getK, List.find?_cons, c]
      have e2 : valV (((((k', d) :: kvs).map (·.1)).zip (v :: vs))) k = valV ((kvs.map (·.1)).zip vs) k := by
        rw [List.map_cons, List.zip_cons_cons]
        exact valV_neg c
      rw [e1, e2]
      exact ih
/-- what a dict gives, by values -/
def OptR (K : PySem.W.Frag) (cad : Str → Addr) (ι : List Addr) (F : Hp) : Option D → Option V → Prop
  | some d, some v => VR K cad ι F d v
  | none, none => True
  | _, _ => False
theorem OptR.isSome {o : Option D} {u : Option V} (h : OptR K cad ι F o u) : u.isSome = o.isSome := by
  cases o <;> cases u <;> first | rfl | exact h.elim
theorem fGet_ok (rs : RS K cad F ι μ H) {x y : Vw} {vx vy : V} {o : Option D} (hx : VwR K cad F ι H x vx) (hy : VwR K cad F ι H y vy) (e : fGet x y = some o) : ∃ a u, vx = .ref a ∧ DGet H a vy u ∧ OptR K cad ι F o u := by
  unfold fGet at e
  split at e
  · next kvs d =>
    obtain ⟨a, rfl, vs, e1, r⟩ := hx
    cases c : d.key with
    | none => simp [c] at e
    | some k =>
      simp [c] at e
      subst e
      refine ⟨a, _, rfl, .inl ⟨_, k, e1, key_VR hy c, rfl⟩, ?_⟩
      have := get_val (K := K) (cad := cad) (ι := ι) (F := F) k r
      unfold OptR
      split <;> simp_all
  · next kvs ds =>
    obtain ⟨a, rfl, vs, e1, r⟩ := hx
    obtain ⟨b, us, rfl, e2, r2⟩ := vw_tup hy
    cases c : D.keys ds with
    | none => simp [c] at e
    | some k =>
      simp [c] at e
      subst e
      rw [keys_VRs r2 c] at e2
      refine ⟨a, _, rfl, .inr ⟨_, k, b, e1, rfl, rs.sub _ _ e2, rfl⟩, ?_⟩
      have := get_val (K := K) (cad := cad) (ι := ι) (F := F) k r
      unfold OptR
      split <;> simp_all
  · cases e
theorem flat_VR {d : D} {v : V} (h : VR K cad ι F d v) (f : flatD d = true) : flatV v = true := by
  cases d with
  | non => rw [VR.non_.mp h]; rfl
  | bl b => rw [VR.bl_.mp h]; rfl
  | int b => rw [VR.int_.mp h]; rfl
  | str b => rw [VR.str_.mp h]; rfl
  | _ => cases f
theorem eqF_VR {d e : D} {v u : V} (h : VR K cad ι F d v) (h' : VR K cad ι F e u) (f : flatD d = true) (f' : flatD e = true) : eqV v u = eqF d e := by
  cases d with
  | non => rw [VR.non_.mp h]; cases e with
    | non => rw [VR.non_.mp h']; rfl
    | bl b => rw [VR.bl_.mp h']; rfl
    | int b => rw [VR.int_.mp h']; rfl
    | str b => rw [VR.str_.mp h']; rfl
    | _ => cases f'
  | bl b => rw [VR.bl_.mp h]; cases e with
    | non => rw [VR.non_.mp h']; rfl
    | bl b => rw [VR.bl_.mp h']; rfl
    | int b => rw [VR.int_.mp h']; rfl
    | str b => rw [VR.str_.mp h']; rfl
    | _ => cases f'
  | int b => rw [VR.int_.mp h]; cases e with
    | non => rw [VR.non_.mp h']; rfl
    | bl b => rw [VR.bl_.mp h']; rfl
    | int b => rw [VR.int_.mp h']; rfl
    | str b => rw [VR.str_.mp h']; rfl
    | _ => cases f'
  | str b => rw [VR.str_.mp h]; cases e with
    | non => rw [VR.non_.mp h']; rfl
    | bl b => rw [VR.bl_.mp h']; rfl
    | int b => rw [VR.int_.mp h']; rfl
    | str b => rw [VR.str_.mp h']; rfl
    | _ => cases f'
  | _ => cases f
theorem flat_VRs : ∀ {ds : List D} {vs : List V}, VRs K cad ι F ds vs → ds.all flatD = true → vs.all flatV = true
  | [], _, h, _ => by cases h; rfl
  | d :: ds, _, h, f => by
    obtain ⟨v, vs, rfl, r, t⟩ := h
    rw [List.all_cons, Bool.and_eq_true] at f ⊢
    exact ⟨flat_VR r f.1, flat_VRs t f.2⟩
theorem any_VRs {x : D} {u : V} (hx : VR K cad ι F x u) (fx : flatD x = true) : ∀ {ds : List D} {vs : List V}, VRs K cad ι F ds vs → ds.all flatD = true → inV u vs = ds.any fun y => eqF y x
  | [], _, h, _ => by cases h; rfl
  | d :: ds, _, h, f => by
    obtain ⟨v, vs, rfl, r, t⟩ := h
    rw [List.all_cons, Bool.and_eq_true] at f
    have ih := any_VRs hx fx t f.2
    show ((v :: vs).any fun y => eqV y u) = _
    rw [List.any_cons, List.any_cons, eqF_VR r hx f.1 fx]
    exact congrArg _ ih
theorem in_inv {g : Bool → Bool} {x y : Vw} {rv : Rv} (e : fIn g x y = some rv) : (∃ ds p ps, y = .ob (.lst ds) ∧ x.py = some p ∧ D.pys ds = some ps ∧ SeqAt.shaped p = true ∧ SeqAt.shaped (.list ps) = true ∧ rv = .sh (.bl (g (ps.any fun z => PyData.eqv z p)))) ∨
    (∃ d ds, x = .d d ∧ y = .d (.tup ds) ∧ flatD d = true ∧ ds.all flatD = true ∧ rv = .sh (.bl (g (ds.any fun y => eqF y d)))) ∨ (∃ c z, x = .d (.str ⟨#[c]⟩) ∧ y = .d (.str z) ∧ rv = .sh (.bl (g (decide (c ∈ z.cps.toList))))) ∨
    ∃ o, fGet y x = some o ∧ rv = .sh (.bl (g o.isSome)) := by
  unfold fIn at e
  split at e
  · next ds =>
    cases c : x.py with
    | none => simp [c] at e
    | some p =>
      cases c2 : D.pys ds with
      | none => simp [c, c2] at e
      | some ps =>
        simp only [c, c2, Option.bind_some] at e
        split at e
        · next h => cases e; exact .inl ⟨ds, p, ps, rfl, rfl, c2, h.1, h.2, rfl⟩
        · cases e
  · next d ds =>
    split at e
    · next h => cases e; exact .inr (.inl ⟨d, ds, rfl, rfl, h.1, h.2, rfl⟩)
    · cases e
  · next s z =>
    split at e
    · next c hc =>
      cases e
      have : s = ⟨#[c]⟩ := by
        obtain ⟨⟨l⟩⟩ := s
        simp only at hc
        subst hc
        rfl
      subst this
      exact .inr (.inr (.inl ⟨c, z, rfl, rfl, rfl⟩))
    · cases e
  · cases c : fGet y x with
    | none => simp [c] at e
    | some o =>
      simp [c] at e
      exact .inr (.inr (.inr ⟨o, rfl, e.symm⟩))
theorem sd_in : Sd2 K cad (rInA K) (fIn id) := by
  intro F ι μ H wx wy vx vy rv Q rs hx hy e k
  rcases in_inv e with ⟨ds, p, ps, rfl, e1, e2, s1, s2, rfl⟩ | ⟨d, ds, rfl, rfl, f1, f2, rfl⟩ | ⟨c, z, rfl, rfl, rfl⟩ | ⟨o, e1, rfl⟩
  · exact .inl ⟨p, ps, hx.dp rs e1, hy.dp rs (by simp [Vw.py, e2]), s1, s2, fin_bl rs k⟩
  · obtain ⟨a, vs, rfl, e1, r⟩ := vw_tup hy
    refine .inr (.inl ⟨a, vs, rfl, .inr (SqT.sub rs e1), flat_VR hx f1, flat_VRs r f2, ?_⟩)
    rw [any_VRs hx f1 r f2]
    exact fin_bl rs k
  · exact .inr (.inr (.inl ⟨c, z, vw_str hx, vw_str hy, fin_bl rs k⟩))
  · obtain ⟨a, u, rfl, g, oo⟩ := fGet_ok rs hy hx e1
    refine .inr (.inr (.inr ⟨a, u, rfl, g, ?_⟩))
    rw [oo.isSome]
    exact fin_bl rs k
theorem sd_notIn : Sd2 K cad (rNotInA K) (fIn not) := by
  intro F ι μ H wx wy vx vy rv Q rs hx hy e k
  rcases in_inv e with ⟨ds, p, ps, rfl, e1, e2, s1, s2, rfl⟩ | ⟨d, ds, rfl, rfl, f1, f2, rfl⟩ | ⟨c, z, rfl, rfl, rfl⟩ | ⟨o, e1, rfl⟩
  · exact .inl ⟨p, ps, hx.dp rs e1, hy.dp rs (by simp [Vw.py, e2]), s1, s2, fin_bl rs k⟩
  · obtain ⟨a, vs, rfl, e1, r⟩ := vw_tup hy
    refine .inr (.inl ⟨a, vs, rfl, .inr (SqT.sub rs e1), flat_VR hx f1, flat_VRs r f2, ?_⟩)
    rw [any_VRs hx f1 r f2]
    exact fin_bl rs k
  · exact .inr (.inr (.inl ⟨c, z, vw_str hx, vw_str hy, fin_bl rs k⟩))
  · obtain ⟨a, u, rfl, g, oo⟩ := fGet_ok rs hy hx e1
    refine .inr (.inr (.inr ⟨a, u, rfl, g, ?_⟩))
    rw [oo.isSome]
    exact fin_bl rs k
end
end DL

namespace DL
open PySem PySem.Spec PyProof.Rows L2

/-! ### a[b] -/
def fIx : Vw → Vw → Option Rv
  | .ob (.lst ds), .d (.int i) => (atI ds i).map .sh
  | .d (.tup ds), .d (.int i) => (atI ds i).map .sh
  | .d (.scr ns), .d (.int i) => (atI ns i).map fun n => .sh (.int n)
  | .d (.str z), .d (.int i) => if z.length ≤ 16777216 then (atI z.cps.toList i).map fun c => .sh (.str ⟨#[c]⟩) else none
  | x, y => match fGet x y with
    | some (some d) => some (.sh d)
    | _ => none
def rDGetI : R2 := fun x y H Q => ∃ a v, x = .ref a ∧ DGet H a y (some v) ∧ Q v H
def rIxA (K : PySem.W.Frag) : R2 := fun x y H Q => rIx K x y H Q ∨ rDGetI x y H Q
section
variable {X : Cx}
theorem ix_dict (hu : X.A.units + 100 < cLine) : IxR X rDGetI := by
  intro value slice pins s σ H x y v u Q I rx ry h hs
  obtain ⟨a, z, rfl, g, q⟩ := h
  cases rx
  have hT : s.TypeIs (.ref a) "dict" := dict_typeIs I g
  have h₂ : wpAny (model X.prog X.w) X.A (getItem (.ref a) u) (EP X pins σ Q) X.xe s := d_getItem (by omega) I g ry fun w' s3 I3 rw' => ⟨z, H, I3, rw', q⟩
  unfold subscriptTail
  refine wpAny_bind ?_
  rw [getitemInPython_of_ne hT.not_modules]
  refine wpAny_bind (wpAny_specialOf hT PySem.F.slot_dict_getitem.lookup ?_)
  have fin : wpAny (model X.prog X.w) X.A (subscripted slice false (.ref a) u) (fun r s₃ => wpAny (model X.prog X.w) X.A (letTemporaryGo value (.ref a) r >>= fun _ => pure r) (EP X pins σ Q) X.xe s₃) X.xe s := by
    rw [hs]
    exact wpAny_operating (wpAny_mono h₂ (fun r s₃ h₃ => wpAny_bind (wpAny_letTemporaryGo (wpAny_pure h₃))) fun _ _ x => x)
  first
    | exact wpAny_pure (wpAny_bind fin)
    | exact wpAny_bind (wpAny_pure (wpAny_bind fin))
    | exact wpAny_bind fin
theorem ix_all (hu : X.A.units + 100 < cLine) : IxR X (rIxA X.K) := ix_seq.or (ix_dict hu)
end
section
variable {K : PySem.W.Frag} {cad : Str → Addr} {F H : Hp} {ι : List Addr} {μ : Store}
theorem atI_VRs {ds : List D} {vs : List V} {i : Int} {d : D} (r : VRs K cad ι F ds vs) (e : atI ds i = some d) : ∃ v, atI vs i = some v ∧ VR K cad ι F d v := by
  unfold atI at e ⊢
  rw [← r.len]
  cases c : ixN ds.length i with
  | none => rw [c] at e; cases e
  | some j =>
    rw [c] at e
    exact r.get e
theorem atI_map {α β : Type} (f : α → β) (xs : List α) (i : Int) : atI (xs.map f) i = (atI xs i).map f := by
  unfold atI
  rw [List.length_map]
  cases ixN xs.length i with
  | none => rfl
  | some j => simp
theorem ix_inv {x y : Vw} {rv : Rv} (e : fIx x y = some rv) : (∃ ds i d, x = .ob (.lst ds) ∧ y = .d (.int i) ∧ atI ds i = some d ∧ rv = .sh d) ∨ (∃ ds i d, x = .d (.tup ds) ∧ y = .d (.int i) ∧ atI ds i = some d ∧ rv = .sh d) ∨
    (∃ ns i n, x = .d (.scr ns) ∧ y = .d (.int i) ∧ atI ns i = some n ∧ rv = .sh (.int n)) ∨ (∃ z i c, x = .d (.str z) ∧ y = .d (.int i) ∧ z.length ≤ 16777216 ∧ atI z.cps.toList i = some c ∧ rv = .sh (.str ⟨#[c]⟩)) ∨ ∃ d, fGet x y = some (some d) ∧ rv = .sh d := by
  unfold fIx at e
  split at e
  · next ds i => cases c : atI ds i with
    | none => simp [c] at e
    | some d => simp [c] at e; exact .inl ⟨ds, i, d, rfl, rfl, c, e.symm⟩
  · next ds i => cases c : atI ds i with
    | none => simp [c] at e
    | some d => simp [c] at e; exact .inr (.inl ⟨ds, i, d, rfl, rfl, c, e.symm⟩)
  · next ds i => cases c : atI ds i with
    | none => simp [c] at e
    | some d => simp [c] at e; exact .inr (.inr (.inl ⟨ds, i, d, rfl, rfl, c, e.symm⟩))
  · next z i =>
    split at e
    · next h => cases c : atI z.cps.toList i with
      | none => simp [c] at e
      | some d => simp [c] at e; exact .inr (.inr (.inr (.inl ⟨z, i, d, rfl, rfl, h, c, e.symm⟩)))
    · cases e
  · split at e
    · next d h => cases e; exact .inr (.inr (.inr (.inr ⟨d, h, rfl⟩)))
    · cases e
theorem sd_ix : Sd2 K cad (rIxA K) fIx := by
  intro F ι μ H wx wy vx vy rv Q rs hx hy e k
  rcases ix_inv e with ⟨ds, i, d, rfl, rfl, e1, rfl⟩ | ⟨ds, i, d, rfl, rfl, e1, rfl⟩ | ⟨ns, i, n, rfl, rfl, e1, rfl⟩ | ⟨z, i, c, rfl, rfl, h, e1, rfl⟩ | ⟨d, e1, rfl⟩
  · obtain ⟨a, rfl, vs, e2, r⟩ := hx
    obtain ⟨v, e3, q⟩ := atI_VRs r e1
    exact .inl (.inl ⟨a, vs, i, v, rfl, vw_int hy, SqL.of e2, e3, fin_sh rs k q⟩)
  · obtain ⟨a, vs, rfl, e2, r⟩ := vw_tup hx
    obtain ⟨v, e3, q⟩ := atI_VRs r e1
    exact .inl (.inr (.inl ⟨a, vs, i, v, rfl, vw_int hy, SqT.sub rs e2, e3, fin_sh rs k q⟩))
  · obtain ⟨a, rfl, s⟩ := vw_scr hx
    exact .inl (.inl ⟨a, _, i, .int n, rfl, vw_int hy, rs.sub.seq s, by rw [atI_map, e1]; rfl, fin_int rs k⟩)
  · exact .inl (.inr (.inr ⟨z, i, c, vw_str hx, vw_int hy, line_eq.mpr h, e1, fin_str rs k⟩))
  · obtain ⟨a, u, rfl, g, oo⟩ := fGet_ok rs hx hy e1
    cases u with
    | none => exact oo.elim
    | some v => exact .inr ⟨a, v, rfl, g, fin_sh rs k oo⟩
end

/-! ### a[lo:hi] -/
abbrev MO := Ev → Store → Res (Option Int)
def oNone : MO := fun _ μ => .ok none μ
def oSome (m : ME) : MO := fun ρ μ => (m ρ μ).bind fun o μ1 => match o with
  | .sh (.int i) => .ok (some i) μ1
  | _ => .stk
def cutD (ds : List D) (lo hi : Option Int) : List D := (ds.drop (HT.sIx ds.length 0 lo)).take (HT.sIx ds.length ds.length hi - HT.sIx ds.length 0 lo)
/-- a list, a tuple, a text -/
def fCut : Vw → Option Int → Option Int → Option Rv
  | .ob (.lst ds), lo, hi => some (.own (.lst (cutD ds lo hi)))
  | .d (.tup ds), lo, hi => some (.sh (.tup (cutD ds lo hi)))
  | .d (.str z), lo, hi => if z.length ≤ 16777216 then some (.sh (.str (cutS z lo hi))) else none
  | _, _, _ => none
def eCut (a : ME) (lo hi : MO) : ME := fun ρ μ => (a ρ μ).bind fun x μ1 => (lo ρ μ1).bind fun l μ2 => (hi ρ μ2).bind fun h μ3 => Res.of ((deref ρ μ3 x).bind fun w => (fCut w l h).map Rv.op) μ3
def rlO : Rl (Option Int) (Option Int) := ⟨fun _ _ _ _ a b => a = b, fun _ q => q⟩
def tO (K : PySem.W.Frag) (cad : Str → Addr) (W : WX) (m : MO) : TO := fun σ H Q => ∃ F ι μ ρ, R K cad F ι μ ρ σ H ∧ Post K cad W rlO F ι H σ (m ρ μ) Q
def rCutA (K : PySem.W.Frag) : V → Option Int → Option Int → Hp → VK → Prop := fun x lo hi H Q => rSlL K x lo hi H Q ∨ rSlA K x lo hi H Q ∨ (∃ z, x = .str z ∧ z.length ≤ sizeLine ∧ Q (.str (cutS z lo hi)) H)
section
variable {X : Cx} {cad : Str → Addr} {W : WX} {pos p2 : Pos} {e : Expr} {ma : ME}
theorem cut_all : SlR X (rCutA X.K) := sl_list.or (sl_tupA.or sl_str)
theorem do_none : PO X none (tO X.K cad W oNone) := ⟨fun pins s σ H Q I h => po_none.run pins s σ H Q I (by
  obtain ⟨F, ι, μ, ρ, rr, q⟩ := h
  exact q F ι H none (Ext.refl _ _ _) rr.rs rfl)⟩
theorem do_some (h : PE X e (tE X.K cad W ma)) : PO X (some e) (tO X.K cad W (oSome ma)) := ⟨fun pins s σ H Q I h' => (po_some h).run pins s σ H Q I (by
  obtain ⟨F, ι, μ, ρ, rr, q⟩ := h'
  refine ⟨F, ι, μ, ρ, rr, q.bind fun o μ1 F1 ι1 H1 v x1 s1 q1 h1 => ?_⟩
  split at h1
  · next i =>
    have q1 : VR X.K cad ι1 F1 (.int i) v := q1
    exact ⟨i, VR.int_.mp q1, h1 F1 ι1 H1 (some i) (Ext.refl _ _ _) s1 rfl⟩
  · exact h1.elim)⟩
theorem cut_VRs {K : PySem.W.Frag} {F : Hp} {ι : List Addr} {ds : List D} {vs : List V} (r : VRs K cad ι F ds vs) (lo hi : Option Int) : VRs K cad ι F (cutD ds lo hi) (cutV vs lo hi) := by
  unfold cutD cutV
  rw [r.len]
  exact (r.drop _).take _
theorem de_cut {lo hi : Option Expr} {ml mh : MO} (ha : PE X e (tE X.K cad W ma)) (hl : PO X lo (tO X.K cad W ml)) (hh : PO X hi (tO X.K cad W mh)) : PE X (.Subscript e (.Slice lo hi none p2) pos) (tE X.K cad W (eCut ma ml mh)) := by
  refine pe_imp (pe_slice cut_all ha hl hh) fun σ H Q ⟨F, ι, μ, ρ, rr, q⟩ => ?_
  refine ⟨F, ι, μ, ρ, rr, q.bind fun x μ1 F1 ι1 H1 vx x1 s1 q1 h1 => ?_⟩
  have r1 := rr.ext x1 s1
  refine ⟨F1, ι1, μ1, ρ, r1, h1.bind fun l μ2 F2 ι2 H2 vl x2 s2 q2 h2 => ?_⟩
  have q2 : l = vl := q2
  subst q2
  have r2 := r1.ext x2 s2
  refine ⟨F2, ι2, μ2, ρ, r2, h2.bind fun u μ3 F3 ι3 H3 vu x3 s3 q3 h3 => ?_⟩
  have q3 : u = vu := q3
  subst q3
  have r3 := r2.ext x3 s3
  obtain ⟨o, e1, k⟩ := Post.of h3
  cases cx : deref ρ μ3 x with
  | none => rw [cx] at e1; cases e1
  | some w =>
    rw [cx] at e1
    have vw := OpV.view r3 (OpV.mono (H1 := H1) x3 (OpV.mono (H1 := H1) x2 q1)) cx
    cases cf : fCut w l u with
    | none => simp [cf] at e1
    | some rv =>
      simp [cf] at e1
      subst e1
      have kk : ∀ F' ι' H' v, Ext F3 ι3 H3 F' ι' H' → RS X.K cad F' ι' μ3 H' → RvR X.K cad H3 F' ι' H' rv v → Q v H' := fun F' ι' H' v x s z => k F' ι' H' v x s z.op
      unfold fCut at cf
      split at cf
      · cases cf
        obtain ⟨a, rfl, vs, e2, r⟩ := vw
        exact .inl ⟨a, vs, rfl, SqL.of e2, fun p hp => fin_own s3 kk hp ⟨_, rfl, cut_VRs r _ _⟩⟩
      · cases cf
        obtain ⟨a, vs, rfl, e2, r⟩ := vw_tup vw
        refine .inr (.inl ⟨a, vs, rfl, SqT.sub s3 e2, fun hw => ?_, fun _ p hp => fin_tup s3 kk hp (cut_VRs r _ _)⟩)
        refine fin_sh s3 kk (VR.tup_.mpr ⟨a, vs, rfl, e2, ?_⟩)
        have e3 : ∀ ds : List D, ds.length = vs.length → cutD ds l u = ds := fun ds hl => by
          unfold cutD
          rw [hl, hw.1, hw.2, List.drop_zero, Nat.sub_zero, ← hl, List.take_length]
        rw [e3 _ r.len]
        exact r
      · split at cf
        · next h => cases cf; exact .inr (.inr ⟨_, vw_str vw, line_eq.mpr h, fin_str s3 kk⟩)
        · cases cf
      · cases cf
/-! ### displays -/
def eTup (as : MA) : ME := fun ρ μ => (as ρ μ).bind fun ds μ1 => if ds.length ≤ 16777216 then .ok (.sh (.tup ds)) μ1 else .stk
def eLst (as : MA) : ME := fun ρ μ => (as ρ μ).bind fun ds μ1 => if ds.length ≤ 16777216 then .ok (.own (.lst ds)) μ1 else .stk
theorem de_tup {es : List Expr} {x1} {as : MA} (h : PA X es (tDs X.K cad W as)) : PE X (.Tuple es x1 pos) (tE X.K cad W (eTup as)) := by
  refine pe_imp (pe_tup h) fun σ H Q ⟨F, ι, μ, ρ, rr, q⟩ => ?_
  refine ⟨F, ι, μ, ρ, rr, q.bind fun ds μ1 F1 ι1 H1 vs x1 s1 q1 h1 => ?_⟩
  have q1 : VRs X.K cad ι1 F1 ds vs := q1
  split at h1
  · next hl => exact ⟨by rw [← q1.len]; exact line_eq.mpr hl, fun p hp => fin_tup s1 (fun F' ι' H' v x s z => h1 F' ι' H' v x s (RvR.op (ρ := ρ) (σ := σ) (r := .sh (.tup ds)) z)) hp q1⟩
  · exact h1.elim
theorem de_lst {es : List Expr} {as : MA} (h : PA X es (tDs X.K cad W as)) : PE X (.List es pos) (tE X.K cad W (eLst as)) := by
  refine pe_imp (pe_lst h) fun σ H Q ⟨F, ι, μ, ρ, rr, q⟩ => ?_
  refine ⟨F, ι, μ, ρ, rr, q.bind fun ds μ1 F1 ι1 H1 vs x1 s1 q1 h1 => ?_⟩
  have q1 : VRs X.K cad ι1 F1 ds vs := q1
  split at h1
  · next hl => exact ⟨by rw [← q1.len]; exact line_eq.mpr hl, fun p hp => fin_own s1 (fun F' ι' H' v x s z => h1 F' ι' H' v x s (RvR.op (ρ := ρ) (σ := σ) (r := .own (.lst ds)) z)) hp ⟨vs, rfl, q1⟩⟩
  · exact h1.elim
/-- {}, its keys ints and texts; tuples -/
def eDK : ME := fun _ μ => .ok (.own (.dK [])) μ
def eDT : ME := fun _ μ => .ok (.own (.dT [])) μ
theorem de_dK : PE X (.Dict [] [] pos) (tE X.K cad W eDK) := pe_imp pe_dnewK fun σ H Q ⟨F, ι, μ, ρ, rr, q⟩ p hp => fin_own rr.rs (fun F' ι' H' v x s z => q F' ι' H' v x s (RvR.op (ρ := ρ) (σ := σ) (r := .own (.dK [])) z)) hp ⟨[], rfl, rfl⟩
theorem de_dT : PE X (.Dict [] [] pos) (tE X.K cad W eDT) := pe_imp pe_dnewT fun σ H Q ⟨F, ι, μ, ρ, rr, q⟩ p hp => fin_own rr.rs (fun F' ι' H' v x s z => q F' ι' H' v x s (RvR.op (ρ := ρ) (σ := σ) (r := .own (.dT [])) z)) hp ⟨[], rfl, rfl⟩
/-- a new thing into the store -/
def eLoc (m : ME) : ME := fun ρ μ => (m ρ μ).bind fun o μ1 => match o with
  | .own ob => .ok (.sh (.loc μ1.length)) (μ1 ++ [ob])
  | _ => .stk
theorem de_loc {m : ME} (h : PE X e (tE X.K cad W m)) : PE X e (tE X.K cad W (eLoc m)) := by
  refine pe_imp h fun σ H Q ⟨F, ι, μ, ρ, rr, q⟩ => ?_
  refine ⟨F, ι, μ, ρ, rr, ?_⟩
  unfold eLoc at q
  cases c : m ρ μ with
  | stk => rw [c] at q; exact q
  | exc x μ1 => rw [c] at q; exact q
  | ok o μ1 =>
    rw [c] at q
    cases o with
    | sh d => exact q.elim
    | slot i => exact q.elim
    | own ob =>
      intro F1 ι1 H1 v x1 s1 q1
      obtain ⟨a, ho, rfl, e2, e3, e4, e5, z⟩ := q1
      have s2 := s1.push e5 e3 e2 z
      refine q F1 (ι1 ++ [a]) H1 _ ?_ s2 ?_
      · refine ⟨x1.f, x1.i.trans (pre_snoc _ _), x1.kept, x1.dom, x1.nf, fun b hb hn => ?_, x1.lk⟩
        rcases List.mem_append.mp hb with w | w
        · exact x1.ni b w hn
        · have : b = a := by simpa using w
          rw [this]
          exact e4
      · refine (show VR X.K cad (ι1 ++ [a]) F1 (.loc μ1.length) (.ref a) from VR.loc_.mpr ⟨a, rfl, ?_⟩)
        rw [← s1.len]
        simp
end
/-! ### built-in functions -/
def derefs (ρ : Ev) (μ : Store) : List Op → Option (List Vw)
  | [] => some []
  | o :: os => (deref ρ μ o).bind fun w => (derefs ρ μ os).map (w :: ·)
def eCB (f : List Vw → Option Rv) (as : Ev → Store → Res (List Op)) : ME := fun ρ μ => (as ρ μ).bind fun os μ1 => Res.of ((derefs ρ μ1 os).bind fun ws => (f ws).map Rv.op) μ1
def SdB (K : PySem.W.Frag) (cad : Str → Addr) (r : List V → Hp → VK → Prop) (f : List Vw → Option Rv) : Prop := ∀ {F : Hp} {ι : List Addr} {μ : Store} {H : Hp} {ws : List Vw} {vs : List V} {rv : Rv} {Q : VK}, RS K cad F ι μ H → Paired (VwR K cad F ι H) ws vs → f ws = some rv →
  (∀ F' ι' H' v, Ext F ι H F' ι' H' → RS K cad F' ι' μ H' → RvR K cad H F' ι' H' rv v → Q v H') → r vs H Q
section
variable {X : Cx} {cad : Str → Addr} {W : WX} {pos p : Pos} {e : Expr} {es : List Expr} {x : Str} {id T : String} {r : List V → Hp → VK → Prop} {f : List Vw → Option Rv} {as : Ev → Store → Res (List Op)}
theorem derefs_ok {K : PySem.W.Frag} {F H H0 : Hp} {ι : List Addr} {μ : Store} {ρ : Ev} {σ : L2.St} (rr : R K cad F ι μ ρ σ H) : ∀ {os : List Op} {vs : List V} {ws : List Vw}, OpVs K cad ρ σ H0 F ι H os vs → derefs ρ μ os = some ws → Paired (VwR K cad F ι H) ws vs
  | [], _, _, .nil, e => by cases e; exact .nil
  | o :: os, _, ws, .cons h t, e => by
    unfold derefs at e
    cases c : deref ρ μ o with
    | none => rw [c] at e; cases e
    | some w =>
      cases c2 : derefs ρ μ os with
      | none => simp [c, c2] at e
      | some ws' =>
        simp [c, c2] at e
        subst e
        exact .cons (h.view rr c) (derefs_ok rr t c2)
theorem eCB_ok {K : PySem.W.Frag} (sd : SdB K cad r f) {σ : L2.St} {H : Hp} {Q : VK} (h : tE K cad W (eCB f as) σ H Q) : tCB r (tOs K cad W as) σ H Q := by
  obtain ⟨F, ι, μ, ρ, rr, q⟩ := h
  refine ⟨F, ι, μ, ρ, rr, q.bind fun os μ1 F1 ι1 H1 vs x1 s1 q1 h1 => ?_⟩
  obtain ⟨o, e1, k⟩ := Post.of h1
  cases c : derefs ρ μ1 os with
  | none => rw [c] at e1; cases e1
  | some ws =>
    rw [c] at e1
    cases cf : f ws with
    | none => simp [cf] at e1
    | some rv =>
      simp [cf] at e1
      subst e1
      exact sd s1 (derefs_ok (rr.ext x1 s1) q1 c) cf fun F' ι' H' v x s z => k F' ι' H' v x s z.op
theorem de_callB (hc : CallR X (.builtin id) r) (sd : SdB X.K cad r f) (hg : Gl X x) (hm : X.mg x = none) (hv : bootBuiltins x = some (.builtin id)) (ha : PA X (e :: es) (tOs X.K cad W as)) (hn : x ≠ "__name__" := by decide) (hdb : (x == ("__debug__" : Str)) = false := by decide)
    (he : starEach (e :: es) X.env = (false, eval e X.env) :: starEach es X.env := by rfl) (hpl : (backTo pos (starEach es X.env)).any (·.1) = false := by rfl) : PE X (.Call (.Name x p) (e :: es) [] pos) (tE X.K cad W (eCB f as)) :=
  pe_imp (pe_callB hc hg hm hv ha hn hdb he hpl) fun σ H Q q => eCB_ok sd q
theorem de_callTy (hc : CallR X (.type T) r) (sd : SdB X.K cad r f) (hg : Gl X x) (hm : X.mg x = none) (hv : bootBuiltins x = some (.type T)) (ha : PA X (e :: es) (tOs X.K cad W as)) (hn : x ≠ "__name__" := by decide) (hdb : (x == ("__debug__" : Str)) = false := by decide)
    (he : starEach (e :: es) X.env = (false, eval e X.env) :: starEach es X.env := by rfl) (hpl : (backTo pos (starEach es X.env)).any (·.1) = false := by rfl) : PE X (.Call (.Name x p) (e :: es) [] pos) (tE X.K cad W (eCB f as)) :=
  pe_imp (pe_callTy hc hg hm hv ha hn hdb he hpl) fun σ H Q q => eCB_ok sd q
end
/-- len -/
def fLen : List Vw → Option Rv
  | [.ob (.lst ds)] => some (.sh (.int ds.length))
  | [.d (.tup ds)] => some (.sh (.int ds.length))
  | [.d (.scr ds)] => some (.sh (.int ds.length))
  | [.d (.str z)] => if z.length ≤ 16777216 then some (.sh (.int z.length)) else none
  | [.ob (.dK kvs)] => some (.sh (.int kvs.length))
  | _ => none
def fMax2 : List Vw → Option Rv
  | [.d (.int i), .d (.int j)] => some (.sh (.int (max i j)))
  | _ => none
def fMin2 : List Vw → Option Rv
  | [.d (.int i), .d (.int j)] => some (.sh (.int (min i j)))
  | _ => none
def fInt : List Vw → Option Rv
  | [.d (.int i)] => some (.sh (.int i))
  | [.d (.bl b)] => some (.sh (.int (if b then 1 else 0)))
  | _ => none
def fList : List Vw → Option Rv
  | [.ob (.lst ds)] => some (.own (.lst ds))
  | [.d (.tup ds)] => some (.own (.lst ds))
  | _ => none
def fTuple : List Vw → Option Rv
  | [.ob (.lst ds)] => some (.sh (.tup ds))
  | [.d (.tup ds)] => some (.sh (.tup ds))
  | _ => none
/-- the greatest of ints -/
def maxL : List Int → Int
  | [] => 0
  | [i] => i
  | i :: r => max i (maxL r)
def fMaxL : List Vw → Option Rv
  | [.ob (.lst ds)] => (D.ints ds).bind fun ns => if ns.length = 0 then none else some (.sh (.int (maxL ns)))
  | _ => none
def fSum : List Vw → Option Rv
  | [.ob (.lst ds)] => (D.ints ds).map fun ns => .sh (.int ns.sum)
  | _ => none
theorem maxL_mem : ∀ {ns : List Int}, ns.length ≠ 0 → maxL ns ∈ ns
  | [], h => absurd rfl h
  | [i], _ => by simp [maxL]
  | i :: j :: r, _ => by
    have ih := maxL_mem (ns := j :: r) (by simp)
    show max i (maxL (j :: r)) ∈ _
    rcases Int.le_total i (maxL (j :: r)) with h | h
    · rw [Int.max_eq_right h]; exact List.mem_cons_of_mem _ ih
    · rw [Int.max_eq_left h]; exact List.mem_cons_self
theorem maxL_ge : ∀ {ns : List Int} {y : Int}, y ∈ ns → y ≤ maxL ns
  | [], y, h => by simp at h
  | [i], y, h => by
    have : y = i := by simpa using h
    rw [this]; exact Int.le_refl _
  | i :: j :: r, y, h => by
    show y ≤ max i (maxL (j :: r))
    rcases List.mem_cons.mp h with e | e
    · rw [e]; exact Int.le_max_left _ _
    · exact Int.le_trans (maxL_ge e) (Int.le_max_right _ _)
section
variable {K : PySem.W.Frag} {cad : Str → Addr}
theorem pr1 {α β : Type} {P : α → β → Prop} {a : α} {bs : List β} (h : Paired P [a] bs) : ∃ b, bs = [b] ∧ P a b := by
  cases h with
  | cons h t => cases t; exact ⟨_, rfl, h⟩
theorem pr2 {α β : Type} {P : α → β → Prop} {a a' : α} {bs : List β} (h : Paired P [a, a'] bs) : ∃ b b', bs = [b, b'] ∧ P a b ∧ P a' b' := by
  cases h with
  | cons h t => cases t with
    | cons h' t => cases t; exact ⟨_, _, rfl, h, h'⟩
def rLenA (K : PySem.W.Frag) : List V → Hp → VK → Prop := fun xs H Q => (∃ p ys, xs = [.ref p] ∧ (SqL K H p ys ∨ SqT K H p ys) ∧ Q (.int ys.length) H) ∨ (∃ z, xs = [.str z] ∧ z.length ≤ sizeLine ∧ Q (.int z.length) H) ∨ ∃ a kvs, xs = [.ref a] ∧ Rd H a (.dK kvs) ∧ Q (.int kvs.length) H
theorem call_lenDK {X : Cx} : CallR X (.builtin "len") (fun xs H Q => ∃ a kvs, xs = [.ref a] ∧ Rd H a (.dK kvs) ∧ Q (.int kvs.length) H) := by
  intro pins s σ H vs us Q I r h
  obtain ⟨a, kvs, rfl, e, q⟩ := h
  obtain ⟨u, rfl, ru⟩ := vals1 r
  obtain rfl : u = Value.ref a := ru
  exact d_len I e fun t s' I' => ⟨.int kvs.length, H, I', ⟨t, rfl⟩, q⟩
theorem call_lenA {X : Cx} : CallR X (.builtin "len") (rLenA X.K) := call_len_seq.or (call_len_str.or call_lenDK)
theorem sd_len : SdB K cad (rLenA K) fLen := by
  intro F ι μ H ws vs rv Q rs hw e k
  unfold fLen at e
  split at e
  · cases e
    obtain ⟨v, rfl, a, rfl, us, e1, r⟩ := pr1 hw
    refine .inl ⟨a, us, rfl, .inl (SqL.of e1), ?_⟩
    rw [← r.len]
    exact fin_int rs k
  · cases e
    obtain ⟨v, rfl, h⟩ := pr1 hw
    obtain ⟨a, us, rfl, e1, r⟩ := vw_tup h
    refine .inl ⟨a, us, rfl, .inr (SqT.sub rs e1), ?_⟩
    rw [← r.len]
    exact fin_int rs k
  · cases e
    obtain ⟨v, rfl, h⟩ := pr1 hw
    obtain ⟨a, rfl, s⟩ := vw_scr h
    refine .inl ⟨a, _, rfl, .inl (rs.sub.seq s), ?_⟩
    rw [List.length_map]
    exact fin_int rs k
  · split at e
    · next hl =>
      cases e
      obtain ⟨v, rfl, h⟩ := pr1 hw
      obtain rfl := vw_str h
      exact .inr (.inl ⟨_, rfl, line_eq.mpr hl, fin_int rs k⟩)
    · cases e
  · next kvs =>
    cases e
    obtain ⟨v, rfl, a, rfl, us, e1, r⟩ := pr1 hw
    refine .inr (.inr ⟨a, _, rfl, e1, ?_⟩)
    have hl : ((kvs.map (·.1)).zip us).length = kvs.length := by
      have := r.len
      rw [List.length_map] at this
      rw [List.length_zip, List.length_map, ← this, Nat.min_self]
    rw [hl]
    exact fin_int rs k
  · cases e
theorem sd_max2 : SdB K cad (fun xs H Q => ∃ i j, xs = [.int i, .int j] ∧ Q (.int (if j > i then j else i)) H) fMax2 := by
  intro F ι μ H ws vs rv Q rs hw e k
  unfold fMax2 at e
  split at e
  · next i j =>
    cases e
    obtain ⟨v, v', rfl, h, h'⟩ := pr2 hw
    obtain rfl := vw_int h
    obtain rfl := vw_int h'
    refine ⟨i, j, rfl, ?_⟩
    rw [show (if j > i then j else i) = max i j by split <;> omega]
    exact fin_int rs k
  · cases e
theorem sd_min2 : SdB K cad (fun xs H Q => ∃ i j, xs = [.int i, .int j] ∧ Q (.int (if j < i then j else i)) H) fMin2 := by
  intro F ι μ H ws vs rv Q rs hw e k
  unfold fMin2 at e
  split at e
  · next i j =>
    cases e
    obtain ⟨v, v', rfl, h, h'⟩ := pr2 hw
    obtain rfl := vw_int h
    obtain rfl := vw_int h'
    refine ⟨i, j, rfl, ?_⟩
    rw [show (if j < i then j else i) = min i j by split <;> omega]
    exact fin_int rs k
  · cases e
theorem sd_int : SdB K cad (fun xs H Q => (∃ i, xs = [.int i] ∧ Q (.int i) H) ∨ ∃ k, xs = [.bl k] ∧ Q (.int (if k then 1 else 0)) H) fInt := by
  intro F ι μ H ws vs rv Q rs hw e k
  unfold fInt at e
  split at e
  · cases e
    obtain ⟨v, rfl, h⟩ := pr1 hw
    obtain rfl := vw_int h
    exact .inl ⟨_, rfl, fin_int rs k⟩
  · cases e
    obtain ⟨v, rfl, h⟩ := pr1 hw
    obtain rfl := vw_bl h
    exact .inr ⟨_, rfl, fin_int rs k⟩
  · cases e
theorem sd_list : SdB K cad (fun xs H Q => ∃ p ys, xs = [.ref p] ∧ (SqL K H p ys ∨ SqT K H p ys) ∧ ∀ l, H l = none → Q (.ref l) (upd H l (.lst ys))) fList := by
  intro F ι μ H ws vs rv Q rs hw e k
  unfold fList at e
  split at e
  · cases e
    obtain ⟨v, rfl, a, rfl, us, e1, r⟩ := pr1 hw
    exact ⟨a, us, rfl, .inl (SqL.of e1), fun l hl => fin_own rs k hl ⟨us, rfl, r⟩⟩
  · cases e
    obtain ⟨v, rfl, h⟩ := pr1 hw
    obtain ⟨a, us, rfl, e1, r⟩ := vw_tup h
    exact ⟨a, us, rfl, .inr (SqT.sub rs e1), fun l hl => fin_own rs k hl ⟨us, rfl, r⟩⟩
  · cases e
theorem sd_tuple : SdB K cad (fun xs H Q => ∃ p ys, xs = [.ref p] ∧ ((SqL K H p ys ∧ ∀ l, H l = none → Q (.ref l) (upd H l (.tup ys))) ∨ (SqT K H p ys ∧ Q (.ref p) H))) fTuple := by
  intro F ι μ H ws vs rv Q rs hw e k
  unfold fTuple at e
  split at e
  · cases e
    obtain ⟨v, rfl, a, rfl, us, e1, r⟩ := pr1 hw
    exact ⟨a, us, rfl, .inl ⟨SqL.of e1, fun l hl => fin_tup rs k hl r⟩⟩
  · cases e
    obtain ⟨v, rfl, h⟩ := pr1 hw
    obtain ⟨a, us, rfl, e1, r⟩ := vw_tup h
    exact ⟨a, us, rfl, .inr ⟨SqT.sub rs e1, fin_sh rs k h⟩⟩
  · cases e
theorem sd_maxL : SdB K cad (rMax K) fMaxL := by
  intro F ι μ H ws vs rv Q rs hw e k
  unfold fMaxL at e
  split at e
  · next ds =>
    cases c : D.ints ds with
    | none => simp [c] at e
    | some ns =>
      simp only [c, Option.bind_some] at e
      split at e
      · cases e
      · next hn =>
        cases e
        obtain ⟨v, rfl, a, rfl, us, e1, r⟩ := pr1 hw
        rw [ints_vals r c] at e1
        refine ⟨a, ns, rfl, SqL.of e1, by omega, fun m hm1 hm2 => ?_⟩
        have : m = maxL ns := Int.le_antisymm (maxL_ge hm1) (hm2 _ (maxL_mem hn))
        rw [this]
        exact fin_int rs k
  · cases e
theorem sd_sum : SdB K cad (rSum K) fSum := by
  intro F ι μ H ws vs rv Q rs hw e k
  unfold fSum at e
  split at e
  · next ds =>
    cases c : D.ints ds with
    | none => simp [c] at e
    | some ns =>
      simp [c] at e
      subst e
      obtain ⟨v, rfl, a, rfl, us, e1, r⟩ := pr1 hw
      rw [ints_vals r c] at e1
      exact ⟨a, ns, rfl, SqL.of e1, fin_int rs k⟩
  · cases e
end
end DL

namespace DL
open PySem PySem.Spec PyProof.Rows L2

/-! ### statements; E: the state at the def's entry -/
structure Ent where
  F : Hp
  ι : List Addr
  H : Hp
structure R0 (K : PySem.W.Frag) (cad : Str → Addr) (E : Ent) (F : Hp) (ι : List Addr) (μ : Store) (ρ : Ev) (σ : L2.St) (H : Hp) : Prop where
  r : R K cad F ι μ ρ σ H
  x : Ext E.F E.ι E.H F ι H
  fr : ∀ (i : Nat) (o : Ob) (a : Addr), ρ[i]? = some (.own o) → σ[i]? = some (some (.ref a)) → E.H a = none
inductive Fl where | nx | bk | ct | rt (r : Rv)
abbrev MS := Ev → Store → Res (Fl × Ev)
def PostS (K : PySem.W.Frag) (cad : Str → Addr) (W : WX) (E : Ent) (F : Hp) (ι : List Addr) (r : Res (Fl × Ev)) (D : Ends) : Prop := match r with
  | .ok (.nx, ρ') μ' => ∀ F' ι' σ' H', Same F F' → ι <+: ι' → R0 K cad E F' ι' μ' ρ' σ' H' → D.nx σ' H'
  | .ok (.bk, ρ') μ' => ∀ F' ι' σ' H', Same F F' → ι <+: ι' → R0 K cad E F' ι' μ' ρ' σ' H' → D.bk σ' H'
  | .ok (.ct, ρ') μ' => ∀ F' ι' σ' H', Same F F' → ι <+: ι' → R0 K cad E F' ι' μ' ρ' σ' H' → D.ct σ' H'
  | .ok (.rt rv, _) μ' => ∀ F' ι' H' v, Ext E.F E.ι E.H F' ι' H' → RS K cad F' ι' μ' H' → RvR K cad E.H F' ι' H' rv v → D.rt v H'
  | .exc x μ' => ∀ F' ι' H' σ' d, Ext E.F E.ι E.H F' ι' H' → RS K cad F' ι' μ' H' → XR K cad F' ι' x d → W (.ref (cad x.cls)) d σ' H'
  | .stk => False
def tS (K : PySem.W.Frag) (cad : Str → Addr) (W : WX) (E : Ent) (m : MS) : TS := fun D σ H => ∃ F ι μ ρ, R0 K cad E F ι μ ρ σ H ∧ PostS K cad W E F ι (m ρ μ) D
theorem PostS.ext {K : PySem.W.Frag} {cad : Str → Addr} {W : WX} {E : Ent} {F F' : Hp} {ι ι' : List Addr} {r : Res (Fl × Ev)} {D : Ends} (hf : Same F F') (hi : ι <+: ι') (h : PostS K cad W E F ι r D) : PostS K cad W E F' ι' r D := by
  cases r with
  | stk => exact h
  | exc x μ => exact h
  | ok p μ =>
    obtain ⟨f, ρ⟩ := p
    cases f with
    | nx => exact fun F2 ι2 σ2 H2 a b => h F2 ι2 σ2 H2 (hf.trans a) (hi.trans b)
    | bk => exact fun F2 ι2 σ2 H2 a b => h F2 ι2 σ2 H2 (hf.trans a) (hi.trans b)
    | ct => exact fun F2 ι2 σ2 H2 a b => h F2 ι2 σ2 H2 (hf.trans a) (hi.trans b)
    | rt rv => exact h
def mNx : MS := fun ρ μ => .ok (.nx, ρ) μ
def seqR (r : Res (Fl × Ev)) (n : MS) : Res (Fl × Ev) := match r with
  | .ok (.nx, ρ') μ' => n ρ' μ'
  | r => r
def mSeq (m n : MS) : MS := fun ρ μ => seqR (m ρ μ) n
section
variable {K : PySem.W.Frag} {cad : Str → Addr} {E : Ent} {F F' H H' H0 : Hp} {ι ι' : List Addr} {μ μ' : Store} {ρ : Ev} {σ : L2.St}
theorem R0.ext (r : R0 K cad E F ι μ ρ σ H) (x : Ext F ι H F' ι' H') (s : RS K cad F' ι' μ' H') : R0 K cad E F' ι' μ' ρ σ H' := ⟨r.r.ext x s, r.x.trans x, r.fr⟩
theorem get_set {α : Type} {l : List α} {i j : Nat} {a b : α} (h : (l.set i a)[j]? = some b) : (j = i ∧ b = a ∧ i < l.length) ∨ (j ≠ i ∧ l[j]? = some b) := by
  by_cases e : i = j
  · subst e
    by_cases hl : i < l.length
    · rw [List.getElem?_set_self hl] at h
      exact .inl ⟨rfl, (Option.some.inj h).symm, hl⟩
    · rw [List.getElem?_eq_none (by rw [List.length_set]; omega)] at h
      cases h
  · rw [List.getElem?_set_ne e] at h
    exact .inr ⟨fun z => e z.symm, h⟩
/-- a name comes to hold data -/
theorem R0.set (r : R0 K cad E F ι μ ρ σ H) {i : Nat} {d : D} {v : V} (q : VR K cad ι F d v) : R0 K cad E F ι μ (ρ.set i (.sh d)) (σ.set i (some v)) H := by
  refine ⟨⟨r.r.rs, by rw [List.length_set, List.length_set]; exact r.r.len, fun j d' e => ?_, fun j o e => ?_, fun j k o o' a e1 e2 e3 e4 => ?_⟩, r.x, fun j o a e1 e2 => ?_⟩
  · rcases get_set e with ⟨rfl, e', hl⟩ | ⟨hj, e⟩
    · cases e'
      exact ⟨v, List.getElem?_set_self (by rw [r.r.len]; exact hl), q⟩
    · obtain ⟨v', e1, q'⟩ := r.r.sh j d' e
      exact ⟨v', by rw [List.getElem?_set_ne (fun z => hj z.symm)]; exact e1, q'⟩
  · rcases get_set e with ⟨_, e', _⟩ | ⟨hj, e⟩
    · cases e'
    · obtain ⟨a, ho, e1, z⟩ := r.r.own j o e
      exact ⟨a, ho, by rw [List.getElem?_set_ne (fun z => hj z.symm)]; exact e1, z⟩
  · rcases get_set e1 with ⟨_, e', _⟩ | ⟨hj, e1⟩
    · cases e'
    rcases get_set e2 with ⟨_, e', _⟩ | ⟨hk, e2⟩
    · cases e'
    rw [List.getElem?_set_ne (fun z => hj z.symm)] at e3
    rw [List.getElem?_set_ne (fun z => hk z.symm)] at e4
    exact r.r.dis j k o o' a e1 e2 e3 e4
  · rcases get_set e1 with ⟨_, e', _⟩ | ⟨hj, e1⟩
    · cases e'
    rw [List.getElem?_set_ne (fun z => hj z.symm)] at e2
    exact r.fr j o a e1 e2
/-- a name comes to hold a new thing -/
theorem R0.setOwn (r : R0 K cad E F ι μ ρ σ H) {i : Nat} {ob : Ob} {a : Addr} {ho : HO} (h1 : F a = none) (h2 : a ∉ ι) (h3 : E.H a = none) (h4 : H a = some ho) (q : OR K cad ι F ob ho)
    (hd : ∀ (j : Nat) (o : Ob), j ≠ i → ρ[j]? = some (.own o) → σ[j]? ≠ some (some (.ref a))) : R0 K cad E F ι μ (ρ.set i (.own ob)) (σ.set i (some (.ref a))) H := by
  refine ⟨⟨r.r.rs, by rw [List.length_set, List.length_set]; exact r.r.len, fun j d' e => ?_, fun j o e => ?_, fun j k o o' b e1 e2 e3 e4 => ?_⟩, r.x, fun j o b e1 e2 => ?_⟩
  · rcases get_set e with ⟨_, e', _⟩ | ⟨hj, e⟩
    · cases e'
    · obtain ⟨v', e1, q'⟩ := r.r.sh j d' e
      exact ⟨v', by rw [List.getElem?_set_ne (fun z => hj z.symm)]; exact e1, q'⟩
  · rcases get_set e with ⟨rfl, e', hl⟩ | ⟨hj, e⟩
    · cases e'
      exact ⟨a, ho, List.getElem?_set_self (by rw [r.r.len]; exact hl), h1, h2, h4, q⟩
    · obtain ⟨b, ho', e1, z⟩ := r.r.own j o e
      exact ⟨b, ho', by rw [List.getElem?_set_ne (fun z => hj z.symm)]; exact e1, z⟩
  · rcases get_set e1 with ⟨rfl, e', hl⟩ | ⟨hj, e1⟩
    · rcases get_set e2 with ⟨rfl, _, _⟩ | ⟨hk, e2⟩
      · rfl
      · rw [List.getElem?_set_self (by rw [r.r.len]; exact hl)] at e3
        rw [List.getElem?_set_ne (fun z => hk z.symm)] at e4
        cases e3
        exact absurd e4 (hd k o' hk e2)
    · rw [List.getElem?_set_ne (fun z => hj z.symm)] at e3
      rcases get_set e2 with ⟨hk, _, hl⟩ | ⟨hk, e2⟩
      · rw [hk, List.getElem?_set_self (by rw [r.r.len]; exact hl)] at e4
        cases e4
        exact absurd e3 (hd j o hj e1)
      · rw [List.getElem?_set_ne (fun z => hk z.symm)] at e4
        exact r.r.dis j k o o' b e1 e2 e3 e4
  · rcases get_set e1 with ⟨rfl, e', hl⟩ | ⟨hj, e1⟩
    · rw [List.getElem?_set_self (by rw [r.r.len]; exact hl)] at e2
      cases e2
      exact h3
    · rw [List.getElem?_set_ne (fun z => hj z.symm)] at e2
      exact r.fr j o b e1 e2
end
section
variable {X : Cx} {cad : Str → Addr} {W : WX} {E : Ent} {pos : Pos} {e : Expr} {st : Stmt} {rest : List Stmt} {m n : MS} {ma : ME}
theorem dss_nil : PSs X [] (tS X.K cad W E mNx) := pss_imp pss_nil fun D σ H ⟨F, ι, μ, ρ, r, h⟩ => h F ι σ H (Same.refl _) List.prefix_rfl r
theorem dss_cons (h1 : PS X st (tS X.K cad W E m)) (h2 : PSs X rest (tS X.K cad W E n)) : PSs X (st :: rest) (tS X.K cad W E (mSeq m n)) := by
  refine pss_imp (pss_cons h1 h2) fun D σ H ⟨F, ι, μ, ρ, r, h⟩ => ⟨F, ι, μ, ρ, r, ?_⟩
  unfold mSeq seqR at h
  cases c : m ρ μ with
  | stk => rw [c] at h; exact h
  | exc x μ1 => rw [c] at h; exact h
  | ok p μ1 =>
    rw [c] at h
    obtain ⟨f, ρ1⟩ := p
    cases f with
    | nx => exact fun F' ι' σ' H' a b r' => ⟨F', ι', μ1, ρ1, r', PostS.ext a b h⟩
    | bk => exact h
    | ct => exact h
    | rt rv => exact h
theorem dss_one (h : PS X st (tS X.K cad W E m)) : PSs X [st] (tS X.K cad W E m) := by
  refine pss_imp (pss_cons h (dss_nil (cad := cad) (W := W) (E := E))) fun D σ H ⟨F, ι, μ, ρ, r, h⟩ => ⟨F, ι, μ, ρ, r, ?_⟩
  cases c : m ρ μ with
  | stk => rw [c] at h; exact h
  | exc x μ1 => rw [c] at h; exact h
  | ok p μ1 =>
    rw [c] at h
    obtain ⟨f, ρ1⟩ := p
    cases f with
    | nx => exact fun F' ι' σ' H' a b r' => ⟨F', ι', μ1, ρ1, r', PostS.ext a b h⟩
    | bk => exact h
    | ct => exact h
    | rt rv => exact h
/-! ### x = e -/
def mSet (i : Nat) (a : ME) : MS := fun ρ μ => (toD a ρ μ).bind fun d μ1 => .ok (.nx, ρ.set i (.sh d)) μ1
def mOwn (i : Nat) (a : ME) : MS := fun ρ μ => (a ρ μ).bind fun o μ1 => match o with
  | .own ob => .ok (.nx, ρ.set i (.own ob)) μ1
  | _ => .stk
theorem mSet_ok {K : PySem.W.Frag} {i : Nat} {D : Ends} {σ : L2.St} {H : Hp} (h : tS K cad W E (mSet i ma) D σ H) : tD K cad W (toD ma) σ H fun v H1 => D.nx (σ.set i (some v)) H1 := by
  obtain ⟨F, ι, μ, ρ, r, h⟩ := h
  refine ⟨F, ι, μ, ρ, r.r, ?_⟩
  unfold mSet at h
  cases c : toD ma ρ μ with
  | stk => rw [c] at h; exact h
  | exc x μ1 => rw [c] at h; exact fun F' ι' H' d y s q => h F' ι' H' σ d (r.x.trans y) s q
  | ok d μ1 => rw [c] at h; exact fun F' ι' H' v y s q => h F' ι' _ H' y.f y.i ((r.ext y s).set q)
theorem mOwn_ok {K : PySem.W.Frag} {i : Nat} {D : Ends} {σ : L2.St} {H : Hp} (h : tS K cad W E (mOwn i ma) D σ H) : tE K cad W ma σ H fun v H1 => D.nx (σ.set i (some v)) H1 := by
  obtain ⟨F, ι, μ, ρ, r, h⟩ := h
  refine ⟨F, ι, μ, ρ, r.r, ?_⟩
  unfold mOwn at h
  cases c : ma ρ μ with
  | stk => rw [c] at h; exact h
  | exc x μ1 => rw [c] at h; exact fun F' ι' H' d y s q => h F' ι' H' σ d (r.x.trans y) s q
  | ok o μ1 =>
    rw [c] at h
    cases o with
    | sh d => exact h.elim
    | slot j => exact h.elim
    | own ob =>
      intro F' ι' H' v y s q
      obtain ⟨a, ho, rfl, e2, e3, e4, e5, z⟩ := q
      refine h F' ι' _ H' y.f y.i ((r.ext y s).setOwn e2 e3 (r.x.dom a e4) e5 z fun j o hj ej es => ?_)
      obtain ⟨b, ho', e6, _, _, e7, _⟩ := r.r.own j o ej
      rw [es] at e6
      cases e6
      rw [e4] at e7
      cases e7
theorem ds_set (i : Nat) {x : Str} {pos' : Pos} (hN : X.N.Nodup) (he : PE X e (tE X.K cad W ma)) (hi : X.N[i]? = some x := by rfl) (hx : Loc X.env.scope x := by first | exact Or.inl rfl | exact Or.inr rfl) (hs : swapsWith e (some (.Name x pos')) pos.line X.env = pure false := by rfl)
    (hf : X.fn x = true ∨ X.env.scope.names.lookup x = some .local := by first | exact .inl rfl | exact .inr rfl) : PS X (.Assign [.Name x pos'] e pos) (tS X.K cad W E (mSet i ma)) :=
  ps_imp (ps_set (i := i) hN hi hx (de_toD he) hs hf) fun D σ H h => mSet_ok h
theorem ds_own (i : Nat) {x : Str} {pos' : Pos} (hN : X.N.Nodup) (he : PE X e (tE X.K cad W ma)) (hi : X.N[i]? = some x := by rfl) (hx : Loc X.env.scope x := by first | exact Or.inl rfl | exact Or.inr rfl) (hs : swapsWith e (some (.Name x pos')) pos.line X.env = pure false := by rfl)
    (hf : X.fn x = true ∨ X.env.scope.names.lookup x = some .local := by first | exact .inl rfl | exact .inr rfl) : PS X (.Assign [.Name x pos'] e pos) (tS X.K cad W E (mOwn i ma)) :=
  ps_imp (ps_set (i := i) hN hi hx he hs hf) fun D σ H h => mOwn_ok h
/-! ### return, an expression alone, if, pass -/
def opRv (ρ : Ev) : Op → Option Rv
  | .sh d => some (.sh d)
  | .own o => some (.own o)
  | .slot i => match ρ[i]? with
    | some (.own o) => some (.own o)
    | _ => none
def mRet (a : ME) : MS := fun ρ μ => (a ρ μ).bind fun o μ1 => match opRv ρ o with
  | some rv => .ok (.rt rv, ρ) μ1
  | none => .stk
def mRetN : MS := fun ρ μ => .ok (.rt (.sh .non), ρ) μ
def mDrop (a : ME) : MS := fun ρ μ => (a ρ μ).bind fun _ μ1 => .ok (.nx, ρ) μ1
def mIf (t : MT) (m n : MS) : MS := fun ρ μ => (t ρ μ).bind fun c μ1 => if c = true then m ρ μ1 else n ρ μ1
theorem mRet_ok {K : PySem.W.Frag} {D : Ends} {σ : L2.St} {H : Hp} (h : tS K cad W E (mRet ma) D σ H) : tE K cad W ma σ H D.rt := by
  obtain ⟨F, ι, μ, ρ, r, h⟩ := h
  refine ⟨F, ι, μ, ρ, r.r, ?_⟩
  unfold mRet at h
  cases c : ma ρ μ with
  | stk => rw [c] at h; exact h
  | exc x μ1 => rw [c] at h; exact fun F' ι' H' d y s q => h F' ι' H' σ d (r.x.trans y) s q
  | ok o μ1 =>
    rw [c] at h
    intro F' ι' H' v y s q
    have r' := r.ext y s
    cases o with
    | sh d => exact h F' ι' H' v (r.x.trans y) s q
    | own ob =>
      obtain ⟨a, ho, rfl, e2, e3, e4, e5, z⟩ := q
      exact h F' ι' H' _ (r.x.trans y) s ⟨a, ho, rfl, e2, e3, r.x.dom a e4, e5, z⟩
    | slot j =>
      obtain ⟨e1, ob, e2⟩ := q
      have h : PostS K cad W E F ι (match (match ρ[j]? with | some (.own o) => some (Rv.own o) | _ => none) with | some rv => .ok (.rt rv, ρ) μ1 | none => .stk) D := h
      rw [e2] at h
      obtain ⟨a, ho, e3, e4, e5, e6, z⟩ := r'.r.own j ob e2
      rw [e1] at e3
      cases e3
      exact h F' ι' H' _ (r.x.trans y) s ⟨a, ho, rfl, e4, e5, r.fr j ob a e2 e1, e6, z⟩
theorem ds_ret (he : PE X e (tE X.K cad W ma)) : PS X (.Return (some e) pos) (tS X.K cad W E (mRet ma)) := ps_imp (ps_ret he) fun D σ H h => mRet_ok h
theorem ds_retN : PS X (.Return none pos) (tS X.K cad W E mRetN) := ps_imp ps_retN fun D σ H ⟨F, ι, μ, ρ, r, h⟩ => h F ι H .non r.x r.r.rs (show VR X.K cad ι F DL.D.non V.non from VR.non_.mpr rfl)
theorem ds_pass : PS X (.Pass pos) (tS X.K cad W E mNx) := ps_imp ps_pass fun D σ H ⟨F, ι, μ, ρ, r, h⟩ => h F ι σ H (Same.refl _) List.prefix_rfl r
theorem ds_drop (he : PE X e (tE X.K cad W ma)) (hs : swapsWith e none pos.line X.env = pure false := by rfl) : PS X (.Expr e pos) (tS X.K cad W E (mDrop ma)) := by
  refine ps_imp (ps_expr he hs) fun D σ H ⟨F, ι, μ, ρ, r, h⟩ => ⟨F, ι, μ, ρ, r.r, ?_⟩
  unfold mDrop at h
  cases c : ma ρ μ with
  | stk => rw [c] at h; exact h
  | exc x μ1 => rw [c] at h; exact fun F' ι' H' d y s q => h F' ι' H' σ d (r.x.trans y) s q
  | ok o μ1 => rw [c] at h; exact fun F' ι' H' v y s q => h F' ι' σ H' y.f y.i (r.ext y s)
theorem ds_if {t : Expr} {body els : List Stmt} {mt : MT} {m n : MS} (ht : PT X t (tT X.K cad W mt)) (hb : PSs X body (tS X.K cad W E m)) (he : PSs X els (tS X.K cad W E n)) : PS X (.If t body els pos) (tS X.K cad W E (mIf mt m n)) := by
  refine ps_imp (ps_if ht hb he) fun D σ H ⟨F, ι, μ, ρ, r, h⟩ => ⟨F, ι, μ, ρ, r.r, ?_⟩
  unfold mIf at h
  cases c : mt ρ μ with
  | stk => rw [c] at h; exact h
  | exc x μ1 => rw [c] at h; exact fun F' ι' H' d y s q => h F' ι' H' σ d (r.x.trans y) s q
  | ok k μ1 =>
    rw [c] at h
    intro F' ι' H' v y s q
    have q : k = v := q
    subst q
    cases k with
    | true => rw [if_pos rfl]; exact ⟨F', ι', μ1, ρ, r.ext y s, PostS.ext y.f y.i h⟩
    | false => rw [if_neg Bool.false_ne_true]; exact ⟨F', ι', μ1, ρ, r.ext y s, PostS.ext y.f y.i h⟩
def mBrk : MS := fun ρ μ => .ok (.bk, ρ) μ
def mCont : MS := fun ρ μ => .ok (.ct, ρ) μ
def mStk : MS := fun _ _ => .stk
theorem ds_never (st : Stmt) : PS X st (tS X.K cad W E mStk) := ps_imp ps_never fun D σ H ⟨F, ι, μ, ρ, r, h⟩ => h
end

/-! ### things that change -/
def getOb (ρ : Ev) (μ : Store) : Op → Option Ob
  | .slot i => match ρ[i]? with
    | some (.own o) => some o
    | _ => none
  | .sh (.loc n) => μ[n]?
  | _ => none
def putOb (ρ : Ev) (μ : Store) (o : Op) (ob : Ob) : Ev × Store := match o with
  | .slot i => (ρ.set i (.own ob), μ)
  | .sh (.loc n) => (ρ, μ.set n ob)
  | _ => (ρ, μ)
theorem Ext.upd_of {F F' H H' : Hp} {ι ι' : List Addr} {a : Addr} {ho : HO} (x : Ext F ι H F' ι' H') (h : a ∉ ι → H a = none) (nf : ∀ o u, H a ≠ some (.frz o u)) : Ext F ι H F' ι' (upd H' a ho) := by
  refine ⟨x.f, x.i, fun b o hb e => ?_, fun b e => ?_, x.nf, x.ni, fun b o u s => by rw [upd_ne (show b ≠ a from fun z => nf o u (by rw [← z]; exact s))]; exact x.lk b o u s⟩
  · rw [upd_ne (fun z => by
      rw [z] at hb e
      rw [h hb] at e
      cases e)]
    exact x.kept b o hb e
  · by_cases q : b = a
    · rw [q, upd_same] at e
      cases e
    · rw [upd_ne q] at e
      exact x.dom b e
section
variable {K : PySem.W.Frag} {cad : Str → Addr} {E : Ent} {F F' H H' H0 : Hp} {ι ι' : List Addr} {μ μ' : Store} {ρ : Ev} {σ : L2.St}
def Ob.unl : Ob → Bool
  | .lkK _ => false
  | .lkT _ => false
  | _ => true
theorem OR.unl {ob : Ob} {ho : HO} (q : OR K cad ι F ob ho) (h : ob.unl = true) : ∀ o u, ho ≠ .frz o u := by
  intro o u z
  subst z
  cases ob with
  | lst _ => obtain ⟨_, e, _⟩ := q; cases e
  | dK _ => obtain ⟨_, e, _⟩ := q; cases e
  | dT _ => obtain ⟨_, e, _⟩ := q; cases e
  | ins _ _ => obtain ⟨_, _, e, _⟩ := q; cases e
  | lkK _ => cases h
  | lkT _ => cases h
  | dead => exact q
theorem put_ok (r : R0 K cad E F ι μ ρ σ H) {o : Op} {v : V} {ob : Ob} (q : OpV K cad ρ σ H0 F ι H o v) (e : getOb ρ μ o = some ob) (hl : ob.unl = true) : ∃ a ho, v = .ref a ∧ H a = some ho ∧ OR K cad ι F ob ho ∧
    ∀ ob' ho', OR K cad ι F ob' ho' → R0 K cad E F ι (putOb ρ μ o ob').2 (putOb ρ μ o ob').1 σ (upd H a ho') := by
  cases o with
  | own o => cases e
  | slot i =>
    obtain ⟨e1, o, e2⟩ := q
    have e : (match ρ[i]? with | some (.own o) => some o | _ => none) = some ob := e
    rw [e2] at e
    cases e
    obtain ⟨a, ho, e3, e4, e5, e6, z⟩ := r.r.own i _ e2
    rw [e1] at e3
    cases e3
    have hE : E.H a = none := r.fr i _ a e2 e1
    refine ⟨a, ho, rfl, e6, z, fun ob' ho' z' => ?_⟩
    show R0 K cad E F ι μ (ρ.set i (.own ob')) σ (upd H a ho')
    refine ⟨⟨?_, by rw [List.length_set]; exact r.r.len, fun j d ej => ?_, fun j o ej => ?_, fun j k o o' b ej ek e7 e8 => ?_⟩, (r.x.upd_of (fun _ => hE) fun o u z => by rw [hE] at z; cases z), fun j o b ej e7 => ?_⟩
    · refine r.r.rs.grow (Same.refl _) (fun b o' s => ?_) (fun b hb o' s => ?_) r.r.rs.sep
      · rw [upd_ne (fun w => by rw [w, e4] at s; cases s)]
        exact r.r.rs.sub b o' s
      · rw [upd_ne (show b ≠ a from fun w => e5 (w ▸ hb))]
        exact s
    · rcases get_set ej with ⟨_, e', _⟩ | ⟨hj, ej⟩
      · cases e'
      · exact r.r.sh j d ej
    · rcases get_set ej with ⟨rfl, e', _⟩ | ⟨hj, ej⟩
      · cases e'
        exact ⟨a, ho', e1, e4, e5, upd_same, z'⟩
      · obtain ⟨b, ho2, e7, e8, e9, e10, z2⟩ := r.r.own j o ej
        refine ⟨b, ho2, e7, e8, e9, ?_, z2⟩
        rw [upd_ne (show b ≠ a from fun w => hj (r.r.dis j i o _ a ej e2 (w ▸ e7) e1))]
        exact e10
    · have fix : ∀ {j : Nat} {o : Ob}, (ρ.set i (.own ob'))[j]? = some (.own o) → ∃ o2, ρ[j]? = some (.own o2) := fun {j o} h => by
        rcases get_set h with ⟨rfl, _, _⟩ | ⟨_, h⟩
        · exact ⟨_, e2⟩
        · exact ⟨_, h⟩
      obtain ⟨o1, f1⟩ := fix ej
      obtain ⟨o2, f2⟩ := fix ek
      exact r.r.dis j k o1 o2 b f1 f2 e7 e8
    · rcases get_set ej with ⟨rfl, _, _⟩ | ⟨hj, ej⟩
      · rw [e1] at e7
        cases e7
        exact hE
      · exact r.fr j o b ej e7
  | sh d =>
    cases d with
    | loc n =>
      obtain ⟨a, rfl, e1⟩ := VR.loc_.mp (show VR K cad ι F (.loc n) v from q)
      have e : μ[n]? = some ob := e
      obtain ⟨ho, e2, z⟩ := r.r.rs.obj n ob a e e1
      have ha : a ∈ ι := List.mem_of_getElem? e1
      refine ⟨a, ho, rfl, e2, z, fun ob' ho' z' => ?_⟩
      show R0 K cad E F ι (μ.set n ob') ρ σ (upd H a ho')
      have x : Ext F ι H F ι (upd H a ho') := Ext.put e1 fun o u w => z.unl hl o u (Option.some.inj (e2.symm.trans w))
      exact r.ext x (r.r.rs.put e1 z')
    | _ => cases e
end
end DL

namespace DL
open PySem PySem.Spec PyProof.Rows L2

/-! ### xs.append(e), xs.extend(e) -/
def putRes (ρ : Ev) (μ : Store) (o : Op) (ob : Ob) : Res (Fl × Ev) := .ok (.nx, (putOb ρ μ o ob).1) (putOb ρ μ o ob).2
def lstAt (ρ : Ev) (μ : Store) (o : Op) : Option (List D) := match getOb ρ μ o with
  | some (.lst xs) => some xs
  | _ => none
def mApp (rcv a : ME) : MS := fun ρ μ => (rcv ρ μ).bind fun o μ1 => match lstAt ρ μ1 o with
  | none => .stk
  | some _ => (toD a ρ μ1).bind fun d μ2 => match lstAt ρ μ2 o with
    | none => .stk
    | some xs => if xs.length < 16777216 then putRes ρ μ2 o (.lst (xs ++ [d])) else .stk
def mExt (rcv a : ME) : MS := fun ρ μ => (rcv ρ μ).bind fun o μ1 => match lstAt ρ μ1 o with
  | none => .stk
  | some _ => (toD a ρ μ1).bind fun d μ2 => match lstAt ρ μ2 o with
    | none => .stk
    | some xs => match d with
      | .lst ys => if xs.length + ys.length ≤ 16777216 then putRes ρ μ2 o (.lst (xs ++ ys)) else .stk
      | _ => .stk
section
variable {K : PySem.W.Frag} {cad : Str → Addr} {E : Ent} {W : WX} {F F' H H' H0 : Hp} {ι ι' : List Addr} {μ μ' : Store} {ρ : Ev} {σ : L2.St}
theorem lstAt_ob {o : Op} {xs : List D} (h : lstAt ρ μ o = some xs) : getOb ρ μ o = some (.lst xs) := by
  unfold lstAt at h
  split at h
  · next e => cases h; exact e
  · cases h
theorem lstAt_ty (r : R0 K cad E F ι μ ρ σ H) {o : Op} {v : V} {xs : List D} (q : OpV K cad ρ σ H0 F ι H o v) (e : lstAt ρ μ o = some xs) : tyV K "list" v H := by
  obtain ⟨a, ho, rfl, e1, ⟨vs, rfl, _⟩, _⟩ := put_ok r q (lstAt_ob e) rfl
  exact .inl ⟨rfl, vs, SqL.of e1⟩
/-- behind an expression: what a statement asks -/
theorem PostS.bind {α β : Type} {rl : Rl α β} {ro : Res α} {f : α → Store → Res (Fl × Ev)} {D : Ends} {Q : β → Hp → Prop} {F1 : Hp} {ι1 : List Addr} {H1 : Hp} (h : PostS K cad W E F ι (ro.bind f) D) (hx : Ext E.F E.ι E.H F1 ι1 H1)
    (k : ∀ a μ1 F2 ι2 H2 b, ro = .ok a μ1 → Ext F1 ι1 H1 F2 ι2 H2 → RS K cad F2 ι2 μ1 H2 → rl.r H1 F2 ι2 H2 a b → PostS K cad W E F ι (f a μ1) D → Q b H2) : Post K cad W rl F1 ι1 H1 σ ro Q := by
  cases ro with
  | stk => exact h
  | exc x μ1 => exact fun F' ι' H' d y s q => h F' ι' H' σ d (hx.trans y) s q
  | ok a μ1 => exact fun F' ι' H' b y s q => k a μ1 F' ι' H' b rfl y s q h
end
/-- the form of a method's call -/
structure MB (X : Cx) (o : Expr) (name : Str) (apos : Pos) (e : Expr) (es : List Expr) (cpos : Pos) : Prop where
  hbase : attributeBase o name X.env (eval o X.env) = eval o X.env
  hfew : ((backTo cpos (starEach (e :: es) X.env)).all (fun x => !x.1) && (backToKw cpos (keywordEach [] X.env)).all (fun x => x.1.isSome) && decide ((e :: es).length + ([] : List Keyword).length + (if ([] : List Keyword).isEmpty then 0 else 1) < 30)) = true
  hline : (apos.endLine == cpos.line) = true
  hs : starEach (e :: es) X.env = (false, eval e X.env) :: starEach es X.env
  hplain : (backTo cpos (starEach es X.env)).any (·.1) = false
section
variable {X : Cx} {cad : Str → Addr} {W : WX} {E : Ent} {pos apos : Pos} {o e : Expr} {mo me : ME}
theorem ds_app (ho : PE X o (tE X.K cad W mo)) (he : PE X e (tE X.K cad W me)) {p : Pos} (mb : MB X o "append" apos e [] p := by exact ⟨rfl, rfl, rfl, rfl, rfl⟩) (hs : swapsWith (.Call (.Attribute o "append" apos) [e] [] p) none pos.line X.env = pure false := by rfl) :
    PS X (.Expr (.Call (.Attribute o "append" apos) [e] [] p) pos) (tS X.K cad W E (mApp mo me)) := by
  refine ps_imp (ps_expr (pe_bm PySem.F.plainAttrs_list PySem.F.slot_list_append PySem.F.type_list_append mt_append ho (pa_cons (de_toD he) pa_nil mb.hs) mb.hbase mb.hfew mb.hline mb.hs mb.hplain) hs) fun D σ H ⟨F, ι, μ, ρ, r, h⟩ => ?_
  refine ⟨F, ι, μ, ρ, r.r, h.bind r.x fun oo μ1 F1 ι1 H1 v _ x1 s1 q1 h1 => ?_⟩
  have r1 := r.ext x1 s1
  cases c : lstAt ρ μ1 oo with
  | none => rw [c] at h1; exact h1.elim
  | some xs0 =>
    rw [c] at h1
    refine ⟨lstAt_ty r1 q1 c, F1, ι1, μ1, ρ, r1.r, h1.bind r1.x fun d μ2 F2 ι2 H2 v _ x2 s2 q2 h2 => ?_⟩
    have r2 := r1.ext x2 s2
    have q2 : VR X.K cad ι2 F2 d v := q2
    cases c2 : lstAt ρ μ2 oo with
    | none => rw [c2] at h2; exact h2.elim
    | some xs =>
      rw [c2] at h2
      by_cases hl : xs.length < 16777216
      · simp only [if_pos hl] at h2
        obtain ⟨a, ho, rfl, e1, ⟨us, rfl, ru⟩, k⟩ := put_ok r2 (OpV.mono (H1 := H1) x2 q1) (lstAt_ob c2) rfl 
        refine ⟨a, us, v, rfl, rfl, e1, ?_, ?_⟩
        · rw [← ru.len, sizeLine_eq]
          exact hl
        · exact h2 F2 ι2 σ _ (x1.f.trans x2.f) (x1.i.trans x2.i) (k (.lst (xs ++ [d])) _ ⟨_, rfl, ru.app (VRs.cons q2 VRs.nil)⟩)
      · simp only [if_neg hl] at h2
        exact h2.elim
theorem ds_ext (ho : PE X o (tE X.K cad W mo)) (he : PE X e (tE X.K cad W me)) {p : Pos} (mb : MB X o "extend" apos e [] p := by exact ⟨rfl, rfl, rfl, rfl, rfl⟩) (hs : swapsWith (.Call (.Attribute o "extend" apos) [e] [] p) none pos.line X.env = pure false := by rfl) :
    PS X (.Expr (.Call (.Attribute o "extend" apos) [e] [] p) pos) (tS X.K cad W E (mExt mo me)) := by
  refine ps_imp (ps_expr (pe_bm PySem.F.plainAttrs_list PySem.F.slot_list_extend PySem.F.type_list_extend mt_extend ho (pa_cons (de_toD he) pa_nil mb.hs) mb.hbase mb.hfew mb.hline mb.hs mb.hplain) hs) fun D σ H ⟨F, ι, μ, ρ, r, h⟩ => ?_
  refine ⟨F, ι, μ, ρ, r.r, h.bind r.x fun oo μ1 F1 ι1 H1 v _ x1 s1 q1 h1 => ?_⟩
  have r1 := r.ext x1 s1
  cases c : lstAt ρ μ1 oo with
  | none => rw [c] at h1; exact h1.elim
  | some xs0 =>
    rw [c] at h1
    refine ⟨lstAt_ty r1 q1 c, F1, ι1, μ1, ρ, r1.r, h1.bind r1.x fun d μ2 F2 ι2 H2 v _ x2 s2 q2 h2 => ?_⟩
    have r2 := r1.ext x2 s2
    have q2 : VR X.K cad ι2 F2 d v := q2
    cases c2 : lstAt ρ μ2 oo with
    | none => rw [c2] at h2; exact h2.elim
    | some xs =>
      rw [c2] at h2
      cases d with
      | lst ys =>
        by_cases hl : xs.length + ys.length ≤ 16777216
        · simp only [if_pos hl] at h2
          obtain ⟨a, ho, rfl, e1, ⟨us, rfl, ru⟩, k⟩ := put_ok r2 (OpV.mono (H1 := H1) x2 q1) (lstAt_ob c2) rfl
          obtain ⟨b, ws, rfl, e2, rw'⟩ := VR.lst_.mp q2
          refine ⟨a, b, us, ws, rfl, rfl, e1, s2.sub _ _ e2, ?_, ?_⟩
          · rw [← ru.len, ← rw'.len]
            exact line_eq.mpr hl
          · exact h2 F2 ι2 σ _ (x1.f.trans x2.f) (x1.i.trans x2.i) (k (.lst (xs ++ ys)) _ ⟨_, rfl, ru.app rw'⟩)
        · simp only [if_neg hl] at h2
          exact h2.elim
      | _ => exact h2.elim
end

/-! ### o[i] = v -/
def putD {κ : Type} [DecidableEq κ] (kvs : List (κ × D)) (k : κ) (v : D) : List (κ × D) :=
  if (kvs.any fun kv => decide (kv.1 = k)) = true then kvs.map (fun kv => if kv.1 = k then (kv.1, v) else kv) else kvs ++ [(k, v)]
def fSet : Ob → D → D → Option Ob
  | .lst xs, .int k, d => (ixN xs.length k).map fun j => .lst (xs.set j d)
  | .dK kvs, k, d => k.key.bind fun k => if kvs.length < 16777216 then some (.dK (putD kvs k d)) else none
  | .dT kvs, .tup ks, d => (D.keys ks).bind fun k => if kvs.length < 16777216 then some (.dT (putD kvs k d)) else none
  | _, _, _ => none
theorem fSet_unl {ob ob' : Ob} {k d : D} (h : fSet ob k d = some ob') : ob.unl = true := by
  cases ob with
  | lkK _ => cases h
  | lkT _ => cases h
  | dead => rfl
  | lst _ => rfl
  | dK _ => rfl
  | dT _ => rfl
  | ins _ _ => rfl
def mSetIt (v o i : ME) : MS := fun ρ μ => (toD v ρ μ).bind fun d μ1 => (o ρ μ1).bind fun oo μ2 => (toD i ρ μ2).bind fun k μ3 => match (getOb ρ μ3 oo).bind fun ob => fSet ob k d with
  | some ob' => putRes ρ μ3 oo ob'
  | none => .stk
section
variable {K : PySem.W.Frag} {cad : Str → Addr} {E : Ent} {W : WX} {F F' H H' H0 : Hp} {ι ι' : List Addr} {μ μ' : Store} {ρ : Ev} {σ : L2.St}
theorem zip_any {κ : Type} [DecidableEq κ] (k : κ) : ∀ {kvs : List (κ × D)} {vs : List V}, VRs K cad ι F (kvs.map (·.2)) vs → (((kvs.map (·.1)).zip vs).any fun kv => decide (kv.1 = k)) = kvs.any fun kv => decide (kv.1 = k)
  | [], _, h => by cases h; rfl
  | (k', d) :: kvs, _, h => by
    obtain ⟨v, vs, rfl, r, t⟩ := h
    rw [List.map_cons, List.zip_cons_cons, List.any_cons, List.any_cons, zip_any k t]
theorem zip_repl {κ : Type} [DecidableEq κ] (k : κ) {d : D} {v : V} (q : VR K cad ι F d v) : ∀ {kvs : List (κ × D)} {vs : List V}, VRs K cad ι F (kvs.map (·.2)) vs → ∃ us, ((kvs.map (·.1)).zip vs).map (fun kv => if kv.1 = k then (kv.1, v) else kv) = ((kvs.map fun kv => if kv.1 = k then (kv.1, d) else kv).map (·.1)).zip us ∧
    VRs K cad ι F ((kvs.map fun kv => if kv.1 = k then (kv.1, d) else kv).map (·.2)) us
  | [], _, h => ⟨[], by cases h; rfl, rfl⟩
  | (k', d') :: kvs, _, h => by
    obtain ⟨v', vs, rfl, r, t⟩ := h
    obtain ⟨us, e, z⟩ := zip_repl k q t
    by_cases c : k' = k
    · refine ⟨v :: us, ?_, ?_⟩
      · simp only [List.map_cons, List.zip_cons_cons, c, if_true, List.cons.injEq, true_and]
        exact e
      · simp only [List.map_cons, c, if_true]
        exact ⟨v, us, rfl, q, z⟩
    · refine ⟨v' :: us, ?_, ?_⟩
      · simp only [List.map_cons, List.zip_cons_cons, c, if_false, List.cons.injEq, true_and]
        exact e
      · simp only [List.map_cons, c, if_false]
        exact ⟨v', us, rfl, r, z⟩
theorem zip_put {κ : Type} [DecidableEq κ] (k : κ) {d : D} {v : V} (q : VR K cad ι F d v) {kvs : List (κ × D)} {vs : List V} (h : VRs K cad ι F (kvs.map (·.2)) vs) : ∃ us, putK ((kvs.map (·.1)).zip vs) k v = ((putD kvs k d).map (·.1)).zip us ∧ VRs K cad ι F ((putD kvs k d).map (·.2)) us := by
  unfold putK putD
  rw [zip_any k h]
  by_cases c : (kvs.any fun kv => decide (kv.1 = k)) = true
  · rw [if_pos c, if_pos c]
    exact zip_repl k q h
  · rw [if_neg c, if_neg c]
    refine ⟨vs ++ [v], ?_, ?_⟩
    · rw [List.map_append, List.zip_append (by have := h.len; rw [List.length_map] at this ⊢; exact this)]
      rfl
    · rw [List.map_append]
      exact h.app ⟨v, [], rfl, q, rfl⟩
theorem zip_len {κ : Type} {kvs : List (κ × D)} {vs : List V} (h : VRs K cad ι F (kvs.map (·.2)) vs) : ((kvs.map (·.1)).zip vs).length = kvs.length := by
  have := h.len
  rw [List.length_map] at this
  rw [List.length_zip, List.length_map, ← this, Nat.min_self]
def rSetD : V → V → V → Hp → (Hp → Prop) → Prop := fun o i v H Q => ∃ a H', o = .ref a ∧ DPut H a i v H' ∧ Q H'
def rSetA : V → V → V → Hp → (Hp → Prop) → Prop := fun o i v H Q => rSetL o i v H Q ∨ rSetD o i v H Q
theorem set_all {X : Cx} (hu : X.A.units + 100 < cLine) : PSet X rSetA := by
  intro pins s σ H o i v ov iv u Q I ro ri rv h
  rcases h with h | ⟨a, H', rfl, g, q⟩
  · exact set_list pins s σ H o i v ov iv u Q I ro ri rv h
  · cases ro
    exact d_setItem (by omega) I g ri rv fun s' I' => ⟨H', I', q⟩
/-- by values: the thing at a changes -/
theorem fSet_ok (rs : RS K cad F ι μ H) {ob ob' : Ob} {k d : D} {vk vd : V} {a : Addr} {ho : HO} (e : fSet ob k d = some ob') (h1 : H a = some ho) (z : OR K cad ι F ob ho) (qk : VR K cad ι F k vk) (qd : VR K cad ι F d vd) {Q : Hp → Prop} (kk : ∀ ho', OR K cad ι F ob' ho' → Q (upd H a ho')) : rSetA (.ref a) vk vd H Q := by
  cases ob with
  | lst xs =>
    cases k with
    | int i =>
      have e : (ixN xs.length i).map (fun j => Ob.lst (xs.set j d)) = some ob' := e
      obtain ⟨vs, rfl, r⟩ := z
      cases c : ixN xs.length i with
      | none => simp [c] at e
      | some j =>
        simp [c] at e
        subst e
        exact .inl ⟨a, vs, i, j, rfl, VR.int_.mp qk, h1, by rw [← r.len]; exact c, kk _ ⟨_, rfl, r.set j qd⟩⟩
    | _ => cases e
  | dK kvs =>
    have e : (k.key.bind fun k => if kvs.length < 16777216 then some (Ob.dK (putD kvs k d)) else none) = some ob' := by cases k <;> exact e
    obtain ⟨vs, rfl, r⟩ := z
    cases c : k.key with
    | none => simp [c] at e
    | some k1 =>
      simp only [c, Option.bind_some] at e
      by_cases hl : kvs.length < 16777216
      · rw [if_pos hl] at e
        cases e
        obtain ⟨us, e2, r2⟩ := zip_put k1 qd r
        refine .inr ⟨a, _, rfl, .inl ⟨_, k1, h1, key_VR qk c, by rw [zip_len r, sizeLine_eq]; exact hl, rfl⟩, ?_⟩
        rw [e2]
        exact kk _ ⟨us, rfl, r2⟩
      · rw [if_neg hl] at e
        cases e
  | dT kvs =>
    cases k with
    | tup ks =>
      have e : ((D.keys ks).bind fun k => if kvs.length < 16777216 then some (Ob.dT (putD kvs k d)) else none) = some ob' := e
      obtain ⟨vs, rfl, r⟩ := z
      cases c : D.keys ks with
      | none => simp [c] at e
      | some k1 =>
        simp only [c, Option.bind_some] at e
        by_cases hl : kvs.length < 16777216
        · rw [if_pos hl] at e
          cases e
          obtain ⟨us, e2, r2⟩ := zip_put k1 qd r
          obtain ⟨b, ws, rfl, e3, r3⟩ := VR.tup_.mp qk
          rw [keys_VRs r3 c] at e3
          refine .inr ⟨a, _, rfl, .inr ⟨_, k1, b, h1, rfl, rs.sub _ _ e3, by rw [zip_len r, sizeLine_eq]; exact hl, rfl⟩, ?_⟩
          rw [e2]
          exact kk _ ⟨us, rfl, r2⟩
        · rw [if_neg hl] at e
          cases e
    | _ => cases e
  | ins _ _ => cases e
  | lkK _ => cases e
  | lkT _ => cases e
  | dead => cases e
end
section
variable {X : Cx} {cad : Str → Addr} {W : WX} {E : Ent} {pos pos' : Pos} {v o i : Expr} {mv mo mi : ME}
theorem ds_setit (hu : X.A.units + 100 < cLine) (hv : PE X v (tE X.K cad W mv)) (ho : PE X o (tE X.K cad W mo)) (hi : PE X i (tE X.K cad W mi)) (hs : swapsWithSole [.Subscript o i pos'] v pos.line X.env = pure false := by rfl) (hw : swappedStores [.Subscript o i pos'] v X.env = pure none := by rfl)
    (h1 : (assignEach [.Subscript o i pos'] X.env).map (·.2) = [assign (.Subscript o i pos') X.env] := by rfl) (hg : ∀ u, assign (.Subscript o i pos') X.env u = (do
      let ov ← holding [u] (eval o X.env)
      let iv ← holding [u, ov] (eval i X.env)
      standAt pos'
      holding [u, ov, iv] (setItem ov iv u)
      release [u, ov, iv] []) := by intro _; rfl) :
    PS X (.Assign [.Subscript o i pos'] v pos) (tS X.K cad W E (mSetIt mv mo mi)) := by
  refine ps_imp (ps_asg (de_toD hv) (pg_sub ho (de_toD hi) (set_all hu) hg) hs hw h1) fun D σ H ⟨F, ι, μ, ρ, r, h⟩ => ?_
  refine ⟨F, ι, μ, ρ, r.r, h.bind r.x fun d μ1 F1 ι1 H1 vd _ x1 s1 q1 h1 => ?_⟩
  have r1 := r.ext x1 s1
  refine ⟨F1, ι1, μ1, ρ, r1.r, h1.bind r1.x fun oo μ2 F2 ι2 H2 vo _ x2 s2 q2 h2 => ?_⟩
  have r2 := r1.ext x2 s2
  refine ⟨F2, ι2, μ2, ρ, r2.r, h2.bind r2.x fun k μ3 F3 ι3 H3 vk _ x3 s3 q3 h3 => ?_⟩
  have r3 := r2.ext x3 s3
  have q1 : VR X.K cad ι3 F3 d vd := VR.mono (x2.f.trans x3.f) (x2.i.trans x3.i) _ _ q1
  have q3 : VR X.K cad ι3 F3 k vk := q3
  cases c : getOb ρ μ3 oo with
  | none => rw [c] at h3; exact h3.elim
  | some ob =>
    rw [c] at h3
    cases c2 : fSet ob k d with
    | none => simp only [Option.bind_some, c2] at h3; exact h3.elim
    | some ob' =>
      simp only [Option.bind_some, c2] at h3
      obtain ⟨a, ho, rfl, e1, z, kk⟩ := put_ok r3 (OpV.mono (H1 := H1) x3 q2) c (fSet_unl c2)
      exact fSet_ok s3 c2 e1 z q3 q1 fun ho' z' => h3 F3 ι3 σ _ (x1.f.trans (x2.f.trans x3.f)) (x1.i.trans (x2.i.trans x3.i)) (kk ob' ho' z')
end

/-! ### targets -/
def GOk (K : PySem.W.Frag) (cad : Str → Addr) (t : TG) (g : D → Ev → Option Ev) (ws : List Nat) : Prop := ∀ {F : Hp} {ι : List Addr} {μ : Store} {ρ ρ' : Ev} {σ : L2.St} {H : Hp} {d : D} {v : V} {Q : L2.St → Hp → Prop}, R K cad F ι μ ρ σ H → VR K cad ι F d v → g d ρ = some ρ' →
  (∀ σ', R K cad F ι μ ρ' σ' H → σ'.length = σ.length → (∀ j, j ∉ ws → σ'[j]? = σ[j]?) → (∀ (i : Nat) (o : Ob), ρ'[i]? = some (.own o) → ρ[i]? = some (.own o) ∧ σ'[i]? = σ[i]?) → Q σ' H) → t v σ H Q
def gN (i : Nat) : D → Ev → Option Ev := fun d ρ => some (ρ.set i (.sh d))
def setsE : List Nat → List D → Ev → Ev
  | i :: is, d :: ds, ρ => setsE is ds (ρ.set i (.sh d))
  | _, _, ρ => ρ
def gT (is : List Nat) : D → Ev → Option Ev := fun d ρ => match d with
  | .tup ds => if ds.length = is.length then some (setsE is ds ρ) else none
  | _ => none
def gNames : List Nat → TGs
  | [] => gNil
  | i :: is => gCons (gName i) (gNames is)
section
variable {K : PySem.W.Frag} {cad : Str → Addr}
/-- setting one name, over R alone -/
theorem R.set1 {F : Hp} {ι : List Addr} {μ : Store} {ρ : Ev} {σ : L2.St} {H : Hp} (r : R K cad F ι μ ρ σ H) {i : Nat} {d : D} {v : V} (q : VR K cad ι F d v) : R K cad F ι μ (ρ.set i (.sh d)) (σ.set i (some v)) H := by
  refine ⟨r.rs, by rw [List.length_set, List.length_set]; exact r.len, fun j d' e => ?_, fun j o e => ?_, fun j k o o' a e1 e2 e3 e4 => ?_⟩
  · rcases get_set e with ⟨rfl, e', hl⟩ | ⟨hj, e⟩
    · cases e'
      exact ⟨v, List.getElem?_set_self (by rw [r.len]; exact hl), q⟩
    · obtain ⟨v', e1, q'⟩ := r.sh j d' e
      exact ⟨v', by rw [List.getElem?_set_ne (fun z => hj z.symm)]; exact e1, q'⟩
  · rcases get_set e with ⟨_, e', _⟩ | ⟨hj, e⟩
    · cases e'
    · obtain ⟨a, ho, e1, z⟩ := r.own j o e
      exact ⟨a, ho, by rw [List.getElem?_set_ne (fun z => hj z.symm)]; exact e1, z⟩
  · rcases get_set e1 with ⟨_, e', _⟩ | ⟨hj, e1⟩
    · cases e'
    rcases get_set e2 with ⟨_, e', _⟩ | ⟨hk, e2⟩
    · cases e'
    rw [List.getElem?_set_ne (fun z => hj z.symm)] at e3
    rw [List.getElem?_set_ne (fun z => hk z.symm)] at e4
    exact r.dis j k o o' a e1 e2 e3 e4
theorem g_name (i : Nat) : GOk K cad (gName i) (gN i) [i] := by
  intro F ι μ ρ ρ' σ H d v Q r q e k
  cases e
  refine k _ (r.set1 q) (List.length_set ..) (fun j hj => List.getElem?_set_ne (fun z => hj (by simp [z]))) fun j o e => ?_
  rcases get_set e with ⟨_, e', _⟩ | ⟨hj, e⟩
  · cases e'
  · exact ⟨e, List.getElem?_set_ne (fun z => hj z.symm)⟩
theorem gs_names : ∀ (is : List Nat) {F : Hp} {ι : List Addr} {μ : Store} {ρ : Ev} {σ : L2.St} {H : Hp} {ds : List D} {vs : List V} {Q : L2.St → Hp → Prop}, R K cad F ι μ ρ σ H → VRs K cad ι F ds vs → ds.length = is.length →
    (∀ σ', R K cad F ι μ (setsE is ds ρ) σ' H → σ'.length = σ.length → (∀ j, j ∉ is → σ'[j]? = σ[j]?) → (∀ (i : Nat) (o : Ob), (setsE is ds ρ)[i]? = some (.own o) → ρ[i]? = some (.own o) ∧ σ'[i]? = σ[i]?) → Q σ' H) → gNames is vs σ H Q
  | [], F, ι, μ, ρ, σ, H, ds, vs, Q, r, q, hl, k => by
    have : ds = [] := List.eq_nil_of_length_eq_zero hl
    subst this
    exact ⟨VRs.of_nil q, k σ r rfl (fun _ _ => rfl) fun _ _ e => ⟨e, rfl⟩⟩
  | i :: is, F, ι, μ, ρ, σ, H, [], vs, Q, r, q, hl, k => by cases hl
  | i :: is, F, ι, μ, ρ, σ, H, d :: ds, vs, Q, r, q, hl, k => by
    obtain ⟨v, vs, rfl, q1, q2⟩ := q
    refine ⟨v, vs, rfl, ?_⟩
    refine gs_names is (r.set1 (i := i) q1) q2 (by simpa using hl) fun σ' r' h0 h1 h2 => k σ' r' (h0.trans (List.length_set ..)) (fun j hj => ?_) fun j o e => ?_
    · simp only [List.mem_cons, not_or] at hj
      rw [h1 j hj.2]
      exact List.getElem?_set_ne (fun z => hj.1 z.symm)
    · obtain ⟨e1, e2⟩ := h2 j o e
      rcases get_set e1 with ⟨_, e', _⟩ | ⟨hj, e1⟩
      · cases e'
      · exact ⟨e1, e2.trans (List.getElem?_set_ne (fun z => hj z.symm))⟩
theorem g_tup {n : Nat} (is : List Nat) (hn : is.length = n) : GOk K cad (gTup K n (gNames is)) (gT is) is := by
  intro F ι μ ρ ρ' σ H d v Q r q e k
  unfold gT at e
  split at e
  · next ds =>
    split at e
    · next hl =>
      cases e
      obtain ⟨a, vs, rfl, e1, rv⟩ := VR.tup_.mp q
      exact ⟨a, vs, rfl, SqT.sub r.rs e1, by rw [← rv.len, hl, hn], gs_names is r rv hl k⟩
    · cases e
  · cases e
theorem R0.of_g {E : Ent} {F : Hp} {ι : List Addr} {μ : Store} {ρ ρ' : Ev} {σ σ' : L2.St} {H : Hp} (r : R0 K cad E F ι μ ρ σ H) (r' : R K cad F ι μ ρ' σ' H) (h : ∀ (i : Nat) (o : Ob), ρ'[i]? = some (.own o) → ρ[i]? = some (.own o) ∧ σ'[i]? = σ[i]?) : R0 K cad E F ι μ ρ' σ' H :=
  ⟨r', r.x, fun i o a e1 e2 => by
    obtain ⟨e3, e4⟩ := h i o e1
    rw [e4] at e2
    exact r.fr i o a e3 e2⟩
end
end DL

namespace DL
open PySem PySem.Spec PyProof.Rows L2

/-! ### what is walked -/
structure ItR (K : PySem.W.Frag) (cad : Str → Addr) (F : Hp) (ι : List Addr) (J : It) (xs : List D) : Prop where
  go : ∀ {i : Nat} {F1 : Hp} {ι1 : List Addr} {μ1 : Store} {H1 : Hp}, Same F F1 → ι <+: ι1 → RS K cad F1 ι1 μ1 H1 → i < xs.length → J.go i H1
  yl : ∀ {i : Nat} {d : D} {F1 : Hp} {ι1 : List Addr} {μ1 : Store} {H1 : Hp} {x : V} {H2 : Hp}, Same F F1 → ι <+: ι1 → RS K cad F1 ι1 μ1 H1 → xs[i]? = some d → J.yld i H1 x H2 → ∃ F2, Ext F1 ι1 H1 F2 ι1 H2 ∧ RS K cad F2 ι1 μ1 H2 ∧ VR K cad ι1 F2 d x
  st : ∀ {i : Nat} {F1 : Hp} {ι1 : List Addr} {μ1 : Store} {H1 : Hp}, Same F F1 → ι <+: ι1 → RS K cad F1 ι1 μ1 H1 → xs.length ≤ i → J.stop i H1
abbrev MI := Ev → Store → Res (List D)
def rlI (K : PySem.W.Frag) (cad : Str → Addr) : Rl (List D) It := ⟨fun _ F ι _ xs J => ItR K cad F ι J xs, fun _ q => q⟩
def tI (K : PySem.W.Frag) (cad : Str → Addr) (W : WX) (m : MI) : TI := fun σ H Q => ∃ F ι μ ρ, R K cad F ι μ ρ σ H ∧ Post K cad W (rlI K cad) F ι H σ (m ρ μ) Q
theorem pi_imp {X : Cx} {tg e : Expr} {t t' : TI} (h : PI X tg e t) (k : ∀ σ H Q, t' σ H Q → t σ H Q) : PI X tg e t' := ⟨fun pins s σ H Q I q => h.run pins s σ H Q I (k σ H Q q)⟩
theorem pi_or {X : Cx} {tg e : Expr} {t t' : TI} (h : PI X tg e t) (h' : PI X tg e t') : PI X tg e (fun σ H Q => t σ H Q ∨ t' σ H Q) := ⟨fun pins s σ H Q I q => q.elim (h.run pins s σ H Q I) (h'.run pins s σ H Q I)⟩
def keyD : Key → D
  | .inl i => .int i
  | .inr s => .str s
def D.items : D → Option (List D)
  | .lst ds => some ds
  | .tup ds => some ds
  | .scr ns => some (ns.map .int)
  | .dK ks vs => if ks.length = vs.length then some (ks.map keyD) else none
  | .dT ks vs => if ks.length = vs.length then some (ks.map fun k => .tup (k.map keyD)) else none
  | _ => none
def iSeq (m : ME) : MI := fun ρ μ => (toD m ρ μ).bind fun d μ1 => Res.of d.items μ1
section
variable {K : PySem.W.Frag} {cad : Str → Addr} {F F' H H' : Hp} {ι ι' : List Addr} {μ : Store}
theorem VR.keyD {k : Key} : VR K cad ι F (keyD k) (kV k) := by
  cases k with
  | inl i => exact VR.int_.mpr rfl
  | inr s => exact VR.str_.mpr rfl
theorem VRs.keyD : ∀ {k : List Key}, VRs K cad ι F (k.map DL.keyD) (k.map kV)
  | [] => rfl
  | _ :: k => ⟨_, _, rfl, VR.keyD, VRs.keyD (k := k)⟩
theorem it_list {a : Addr} {vs : List V} {ds : List D} (e : F a = some (.lst vs)) (r : VRs K cad ι F ds vs) : ItR K cad F ι (Itl K a) ds := by
  refine ⟨fun {i F1 ι1 μ1 H1} hf hi rs hl => ?_, fun {i d F1 ι1 μ1 H1 x H2} hf hi rs ed y => ?_, fun {i F1 ι1 μ1 H1} hf hi rs hl => ?_⟩
  · obtain ⟨v, ev, _⟩ := r.get (List.getElem?_eq_getElem hl)
    exact ⟨vs, v, SqL.of (rs.sub _ _ (hf _ _ e)), ev⟩
  · obtain ⟨rfl, y⟩ := y
    obtain ⟨v, ev, q⟩ := r.get ed
    have := y vs (SqL.of (rs.sub _ _ (hf _ _ e)))
    rw [ev] at this
    cases this
    exact ⟨F1, Ext.refl _ _ _, rs, VR.mono hf hi _ _ q⟩
  · exact ⟨vs, SqL.of (rs.sub _ _ (hf _ _ e)), by rw [← r.len]; exact hl⟩
theorem it_tup {a : Addr} {vs : List V} {ds : List D} (e : F a = some (.tup vs)) (r : VRs K cad ι F ds vs) : ItR K cad F ι (Itt K a) ds := by
  refine ⟨fun {i F1 ι1 μ1 H1} hf hi rs hl => ?_, fun {i d F1 ι1 μ1 H1 x H2} hf hi rs ed y => ?_, fun {i F1 ι1 μ1 H1} hf hi rs hl => ?_⟩
  · obtain ⟨v, ev, _⟩ := r.get (List.getElem?_eq_getElem hl)
    exact ⟨vs, v, SqT.of (rs.sub _ _ (hf _ _ e)), ev⟩
  · obtain ⟨rfl, y⟩ := y
    obtain ⟨v, ev, q⟩ := r.get ed
    have := y vs (SqT.of (rs.sub _ _ (hf _ _ e)))
    rw [ev] at this
    cases this
    exact ⟨F1, Ext.refl _ _ _, rs, VR.mono hf hi _ _ q⟩
  · exact ⟨vs, SqT.of (rs.sub _ _ (hf _ _ e)), by rw [← r.len]; exact hl⟩
theorem it_scr {a : Addr} {ns : List Int} (e : SqL K F a (ns.map V.int)) : ItR K cad F ι (Itl K a) (ns.map .int) := by
  refine ⟨fun {i F1 ι1 μ1 H1} hf hi rs hl => ?_, fun {i d F1 ι1 μ1 H1 x H2} hf hi rs ed y => ?_, fun {i F1 ι1 μ1 H1} hf hi rs hl => ?_⟩
  · rw [List.length_map] at hl
    exact ⟨_, .int ns[i], rs.sub.seq (hf.seq e), by rw [List.getElem?_map, List.getElem?_eq_getElem hl]; rfl⟩
  · obtain ⟨rfl, y⟩ := y
    have := y _ (rs.sub.seq (hf.seq e))
    rw [List.getElem?_map] at ed this
    cases c : ns[i]? with
    | none => rw [c] at ed; cases ed
    | some n =>
      rw [c] at ed this
      cases ed
      cases this
      exact ⟨F1, Ext.refl _ _ _, rs, VR.int_.mpr rfl⟩
  · rw [List.length_map] at hl
    exact ⟨_, rs.sub.seq (hf.seq e), by rw [List.length_map]; exact hl⟩
/-- a tuple that is tracked may be known to F -/
theorem know_tup (rs : RS K cad F ι μ H) {q : Addr} {vs : List V} (e : H q = some (.tup vs)) : ∃ F2, Ext F ι H F2 ι H ∧ RS K cad F2 ι μ H ∧ F2 q = some (.tup vs) ∧ Same F F2 := by
  cases c : F q with
  | some o =>
    have := rs.sub _ _ c
    rw [e] at this
    cases this
    exact ⟨F, Ext.refl _ _ _, rs, c, Same.refl _⟩
  | none =>
    have hi : q ∉ ι := fun h => by
      obtain ⟨n, hn, e1⟩ := List.getElem_of_mem h
      have hm : n < μ.length := by rw [← rs.len]; exact hn
      obtain ⟨ho, e2, z⟩ := rs.obj n μ[n] q (List.getElem?_eq_getElem hm) (by rw [List.getElem?_eq_getElem hn, e1])
      rw [e] at e2
      cases e2
      exact z.notup
    refine ⟨upd F q (.tup vs), ⟨same_new c, List.prefix_rfl, fun _ _ _ h => h, fun _ h => h, fun a h1 h2 => ?_, fun a h1 h2 => absurd h1 h2, fun _ _ _ h => h⟩, rs.freeze e hi c, upd_same, same_new c⟩
    by_cases hq : a = q
    · rw [hq]
      exact ⟨hi, .inr ⟨vs, e⟩⟩
    · rw [upd_ne hq] at h2
      exact absurd h1 h2
theorem it_dK {a : Addr} {o : Obj} {ks : List Key} {vs : List V} (e : F a = some (.frz o (.dK (ks.zip vs)))) (hl : ks.length = vs.length) : ItR K cad F ι (Itk a o (ks.zip vs)) (ks.map keyD) := by
  have zl : (ks.zip vs).length = ks.length := by rw [List.length_zip, ← hl, Nat.min_self]
  refine ⟨fun {i F1 ι1 μ1 H1} hf hi rs h => ?_, fun {i d F1 ι1 μ1 H1 x H2} hf hi rs ed y => ?_, fun {i F1 ι1 μ1 H1} hf hi rs h => ?_⟩
  · rw [List.length_map] at h
    exact ⟨rs.sub _ _ (hf _ _ e), by rw [zl]; exact h⟩
  · obtain ⟨rfl, k, v, e1, rfl⟩ := y
    have e2 : ks[i]? = some k := by
      have := congrArg (Option.map Prod.fst) e1
      rw [← List.getElem?_map, List.map_fst_zip (by omega)] at this
      exact this
    rw [List.getElem?_map, e2] at ed
    cases ed
    exact ⟨F1, Ext.refl _ _ _, rs, VR.keyD⟩
  · rw [List.length_map] at h
    exact ⟨rs.sub _ _ (hf _ _ e), by rw [zl]; exact h⟩
theorem it_dT {a : Addr} {o : Obj} {ks : List (List Key)} {vs : List V} (e : F a = some (.frz o (.dT (ks.zip vs)))) (hl : ks.length = vs.length) : ItR K cad F ι (Itkt a o (ks.zip vs)) (ks.map fun k => .tup (k.map keyD)) := by
  have zl : (ks.zip vs).length = ks.length := by rw [List.length_zip, ← hl, Nat.min_self]
  refine ⟨fun {i F1 ι1 μ1 H1} hf hi rs h => ?_, fun {i d F1 ι1 μ1 H1 x H2} hf hi rs ed y => ?_, fun {i F1 ι1 μ1 H1} hf hi rs h => ?_⟩
  · rw [List.length_map] at h
    exact ⟨rs.sub _ _ (hf _ _ e), by rw [zl]; exact h⟩
  · obtain ⟨rfl, k, v, q, e1, rfl, eq⟩ := y
    have e2 : ks[i]? = some k := by
      have := congrArg (Option.map Prod.fst) e1
      rw [← List.getElem?_map, List.map_fst_zip (by omega)] at this
      exact this
    rw [List.getElem?_map, e2] at ed
    cases ed
    obtain ⟨F2, x2, r2, e3, _⟩ := know_tup rs eq
    exact ⟨F2, x2, r2, VR.tup_.mpr ⟨q, _, rfl, e3, VRs.keyD⟩⟩
  · rw [List.length_map] at h
    exact ⟨rs.sub _ _ (hf _ _ e), by rw [zl]; exact h⟩
theorem it_range {lo : Int} {n : Nat} : ItR K cad F ι (Itr lo n) ((List.range n).map fun i : Nat => .int (lo + i)) := by
  refine ⟨fun {i F1 ι1 μ1 H1} hf hi rs h => ?_, fun {i d F1 ι1 μ1 H1 x H2} hf hi rs ed y => ?_, fun {i F1 ι1 μ1 H1} hf hi rs h => ?_⟩
  · rw [List.length_map, List.length_range] at h
    exact h
  · obtain ⟨rfl, rfl⟩ := y
    rw [List.getElem?_map] at ed
    cases c : (List.range n)[i]? with
    | none => rw [c] at ed; cases ed
    | some j =>
      rw [c] at ed
      cases ed
      have : j = i := by
        have h1 := (List.getElem?_eq_some_iff.mp c).1
        rw [List.getElem?_eq_getElem h1, List.getElem_range] at c
        exact (Option.some.inj c).symm
      subst this
      exact ⟨F1, Ext.refl _ _ _, rs, VR.int_.mpr rfl⟩
  · rw [List.length_map, List.length_range] at h
    exact h
/-- enumerate -/
def enumD (ds : List D) : List D := ds.zipIdx.map fun p => .tup [.int (p.2 : Nat), p.1]
theorem it_enum {a : Addr} {vs : List V} {ds : List D} (e : F a = some (.lst vs)) (r : VRs K cad ι F ds vs) : ItR K cad F ι (Ite K a) (enumD ds) := by
  have ln : (enumD ds).length = ds.length := by unfold enumD; rw [List.length_map, List.length_zipIdx]
  refine ⟨fun {i F1 ι1 μ1 H1} hf hi rs hl => ?_, fun {i d F1 ι1 μ1 H1 x H2} hf hi rs ed y => ?_, fun {i F1 ι1 μ1 H1} hf hi rs hl => ?_⟩
  · rw [ln] at hl
    obtain ⟨v, ev, _⟩ := r.get (List.getElem?_eq_getElem hl)
    exact ⟨vs, v, SqL.of (rs.sub _ _ (hf _ _ e)), ev⟩
  · obtain ⟨T, x1, rfl, nT, rfl, y⟩ := y
    have hx := y vs (SqL.of (rs.sub _ _ (hf _ _ e)))
    obtain ⟨d1, e1, q1⟩ := r.got hx
    have ed : ((ds.zipIdx.map fun p => DL.D.tup [.int (p.2 : Nat), p.1]))[i]? = some d := ed
    rw [List.getElem?_map, List.getElem?_zipIdx, e1] at ed
    simp at ed
    subst ed
    refine ⟨_, Ext.newF rs nT, rs.newF nT, VR.tup_.mpr ⟨T, _, rfl, upd_same, ?_⟩⟩
    exact VRs.cons (VR.int_.mpr rfl) (VRs.cons (VR.mono (same_new (rs.fresh nT).1) List.prefix_rfl _ _ (VR.mono hf hi _ _ q1)) VRs.nil)
  · rw [ln] at hl
    exact ⟨vs, SqL.of (rs.sub _ _ (hf _ _ e)), by rw [← r.len]; exact hl⟩
theorem it_rev {a : Addr} {vs : List V} {ds : List D} (e : F a = some (.lst vs)) (r : VRs K cad ι F ds vs) : ItR K cad F ι (Itv K a vs.length) ds.reverse := by
  have ln := r.len
  refine ⟨fun {i F1 ι1 μ1 H1} hf hi rs hl => ?_, fun {i d F1 ι1 μ1 H1 x H2} hf hi rs ed y => ?_, fun {i F1 ι1 μ1 H1} hf hi rs hl => ?_⟩
  · rw [List.length_reverse, ln] at hl
    have : vs.length - 1 - i < vs.length := by omega
    exact ⟨hl, vs, vs[vs.length - 1 - i], SqL.of (rs.sub _ _ (hf _ _ e)), List.getElem?_eq_getElem this⟩
  · obtain ⟨rfl, y⟩ := y
    have hx := y vs (SqL.of (rs.sub _ _ (hf _ _ e)))
    obtain ⟨d1, e1, q1⟩ := r.got hx
    have hl : i < ds.length := by
      have := (List.getElem?_eq_some_iff.mp ed).1
      rwa [List.length_reverse] at this
    rw [List.getElem?_reverse hl, ln, e1] at ed
    cases ed
    exact ⟨F1, Ext.refl _ _ _, rs, VR.mono hf hi _ _ q1⟩
  · rw [List.length_reverse, ln] at hl
    exact hl
end
section
variable {X : Cx} {cad : Str → Addr} {W : WX} {pos p tpos : Pos} {e tg : Expr} {me : ME}
theorem di_seq (he : PE X e (tE X.K cad W me)) : PI X tg e (tI X.K cad W (iSeq me)) := by
  refine pi_imp (pi_or (pi_list (de_toD he)) (pi_or (pi_tup (de_toD he)) (pi_keys (de_toD he)))) fun σ H Q ⟨F, ι, μ, ρ, r, q⟩ => ?_
  unfold iSeq at q
  cases c : toD me ρ μ with
  | stk => rw [c] at q; exact q.elim
  | exc x μ1 => rw [c] at q; exact .inl ⟨F, ι, μ, ρ, r, by rw [c]; exact q⟩
  | ok d μ1 =>
    rw [c] at q
    obtain ⟨xs, ei, k⟩ := Post.of q
    cases d with
    | lst ds =>
      cases ei
      refine .inl ⟨F, ι, μ, ρ, r, ?_⟩
      rw [c]
      intro F1 ι1 H1 v x1 s1 q1
      obtain ⟨a, vs, rfl, e1, rv⟩ := VR.lst_.mp (show VR X.K cad ι1 F1 (.lst xs) v from q1)
      exact ⟨a, rfl, ⟨vs, SqL.of (s1.sub _ _ e1)⟩, k F1 ι1 H1 _ x1 s1 (it_list e1 rv)⟩
    | scr ns =>
      cases ei
      refine .inl ⟨F, ι, μ, ρ, r, ?_⟩
      rw [c]
      intro F1 ι1 H1 v x1 s1 q1
      obtain ⟨a, rfl, e1⟩ := VR.scr_.mp (show VR X.K cad ι1 F1 (.scr ns) v from q1)
      exact ⟨a, rfl, ⟨_, s1.sub.seq e1⟩, k F1 ι1 H1 _ x1 s1 (it_scr e1)⟩
    | tup ds =>
      cases ei
      refine .inr (.inl ⟨F, ι, μ, ρ, r, ?_⟩)
      rw [c]
      intro F1 ι1 H1 v x1 s1 q1
      obtain ⟨a, vs, rfl, e1, rv⟩ := VR.tup_.mp (show VR X.K cad ι1 F1 (.tup xs) v from q1)
      exact ⟨a, rfl, ⟨vs, SqT.of (s1.sub _ _ e1)⟩, k F1 ι1 H1 _ x1 s1 (it_tup e1 rv)⟩
    | dK ks ds =>
      have ei : (if ks.length = ds.length then some (ks.map keyD) else none) = some xs := ei
      by_cases hl : ks.length = ds.length
      · rw [if_pos hl] at ei
        cases ei
        refine .inr (.inr ⟨F, ι, μ, ρ, r, ?_⟩)
        rw [c]
        intro F1 ι1 H1 v x1 s1 q1
        have q1 : VR X.K cad ι1 F1 (.dK ks ds) v := q1
        unfold VR at q1
        obtain ⟨a, o, vs, rfl, e1, l, rv⟩ := q1
        exact ⟨a, o, rfl, .inl ⟨_, s1.sub _ _ e1, k F1 ι1 H1 _ x1 s1 (it_dK e1 l)⟩⟩
      · rw [if_neg hl] at ei
        cases ei
    | dT ks ds =>
      have ei : (if ks.length = ds.length then some (ks.map fun k => .tup (k.map keyD)) else none) = some xs := ei
      by_cases hl : ks.length = ds.length
      · rw [if_pos hl] at ei
        cases ei
        refine .inr (.inr ⟨F, ι, μ, ρ, r, ?_⟩)
        rw [c]
        intro F1 ι1 H1 v x1 s1 q1
        have q1 : VR X.K cad ι1 F1 (.dT ks ds) v := q1
        unfold VR at q1
        obtain ⟨a, o, vs, rfl, e1, l, rv⟩ := q1
        exact ⟨a, o, rfl, .inr ⟨_, s1.sub _ _ e1, k F1 ι1 H1 _ x1 s1 (it_dT e1 l)⟩⟩
      · rw [if_neg hl] at ei
        cases ei
    | _ => cases ei
/-- range(n), range(a, b) -/
def rangeD (lo hi : Int) : Option (List D) := if -4611686018427387904 ≤ lo ∧ lo < 4611686018427387904 ∧ -4611686018427387904 ≤ hi ∧ hi < 4611686018427387904 then some ((List.range (hi - lo).toNat).map fun i : Nat => .int (lo + i)) else none
def iRange1 (m : ME) : MI := fun ρ μ => (toD m ρ μ).bind fun d μ1 => match d with
  | .int n => Res.of (rangeD 0 n) μ1
  | _ => .stk
def iRange2 (a b : ME) : MI := fun ρ μ => (toD a ρ μ).bind fun d μ1 => (toD b ρ μ1).bind fun d' μ2 => match d, d' with
  | .int i, .int j => Res.of (rangeD i j) μ2
  | _, _ => .stk
theorem di_range1 (hg : Gl X "range") (hm : X.mg "range" = none) (he : PE X e (tE X.K cad W me)) (hs : starEach [e] X.env = [(false, eval e X.env)] := by rfl) : PI X tg (.Call (.Name "range" p) [e] [] pos) (tI X.K cad W (iRange1 me)) := by
  refine pi_imp (pi_range1 hg hm (pa_cons (de_toD he) pa_nil (by rw [hs]; rfl)) hs) fun σ H Q ⟨F, ι, μ, ρ, r, q⟩ => ?_
  refine ⟨F, ι, μ, ρ, r, q.bind fun d μ1 F1 ι1 H1 v x1 s1 q1 h1 => ?_⟩
  cases d with
  | int n =>
    obtain ⟨xs, ei, k⟩ := Post.of h1
    unfold rangeD at ei
    split at ei
    · next hb =>
      cases ei
      refine ⟨n, by rw [VR.int_.mp (show VR X.K cad ι1 F1 (.int n) v from q1)], by omega, by omega, ?_⟩
      have := k F1 ι1 H1 _ (Ext.refl _ _ _) s1 (it_range (K := X.K) (cad := cad) (F := F1) (ι := ι1) (lo := 0) (n := (n - 0).toNat))
      rwa [Int.sub_zero] at this
    · cases ei
  | _ => exact h1.elim
theorem di_range2 {e2 : Expr} {m2 : ME} (hg : Gl X "range") (hm : X.mg "range" = none) (he : PE X e (tE X.K cad W me)) (he2 : PE X e2 (tE X.K cad W m2)) (hs : starEach [e, e2] X.env = [(false, eval e X.env), (false, eval e2 X.env)] := by rfl) (hs2 : starEach [e2] X.env = [(false, eval e2 X.env)] := by rfl) :
    PI X tg (.Call (.Name "range" p) [e, e2] [] pos) (tI X.K cad W (iRange2 me m2)) := by
  refine pi_imp (pi_range2 hg hm (pa_cons (de_toD he) (pa_cons (de_toD he2) pa_nil (by rw [hs2]; rfl)) (by rw [hs, hs2])) hs hs2) fun σ H Q ⟨F, ι, μ, ρ, r, q⟩ => ?_
  refine ⟨F, ι, μ, ρ, r, q.bind fun d μ1 F1 ι1 H1 v x1 s1 q1 h1 => ?_⟩
  refine ⟨F1, ι1, μ1, ρ, r.ext x1 s1, h1.bind fun d2 μ2 F2 ι2 H2 v2 x2 s2 q2 h2 => ?_⟩
  cases d with
  | int n =>
    cases d2 with
    | int m =>
      obtain ⟨xs, ei, k⟩ := Post.of h2
      unfold rangeD at ei
      split at ei
      · next hb =>
        cases ei
        refine ⟨n, m, by rw [VR.int_.mp (show VR X.K cad ι1 F1 (.int n) v from q1), VR.int_.mp (show VR X.K cad ι2 F2 (.int m) v2 from q2)], ⟨by omega, by omega, by omega, by omega⟩, ?_⟩
        exact k F2 ι2 H2 _ (Ext.refl _ _ _) s2 it_range
      · cases ei
    | _ => exact h2.elim
  | _ => exact h2.elim
def iEnumD (m : ME) : MI := fun ρ μ => (toD m ρ μ).bind fun d μ1 => match d with
  | .lst ds => .ok (enumD ds) μ1
  | _ => .stk
def iRevD (m : ME) : MI := fun ρ μ => (toD m ρ μ).bind fun d μ1 => match d with
  | .lst ds => .ok ds.reverse μ1
  | _ => .stk
theorem di_enum {elts : List Expr} {kk : Nat} (hg : Gl X "enumerate") (hm : X.mg "enumerate" = none) (he : PE X e (tE X.K cad W me)) (hs : starEach [e] X.env = [(false, eval e X.env)] := by rfl) : PI X (.Tuple elts kk tpos) (.Call (.Name "enumerate" p) [e] [] pos) (tI X.K cad W (iEnumD me)) := by
  refine pi_imp (pi_enum hg hm (pa_cons (de_toD he) pa_nil (by rw [hs]; rfl)) hs) fun σ H Q ⟨F, ι, μ, ρ, r, q⟩ => ?_
  refine ⟨F, ι, μ, ρ, r, q.bind fun d μ1 F1 ι1 H1 v x1 s1 q1 h1 => ?_⟩
  cases d with
  | lst ds =>
    obtain ⟨a, vs, rfl, e1, rv⟩ := VR.lst_.mp (show VR X.K cad ι1 F1 (.lst ds) v from q1)
    exact ⟨a, vs, rfl, SqL.of (s1.sub _ _ e1), h1 F1 ι1 H1 _ (Ext.refl _ _ _) s1 (it_enum e1 rv)⟩
  | _ => exact h1.elim
theorem di_rev (hg : Gl X "reversed") (hm : X.mg "reversed" = none) (he : PE X e (tE X.K cad W me)) (hs : starEach [e] X.env = [(false, eval e X.env)] := by rfl) : PI X tg (.Call (.Name "reversed" p) [e] [] pos) (tI X.K cad W (iRevD me)) := by
  refine pi_imp (pi_reversed hg hm (pa_cons (de_toD he) pa_nil (by rw [hs]; rfl)) hs) fun σ H Q ⟨F, ι, μ, ρ, r, q⟩ => ?_
  refine ⟨F, ι, μ, ρ, r, q.bind fun d μ1 F1 ι1 H1 v x1 s1 q1 h1 => ?_⟩
  cases d with
  | lst ds =>
    obtain ⟨a, vs, rfl, e1, rv⟩ := VR.lst_.mp (show VR X.K cad ι1 F1 (.lst ds) v from q1)
    exact ⟨a, vs, rfl, SqL.of (s1.sub _ _ e1), h1 F1 ι1 H1 _ (Ext.refl _ _ _) s1 (it_rev e1 rv)⟩
  | _ => exact h1.elim
end
end DL

namespace DL
open PySem PySem.Spec PyProof.Rows L2

/-! ### for -/
def loopR (r : Res (Fl × Ev)) (k : MS) : Res (Fl × Ev) := match r with
  | .ok (.nx, ρ2) μ2 => k ρ2 μ2
  | .ok (.ct, ρ2) μ2 => k ρ2 μ2
  | .ok (.bk, ρ2) μ2 => .ok (.nx, ρ2) μ2
  | r => r
def forL (g : D → Ev → Option Ev) (b : MS) : List D → MS
  | [], ρ, μ => .ok (.nx, ρ) μ
  | x :: xs, ρ, μ => match g x ρ with
    | none => .stk
    | some ρ1 => loopR (b ρ1 μ) (forL g b xs)
def mFor (i : MI) (g : D → Ev → Option Ev) (b : MS) : MS := fun ρ μ => (i ρ μ).bind fun xs μ1 => forL g b xs ρ μ1
/-- no wish at all -/
abbrev WT : WX := fun _ _ _ _ => True
section
variable {X : Cx} {cad : Str → Addr} {W : WX} {E : Ent} {pos : Pos} {tg iter : Expr} {body : List Stmt} {mi : MI} {t : TG} {g : D → Ev → Option Ev} {b : MS} {ws : List Nat}
theorem ds_for (hp : PassesOwn (model X.prog X.w) X.A X.env X.xe) (hc : X.calm = true) (hi : PI X tg iter (tI X.K cad W mi)) (hg : PG X tg t) (gk : GOk X.K cad t g ws) (hb : PSs X body (tS X.K cad W E b)) (hs : ∀ x, foldedSetIterable iter X.env x = pure x := by intro _; rfl) :
    PS X (.For tg iter body [] pos) (tS X.K cad W E (mFor mi g b)) := by
  refine ps_imp (ps_for hp hc hi hg hb hs) fun D σ H ⟨F, ι, μ, ρ, r, h⟩ => ?_
  refine ⟨F, ι, μ, ρ, r.r, h.bind r.x fun xs μ1 F1 ι1 H1 J _ x1 s1 q1 h1 => ?_⟩
  have q1 : ItR X.K cad F1 ι1 J xs := q1
  have h1 : PostS X.K cad W E F1 ι1 (forL g b xs ρ μ1) D := PostS.ext x1.f x1.i h1
  let P : Nat → L2.St → Hp → Prop := fun i σ H => ∃ F2 ι2 μ2 ρ2, Same F1 F2 ∧ ι1 <+: ι2 ∧ R0 X.K cad E F2 ι2 μ2 ρ2 σ H ∧ PostS X.K cad W E F1 ι1 (forL g b (xs.drop i) ρ2 μ2) D
  refine ⟨fun i m σ H => i ≤ xs.length ∧ m = xs.length - i ∧ P i σ H, ⟨xs.length, Nat.zero_le _, rfl, F1, ι1, μ1, ρ, Same.refl _, List.prefix_rfl, r.ext x1 s1, h1⟩, ?_⟩
  rintro i m σ2 H2 ⟨hl, rfl, F2, ι2, μ2, ρ2, hf, hi2, r2, h2⟩
  by_cases hlt : i < xs.length
  · refine .inr ⟨q1.go hf hi2 r2.r.rs hlt, P (i + 1), fun σ' H' p => ⟨xs.length - (i + 1), by omega, hlt, rfl, p⟩, fun x H3 y => ?_⟩
    obtain ⟨F3, x3, s3, v3⟩ := q1.yl hf hi2 r2.r.rs (List.getElem?_eq_getElem hlt) y
    have r3 := r2.ext x3 s3
    have ed : xs.drop i = xs[i] :: xs.drop (i + 1) := List.drop_eq_getElem_cons hlt
    rw [ed] at h2
    unfold forL at h2
    unfold loopR at h2
    cases cg : g xs[i] ρ2 with
    | none => rw [cg] at h2; exact h2.elim
    | some ρ4 =>
      rw [cg] at h2
      dsimp only at h2
      refine gk r3.r v3 cg fun σ4 r4 _ _ h4 => ?_
      have r4 := r3.of_g r4 h4
      refine ⟨F3, ι2, μ2, ρ4, r4, ?_⟩
      have hf3 : Same F1 F3 := hf.trans x3.f
      have hi3 : ι1 <+: ι2 := hi2
      cases cb : b ρ4 μ2 with
      | stk => rw [cb] at h2; exact h2
      | exc x μ5 => rw [cb] at h2; exact h2
      | ok p μ5 =>
        rw [cb] at h2
        obtain ⟨f, ρ5⟩ := p
        cases f with
        | nx => exact fun F5 ι5 σ5 H5 a5 b5 r5 => ⟨F5, ι5, μ5, ρ5, hf3.trans a5, hi3.trans b5, r5, h2⟩
        | ct => exact fun F5 ι5 σ5 H5 a5 b5 r5 => ⟨F5, ι5, μ5, ρ5, hf3.trans a5, hi3.trans b5, r5, h2⟩
        | bk => exact fun F5 ι5 σ5 H5 a5 b5 r5 => h2 F5 ι5 σ5 H5 (hf3.trans a5) (hi3.trans b5) r5
        | rt rv => exact h2
  · have e : i = xs.length := by omega
    subst e
    rw [List.drop_length] at h2
    exact .inl ⟨q1.st hf hi2 r2.r.rs (Nat.le_refl _), h2 F2 ι2 σ2 H2 hf hi2 r2⟩
end

/-! ### while -/
def whileL (c : MT) (b : MS) : Nat → MS
  | 0, _, _ => .stk
  | n + 1, ρ, μ => (c ρ μ).bind fun k μ1 => if k = true then loopR (b ρ μ1) (whileL c b n) else .ok (.nx, ρ) μ1
section
variable {X : Cx} {cad : Str → Addr} {W : WX} {E : Ent} {pos : Pos} {c : Expr} {body : List Stmt} {mc : MT} {b : MS} {n : Nat}
theorem ds_while (hp : PassesOwn (model X.prog X.w) X.A X.env X.xe) (hc : PT X c (tT X.K cad W mc)) (hb : PSs X body (tS X.K cad W E b)) : PS X (.While c body [] pos) (tS X.K cad W E (whileL mc b n)) := by
  refine ps_imp (ps_while hp hc hb) fun D σ H ⟨F, ι, μ, ρ, r, h⟩ => ?_
  refine ⟨fun m σ H => ∃ F2 ι2 μ2 ρ2, Same F F2 ∧ ι <+: ι2 ∧ R0 X.K cad E F2 ι2 μ2 ρ2 σ H ∧ PostS X.K cad W E F ι (whileL mc b m ρ2 μ2) D, ⟨n, F, ι, μ, ρ, Same.refl _, List.prefix_rfl, r, h⟩, ?_⟩
  rintro m σ2 H2 ⟨F2, ι2, μ2, ρ2, hf, hi, r2, h2⟩
  cases m with
  | zero => exact h2.elim
  | succ m =>
    unfold whileL at h2
    unfold loopR at h2
    refine ⟨F2, ι2, μ2, ρ2, r2.r, h2.bind r2.x fun k μ3 F3 ι3 H3 k' _ x3 s3 q3 h3 => ?_⟩
    have q3 : k = k' := q3
    subst q3
    have r3 := r2.ext x3 s3
    have hf3 : Same F F3 := hf.trans x3.f
    have hi3 : ι <+: ι3 := hi.trans x3.i
    cases k with
    | false =>
      rw [if_neg Bool.false_ne_true] at h3 ⊢
      exact h3 F3 ι3 σ2 H3 hf3 hi3 r3
    | true =>
      rw [if_pos rfl] at h3 ⊢
      refine ⟨fun σ' H' => ∃ F2 ι2 μ2 ρ2, Same F F2 ∧ ι <+: ι2 ∧ R0 X.K cad E F2 ι2 μ2 ρ2 σ' H' ∧ PostS X.K cad W E F ι (whileL mc b m ρ2 μ2) D, fun σ' H' p => ⟨m, Nat.lt_succ_self _, p⟩, F3, ι3, μ3, ρ2, r3, ?_⟩
      cases cb : b ρ2 μ3 with
      | stk => rw [cb] at h3; exact h3
      | exc x μ5 => rw [cb] at h3; exact h3
      | ok p μ5 =>
        rw [cb] at h3
        obtain ⟨f, ρ5⟩ := p
        cases f with
        | nx => exact fun F5 ι5 σ5 H5 a5 b5 r5 => ⟨F5, ι5, μ5, ρ5, hf3.trans a5, hi3.trans b5, r5, h3⟩
        | ct => exact fun F5 ι5 σ5 H5 a5 b5 r5 => ⟨F5, ι5, μ5, ρ5, hf3.trans a5, hi3.trans b5, r5, h3⟩
        | bk => exact fun F5 ι5 σ5 H5 a5 b5 r5 => h3 F5 ι5 σ5 H5 (hf3.trans a5) (hi3.trans b5) r5
        | rt rv => exact h3
end

/-! ### comprehensions -/
def wipeE (ρ : Ev) : List Nat → Ev
  | [] => ρ
  | v :: vs => (wipeE ρ vs).set v .no
def lcL (g : D → Ev → Option Ev) (t : MT) (e : ME) (ρ : Ev) : List D → Store → List D → Res (List D)
  | [], μ, acc => .ok acc μ
  | x :: xs, μ, acc => match g x ρ with
    | none => .stk
    | some ρ1 => (t ρ1 μ).bind fun c μ1 => if c = true then (toD e ρ1 μ1).bind fun d μ2 => if acc.length < 16777216 then lcL g t e ρ xs μ2 (acc ++ [d]) else .stk else lcL g t e ρ xs μ1 acc
def eLc (i : MI) (g : D → Ev → Option Ev) (ws : List Nat) (t : MT) (e : ME) : ME := fun ρ μ => (i ρ μ).bind fun xs μ1 => (lcL g t e (wipeE ρ ws) xs μ1 []).bind fun ds μ2 => .ok (.own (.lst ds)) μ2
def mYes : MT := fun _ μ => .ok true μ
section
variable {K : PySem.W.Frag} {cad : Str → Addr} {F F' H H' : Hp} {ι ι' : List Addr} {μ : Store} {ρ : Ev} {σ : L2.St}
theorem R.unset {i : Nat} (r : R K cad F ι μ ρ σ H) : R K cad F ι μ (ρ.set i .no) (σ.set i none) H := by
  refine ⟨r.rs, by rw [List.length_set, List.length_set]; exact r.len, fun j d' e => ?_, fun j o e => ?_, fun j k o o' a e1 e2 e3 e4 => ?_⟩
  · rcases get_set e with ⟨_, e', _⟩ | ⟨hj, e⟩
    · cases e'
    · obtain ⟨v', e1, q'⟩ := r.sh j d' e
      exact ⟨v', by rw [List.getElem?_set_ne (fun z => hj z.symm)]; exact e1, q'⟩
  · rcases get_set e with ⟨_, e', _⟩ | ⟨hj, e⟩
    · cases e'
    · obtain ⟨a, ho, e1, z⟩ := r.own j o e
      exact ⟨a, ho, by rw [List.getElem?_set_ne (fun z => hj z.symm)]; exact e1, z⟩
  · rcases get_set e1 with ⟨_, e', _⟩ | ⟨hj, e1⟩
    · cases e'
    rcases get_set e2 with ⟨_, e', _⟩ | ⟨hk, e2⟩
    · cases e'
    rw [List.getElem?_set_ne (fun z => hj z.symm)] at e3
    rw [List.getElem?_set_ne (fun z => hk z.symm)] at e4
    exact r.dis j k o o' a e1 e2 e3 e4
theorem R.wipe (r : R K cad F ι μ ρ σ H) : ∀ ws : List Nat, R K cad F ι μ (wipeE ρ ws) (L2.wipe σ ws) H
  | [] => r
  | w :: ws => (R.wipe r ws).unset
theorem wipe_get {σ : L2.St} : ∀ {ws : List Nat} {j : Nat}, j ∈ ws → j < σ.length → (L2.wipe σ ws)[j]? = some none
  | w :: ws, j, h, hl => by
    unfold L2.wipe
    by_cases e : w = j
    · rw [e]
      exact List.getElem?_set_self (by rw [wipe_length]; exact hl)
    · rw [List.getElem?_set_ne e]
      rcases List.mem_cons.mp h with z | z
      · exact absurd z.symm e
      · exact wipe_get z hl
theorem wipe_same {σ σ' : L2.St} {ws : List Nat} (hl : σ'.length = σ.length) (h : ∀ j, j ∉ ws → σ'[j]? = (L2.wipe σ ws)[j]?) : L2.wipe σ' ws = L2.wipe σ ws := by
  refine List.ext_getElem? fun j => ?_
  by_cases hj : j ∈ ws
  · by_cases hlt : j < σ.length
    · rw [wipe_get hj hlt, wipe_get hj (by rw [hl]; exact hlt)]
    · rw [List.getElem?_eq_none (by rw [wipe_length]; omega), List.getElem?_eq_none (by rw [wipe_length]; omega)]
  · rw [wipe_out hj, h j hj]
end
section
variable {X : Cx} {cad : Str → Addr} {W : WX} {E : Ent} {pos : Pos} {elt tg iter : Expr} {ifs : List Expr} {scope : Scope} {own : List (Str × Nat)} {mi : MI} {t : TG} {g : D → Ev → Option Ev} {mt : MT} {me : ME}
theorem eLc_ok {K : PySem.W.Frag} (gk : GOk K cad t g (own.map (·.2))) {σ : L2.St} {H : Hp} {Q : VK} (h : tE K cad W (eLc mi g (own.map (·.2)) mt me) σ H Q) : tLc (tI K cad W mi) t (tT K cad WT mt) (tD K cad WT (toD me)) (own.map (·.2)) σ H Q := by
  generalize own.map (·.2) = ws at gk h ⊢
  obtain ⟨F, ι, μ, ρ, r, h⟩ := h
  refine ⟨F, ι, μ, ρ, r, h.bind fun xs μ1 F1 ι1 H1 J x1 s1 q1 h1 => ?_⟩
  have q1 : ItR K cad F1 ι1 J xs := q1
  have rw1 := (r.ext x1 s1).wipe ws
  intro D hD
  let P : Nat → Hp → Prop := fun i H => ∃ F2 ι2 μ2 acc vs, Ext F1 ι1 H1 F2 ι2 H ∧ RS K cad F2 ι2 μ2 H ∧ H D = some (.lst vs) ∧ F2 D = none ∧ D ∉ ι2 ∧ VRs K cad ι2 F2 acc vs ∧
    Post K cad W (rlE K cad ρ σ) F1 ι1 H1 σ ((lcL g mt me (wipeE ρ ws) (xs.drop i) μ2 acc).bind fun ds μ3 => .ok (.own (.lst ds)) μ3) Q
  have hx0 : Ext F1 ι1 H1 F1 ι1 (upd H1 D (.lst [])) := Ext.newH hD
  refine ⟨fun i m H => i ≤ xs.length ∧ m = xs.length - i ∧ P i H, ⟨xs.length, Nat.zero_le _, rfl, F1, ι1, μ1, [], [], hx0, s1.newH hD, upd_same, (s1.fresh hD).1, (s1.fresh hD).2, rfl, h1⟩, ?_⟩
  rintro i m H2 ⟨hl, rfl, F2, ι2, μ2, acc, vs, x2, s2, e2, f2, n2, rv, h2⟩
  have hDne : H2 D ≠ none := by rw [e2]; intro z; cases z
  by_cases hlt : i < xs.length
  · refine .inr ⟨q1.go x2.f x2.i s2 hlt, P (i + 1), fun H' p => ⟨xs.length - (i + 1), by omega, hlt, rfl, p⟩, fun x H3 y => ?_⟩
    obtain ⟨F3, x3, s3, v3⟩ := q1.yl x2.f x2.i s2 (List.getElem?_eq_getElem hlt) y
    have orl : OR K cad ι2 F2 (.lst acc) (.lst vs) := ⟨vs, rfl, rv⟩
    have x13 := x2.trans x3
    have e3 := x3.kept D _ n2 e2
    have f3 := x3.apart f2 e2 orl
    have ed : xs.drop i = xs[i] :: xs.drop (i + 1) := List.drop_eq_getElem_cons hlt
    rw [ed] at h2
    unfold lcL at h2
    cases cg : g xs[i] (wipeE ρ ws) with
    | none => rw [cg] at h2; exact h2.elim
    | some ρ4 =>
      rw [cg] at h2
      dsimp only at h2
      refine gk (rw1.ext x13 s3) v3 cg fun σ4 r4 l4 g4 _ => ?_
      refine ⟨wipe_same (by rw [l4, wipe_length]) g4, F3, ι2, μ2, ρ4, r4, ?_⟩
      cases ct : mt ρ4 μ2 with
      | stk => rw [ct] at h2; exact h2
      | exc x μ5 => exact fun _ _ _ _ _ _ _ => trivial
      | ok c μ5 =>
        rw [ct] at h2
        intro F5 ι5 H5 c' x5 s5 q5
        have q5 : c = c' := q5
        subst q5
        have n3 : D ∉ ι2 := n2
        have orl3 : OR K cad ι2 F3 (.lst acc) (.lst vs) := orl.mono x3.f List.prefix_rfl
        have e5 := x5.kept D _ n3 e3
        have f5 := x5.apart f3 e3 orl3
        have n5 : D ∉ ι5 := fun z => by have := x5.ni D z n3; rw [e3] at this; cases this
        have orl5 : OR K cad ι5 F5 (.lst acc) (.lst vs) := orl3.mono x5.f x5.i
        have x15 := x13.trans x5
        cases c with
        | false =>
          rw [if_neg Bool.false_ne_true]
          obtain ⟨_, ev, rv5⟩ := orl5
          cases ev
          exact ⟨F5, ι5, μ5, acc, vs, x15, s5, e5, f5, n5, rv5, h2⟩
        | true =>
          rw [if_pos rfl]
          refine ⟨F5, ι5, μ5, ρ4, r4.ext x5 s5, ?_⟩
          have h2 : Post K cad W (rlE K cad ρ σ) F1 ι1 H1 σ (((toD me ρ4 μ5).bind fun d μ2 => if acc.length < 16777216 then lcL g mt me (wipeE ρ ws) (xs.drop (i + 1)) μ2 (acc ++ [d]) else .stk).bind fun ds μ3 => .ok (.own (.lst ds)) μ3) Q := h2
          cases cd : toD me ρ4 μ5 with
          | stk => rw [cd] at h2; exact h2
          | exc x μ6 => exact fun _ _ _ _ _ _ _ => trivial
          | ok d μ6 =>
            rw [cd] at h2
            intro F6 ι6 H6 v x6 s6 q6
            have q6 : VR K cad ι6 F6 d v := q6
            have e6 := x6.kept D _ n5 e5
            have f6 := x6.apart f5 e5 orl5
            have n6 : D ∉ ι6 := fun z => by have := x6.ni D z n5; rw [e5] at this; cases this
            obtain ⟨_, ev, rv6⟩ := orl5.mono x6.f x6.i
            cases ev
            have h2 : Post K cad W (rlE K cad ρ σ) F1 ι1 H1 σ ((if acc.length < 16777216 then lcL g mt me (wipeE ρ ws) (xs.drop (i + 1)) μ6 (acc ++ [d]) else .stk).bind fun ds μ3 => .ok (.own (.lst ds)) μ3) Q := h2
            by_cases hz : acc.length < 16777216
            · rw [if_pos hz] at h2
              refine ⟨vs, e6, by rw [← rv6.len, sizeLine_eq]; exact hz, F6, ι6, μ6, acc ++ [d], vs ++ [v], (x15.trans x6).upd_of (fun _ => hD) (fun o u z => by rw [hD] at z; cases z), ?_, upd_same, f6, n6, rv6.app (VRs.cons q6 VRs.nil), h2⟩
              refine s6.grow (Same.refl _) (fun b o' z => ?_) (fun b hb o' z => ?_) s6.sep
              · rw [upd_ne (fun w => by rw [w, f6] at z; cases z)]
                exact s6.sub b o' z
              · rw [upd_ne (show b ≠ D from fun w => n6 (w ▸ hb))]
                exact z
            · rw [if_neg hz] at h2
              exact h2.elim
  · have e : i = xs.length := by omega
    subst e
    rw [List.drop_length] at h2
    refine .inl ⟨q1.st x2.f x2.i s2 (Nat.le_refl _), ?_⟩
    exact h2 F2 ι2 H2 (.ref D) x2 s2 ⟨D, .lst vs, rfl, f2, n2, hD, e2, vs, rfl, rv⟩
theorem de_lc (hc : X.calm = true) (hN : X.N.Nodup) (hi : PI X tg iter (tI X.K cad W mi)) (ok : BlkOk X.N X.env.scope scope own)
    (hg : ∀ (s : Shared) (H : Hp) (C : Addr) (cl : List (Str × Addr)) (fp : List Addr), PG (X.blk s H scope (compEnvC scope cl C X.env) fp) tg t) (gk : GOk X.K cad t g (own.map (·.2)))
    (ht : ∀ (s : Shared) (H : Hp) (C : Addr) (cl : List (Str × Addr)) (fp : List Addr), PTs (X.blk s H scope (compEnvC scope cl C X.env) fp) ifs (tT X.K cad WT mt))
    (he : ∀ (s : Shared) (H : Hp) (C : Addr) (cl : List (Str × Addr)) (fp : List Addr), PE (X.blk s H scope (compEnvC scope cl C X.env) fp) elt (tE X.K cad WT me)) (hs : ∀ x, foldedSetIterable iter X.env x = pure x := by intro _; rfl) :
    PE X (.ListComp elt [⟨tg, iter, ifs, 0⟩] scope pos) (tE X.K cad W (eLc mi g (own.map (·.2)) mt me)) :=
  pe_imp (pe_lc hc hN hi ok hg ht (fun s H C cl fp => de_toD (he s H C cl fp)) hs) fun σ H Q h => eLc_ok gk h
theorem dts_nil {Y : Cx} : PTs Y [] (tT Y.K cad W mYes) := ⟨fun pins s σ H Q I h => pts_nil.run pins s σ H Q I (by
  obtain ⟨F, ι, μ, ρ, r, q⟩ := h
  exact q F ι H true (Ext.refl _ _ _) r.rs rfl)⟩
/-- y = [..] on one line -/
theorem ds_setLc (i : Nat) {y : Str} {py spos : Pos} (hc : X.calm = true) (hN : X.N.Nodup) (hyl : X.env.scope.names.lookup y = some .local) (hsw : swapsWith (.ListComp elt [⟨tg, iter, ifs, 0⟩] scope pos) (some (.Name y py)) spos.line X.env = pure true)
    (hi : PI X tg iter (tI X.K cad W mi)) (ok : BlkOk X.N X.env.scope scope own)
    (hg : ∀ (s : Shared) (H : Hp) (C : Addr) (cl : List (Str × Addr)) (fp : List Addr), PG (X.blk s H scope (compEnvC scope cl C X.env) fp) tg t) (gk : GOk X.K cad t g (own.map (·.2)))
    (ht : ∀ (s : Shared) (H : Hp) (C : Addr) (cl : List (Str × Addr)) (fp : List Addr), PTs (X.blk s H scope (compEnvC scope cl C X.env) fp) ifs (tT X.K cad WT mt))
    (he : ∀ (s : Shared) (H : Hp) (C : Addr) (cl : List (Str × Addr)) (fp : List Addr), PE (X.blk s H scope (compEnvC scope cl C X.env) fp) elt (tE X.K cad WT me)) (hy : X.N[i]? = some y := by rfl) (hs : ∀ x, foldedSetIterable iter X.env x = pure x := by intro _; rfl) :
    PS X (.Assign [.Name y py] (.ListComp elt [⟨tg, iter, ifs, 0⟩] scope pos) spos) (tS X.K cad W E (mSet i (eLc mi g (own.map (·.2)) mt me))) := by
  refine ps_imp (ps_setLc (i := i) hc hN hy hyl hsw hi ok hg ht (te := tD X.K cad WT (toD me)) (fun s H C cl fp => de_toD (he s H C cl fp)) hs) fun D σ H h => ?_
  have h := mSet_ok h
  obtain ⟨F, ι, μ, ρ, r, q⟩ := h
  exact eLc_ok gk ⟨F, ι, μ, ρ, r, q.toD⟩
theorem ds_ownLc (i : Nat) {y : Str} {py spos : Pos} (hc : X.calm = true) (hN : X.N.Nodup) (hyl : X.env.scope.names.lookup y = some .local) (hsw : swapsWith (.ListComp elt [⟨tg, iter, ifs, 0⟩] scope pos) (some (.Name y py)) spos.line X.env = pure true)
    (hi : PI X tg iter (tI X.K cad W mi)) (ok : BlkOk X.N X.env.scope scope own)
    (hg : ∀ (s : Shared) (H : Hp) (C : Addr) (cl : List (Str × Addr)) (fp : List Addr), PG (X.blk s H scope (compEnvC scope cl C X.env) fp) tg t) (gk : GOk X.K cad t g (own.map (·.2)))
    (ht : ∀ (s : Shared) (H : Hp) (C : Addr) (cl : List (Str × Addr)) (fp : List Addr), PTs (X.blk s H scope (compEnvC scope cl C X.env) fp) ifs (tT X.K cad WT mt))
    (he : ∀ (s : Shared) (H : Hp) (C : Addr) (cl : List (Str × Addr)) (fp : List Addr), PE (X.blk s H scope (compEnvC scope cl C X.env) fp) elt (tE X.K cad WT me)) (hy : X.N[i]? = some y := by rfl) (hs : ∀ x, foldedSetIterable iter X.env x = pure x := by intro _; rfl) :
    PS X (.Assign [.Name y py] (.ListComp elt [⟨tg, iter, ifs, 0⟩] scope pos) spos) (tS X.K cad W E (mOwn i (eLc mi g (own.map (·.2)) mt me))) := by
  refine ps_imp (ps_setLc (i := i) hc hN hy hyl hsw hi ok hg ht (te := tD X.K cad WT (toD me)) (fun s H C cl fp => de_toD (he s H C cl fp)) hs) fun D σ H h => ?_
  exact eLc_ok gk (mOwn_ok h)
end
/-! ### defs -/
def startE (n : Nat) (ds : List D) : Ev := ds.map .sh ++ List.replicate (n - ds.length) .no
/-- a def by its body: n names, p parameters -/
def endR (r : Res (Fl × Ev)) : Res Rv := match r with
  | .ok (.rt rv, _) μ' => .ok rv μ'
  | .ok (.nx, _) μ' => .ok (.sh .non) μ'
  | .ok _ _ => .stk
  | .exc x μ' => .exc x μ'
  | .stk => .stk
def runB (n p : Nat) (b : MS) : List D → Store → Res Rv := fun ds μ => if ds.length = p then endR (b (startE n ds) μ) else .stk
/-- no exception may leave it -/
def noXR (r : Res Rv) : Res Rv := match r with
  | .exc _ _ => .stk
  | r => r
def noX (m : List D → Store → Res Rv) : List D → Store → Res Rv := fun ds μ => noXR (m ds μ)
def rlR (K : PySem.W.Frag) (cad : Str → Addr) : Rl Rv V := ⟨fun H0 F ι H r v => RvR K cad H0 F ι H r v, fun {H H1 F ι H' a b} h q => (rlE K cad [] []).mono h q⟩
def spM (K : PySem.W.Frag) (cad : Str → Addr) (p : Nat) (m : List D → Store → Res Rv) : Sp := fun vs H Q E => ∃ F ι μ ds, RS K cad F ι μ H ∧ VRs K cad ι F ds vs ∧ ds.length = p ∧ Post K cad (fun c d _ H => E c d H) (rlR K cad) F ι H [] (m ds μ) Q
section
variable {P : Program} {w : World} {K : PySem.W.Frag} {mg : Str → Option Value} {base : Heap} {cad : Str → Addr}
theorem start_R {F H : Hp} {ι : List Addr} {μ : Store} {ds : List D} {vs : List V} {N : List Str} (rs : RS K cad F ι μ H) (q : VRs K cad ι F ds vs) : R K cad F ι μ (startE N.length ds) (start N vs) H := by
  have hl := q.len
  have get : ∀ (i : Nat) (s : Sl), (startE N.length ds)[i]? = some s → (∃ d, ds[i]? = some d ∧ s = .sh d) ∨ s = .no := fun i s e => by
    unfold startE at e
    by_cases hi : i < (ds.map Sl.sh).length
    · rw [List.getElem?_append_left hi, List.getElem?_map] at e
      cases c : ds[i]? with
      | none => rw [c] at e; cases e
      | some d => rw [c] at e; cases e; exact .inl ⟨d, rfl, rfl⟩
    · rw [List.getElem?_append_right (by omega)] at e
      have := List.mem_of_getElem? e
      exact .inr (List.eq_of_mem_replicate this)
  refine ⟨rs, ?_, fun i d e => ?_, fun i o e => ?_, fun i j o o' a e1 => ?_⟩
  · unfold L2.start startE
    rw [List.length_append, List.length_append, List.length_map, List.length_map, List.length_replicate, List.length_replicate, hl]
  · rcases get i _ e with ⟨d', e1, e2⟩ | e1
    · cases e2
      obtain ⟨v, e3, q3⟩ := q.get e1
      refine ⟨v, ?_, q3⟩
      unfold L2.start
      have hi : i < vs.length := (List.getElem?_eq_some_iff.mp e3).1
      rw [List.getElem?_append_left (by rw [List.length_map]; exact hi), List.getElem?_map, e3]
      rfl
    · cases e1
  · rcases get i _ e with ⟨d', e1, e2⟩ | e1
    · cases e2
    · cases e1
  · rcases get i _ e1 with ⟨d', e3, e2⟩ | e3
    · cases e2
    · cases e3
/-- THE RULE for a def that no exception leaves -/
theorem fn0 {x qual : Str} {st : Stmt} {f : Addr} {fd : FuncData} {N ps : List Str} {k : Nat} {b : MS} (F : Fun K x qual st f fd) (S : FnScope N ps (defScope st))
    (hb : ∀ (cdv : Value) (A : Around) (outer : List Env) (s : Shared) (H : Hp) (E : XK) (E0 : Ent), Room k (A.deeper (envOfC qual (defScope st) s.heap.objs.size f cdv)) → PSs (cxOf CX0 P w K mg base N qual (defScope st) f cdv A outer s H E).nox (defBody st) (tS K cad WT E0 b)) :
    FnOk P w K mg base CX0 (k + 1) f fd ps (spM K cad ps.length (noX (runB N.length ps.length b))) := by
  refine F.ok S (fun vs H Q E h => ?_) (fun cdv A outer s H vs Q E hr h => ?_)
  · obtain ⟨F, ι, μ, ds, rs, q, hl, _⟩ := h
    rw [← q.len, hl]
  · obtain ⟨F, ι, μ, ds, rs, q, hl, h⟩ := h
    refine ⟨_, hb cdv A outer s H E ⟨F, ι, H⟩ hr, F, ι, μ, startE N.length ds, ⟨start_R rs q, Ext.refl _ _ _, fun i o a e => ?_⟩, ?_⟩
    · have := (start_R (N := N) rs q).own i o e
      obtain ⟨a', ho, e1, e2, e3, e4, _⟩ := this
      exfalso
      unfold startE at e
      by_cases hi : i < (ds.map Sl.sh).length
      · rw [List.getElem?_append_left hi, List.getElem?_map] at e
        cases c : ds[i]? with
        | none => rw [c] at e; cases e
        | some d => rw [c] at e; cases e
      · rw [List.getElem?_append_right (by omega)] at e
        cases List.eq_of_mem_replicate (List.mem_of_getElem? e)
    · unfold noX noXR runB at h
      rw [if_pos hl] at h
      unfold endR at h
      cases c : b (startE N.length ds) μ with
      | stk => rw [c] at h; exact h
      | exc y μ1 => exact fun _ _ _ _ _ _ _ _ => trivial
      | ok p μ1 =>
        rw [c] at h
        obtain ⟨fl, ρ1⟩ := p
        cases fl with
        | nx => exact fun F' ι' σ' H' _ _ r' => h F' ι' H' .non r'.x r'.r.rs (VR.non_.mpr rfl : VR K cad ι' F' .non .non)
        | bk => exact h.elim
        | ct => exact h.elim
        | rt rv => exact fun F' ι' H' v x' s' q' => h F' ι' H' v x' s' q'
end
/-! ### calls of defs -/
def eCall (m : List D → Store → Res Rv) (as : MA) : ME := fun ρ μ => (as ρ μ).bind fun ds μ1 => (m ds μ1).bind fun rv μ2 => .ok rv.op μ2
section
variable {X : Cx} {cad : Str → Addr} {W : WX} {pos p : Pos} {e : Expr} {es : List Expr} {k n : Nat} {f : Addr} {fd : FuncData} {ps : List Str} {m : List D → Store → Res Rv} {x : Str} {as : MA}
theorem noX_exc {ds : List D} {μ : Store} {y : Xc} {μ' : Store} (h : noX m ds μ = .exc y μ') : False := by
  unfold noX noXR at h
  cases c : m ds μ with
  | stk => rw [c] at h; cases h
  | exc _ _ => rw [c] at h; cases h
  | ok _ _ => rw [c] at h; cases h
theorem eCall_ok {K : PySem.W.Frag} {σ : L2.St} {H : Hp} {Q : VK} (hn : n = ps.length) (h : tE K cad W (eCall (noX m) as) σ H Q) (hl : ∀ ρ μ ds μ1, as ρ μ = .ok ds μ1 → ds.length = n) : tCall (spM K cad n (noX m)) [] E0 (tDs K cad W as) σ H Q := by
  obtain ⟨F, ι, μ, ρ, r, h⟩ := h
  refine ⟨F, ι, μ, ρ, r, ?_⟩
  unfold eCall at h
  cases c : as ρ μ with
  | stk => rw [c] at h; exact h
  | exc y μ1 => rw [c] at h; exact h
  | ok ds μ1 =>
    rw [c] at h
    intro F1 ι1 H1 vs x1 s1 q1
    have q1 : VRs K cad ι1 F1 ds vs := q1
    refine ⟨F1, ι1, μ1, ds, s1, by rw [List.append_nil]; exact q1, hl ρ μ ds μ1 c, ?_⟩
    have h : Post K cad W (rlE K cad ρ σ) F ι H σ ((noX m ds μ1).bind fun rv μ2 => .ok rv.op μ2) Q := h
    cases cm : noX m ds μ1 with
    | stk => rw [cm] at h; exact h
    | exc y μ2 => exact (noX_exc cm).elim
    | ok rv μ2 =>
      rw [cm] at h
      intro F2 ι2 H2 v x2 s2 q2
      refine h F2 ι2 H2 v (x1.trans x2) s2 ?_
      exact (rlE K cad ρ σ).mono x1.dom (RvR.op q2)
theorem de_call (G : FnOk X.prog X.w X.K X.mg X.base CX0 k f fd ps (spM X.K cad n (noX m))) (hr : Room k X.A) (hg : Gl X x) (hm : X.mg x = some (.ref f)) (hk : PySem.W.keepIn X.K (.ref f) = true) (hb : Binds X.K fd ps []) (ha : PA X (e :: es) (tDs X.K cad W as)) (hn : n = ps.length) (hl : ∀ ρ μ ds μ1, as ρ μ = .ok ds μ1 → ds.length = n)
    (hdb : (x == ("__debug__" : Str)) = false := by decide) (he : starEach (e :: es) X.env = (false, eval e X.env) :: starEach es X.env := by rfl) (hpl : (backTo pos (starEach es X.env)).any (·.1) = false := by rfl) : PE X (.Call (.Name x p) (e :: es) [] pos) (tE X.K cad W (eCall (noX m) as)) :=
  pe_imp (pe_call G hr hg hm hk hb .nil pass0 ha hdb he hpl) fun σ H Q h => eCall_ok (ps := ps) hn h hl
theorem aLen0 : ∀ (ρ : Ev) (μ : Store) (ds : List D) (μ1 : Store), aNil ρ μ = .ok ds μ1 → ds.length = 0 := fun ρ μ ds μ1 h => by cases h; rfl
theorem aLenS {m : ME} {as : MA} {n : Nat} (h : ∀ (ρ : Ev) (μ : Store) (ds : List D) (μ1 : Store), as ρ μ = .ok ds μ1 → ds.length = n) : ∀ (ρ : Ev) (μ : Store) (ds : List D) (μ1 : Store), aCons m as ρ μ = .ok ds μ1 → ds.length = n + 1 := fun ρ μ ds μ1 e => by
  unfold aCons at e
  cases c : toD m ρ μ with
  | stk => rw [c] at e; cases e
  | exc _ _ => rw [c] at e; cases e
  | ok d μ2 =>
    rw [c] at e
    cases c2 : as ρ μ2 with
    | stk => simp only [Res.bind_ok, c2, Res.bind_stk] at e; cases e
    | exc _ _ => simp only [Res.bind_ok, c2, Res.bind_exc] at e; cases e
    | ok ds2 μ3 =>
      simp only [Res.bind_ok, c2] at e
      cases e
      simp [h ρ μ2 ds2 _ c2]
end
end DL

/-! ### the order of lists of ints -/
namespace DL
open HT
theorem lexLt_irr : ∀ x : List Int, lexLt x x = false
  | [] => rfl
  | a :: x => by rw [lexLt_cons, if_pos rfl]; exact lexLt_irr x
theorem lexLt_asym : ∀ x y : List Int, lexLt x y = true → lexLt y x = false
  | [], [], h => rfl
  | [], _ :: _, _ => rfl
  | _ :: _, [], h => by cases h
  | a :: x, b :: y, h => by
    rw [lexLt_cons] at h ⊢
    by_cases e : a = b
    · rw [if_pos e] at h
      rw [if_pos e.symm]
      exact lexLt_asym x y h
    · rw [if_neg e] at h
      rw [if_neg (fun z => e z.symm)]
      have := of_decide_eq_true h
      exact decide_eq_false (by omega)
/-- not below: transitive -/
theorem lexLt_tr : ∀ x y z : List Int, lexLt y x = false → lexLt z y = false → lexLt z x = false
  | [], _, z, _, _ => by cases z <;> rfl
  | _ :: _, [], _, h, _ => by cases h
  | _ :: _, _ :: _, [], _, h => by cases h
  | a :: x, b :: y, c :: z, h1, h2 => by
    rw [lexLt_cons] at h1 h2 ⊢
    by_cases e1 : b = a
    · rw [if_pos e1] at h1
      by_cases e2 : c = b
      · rw [if_pos e2] at h2
        rw [if_pos (e2.trans e1)]
        exact lexLt_tr x y z h1 h2
      · rw [if_neg e2] at h2
        have := of_decide_eq_false h2
        rw [if_neg (by omega)]
        exact decide_eq_false (by omega)
    · rw [if_neg e1] at h1
      have q1 := of_decide_eq_false h1
      by_cases e2 : c = b
      · rw [if_neg (by omega)]
        exact decide_eq_false (by omega)
      · rw [if_neg e2] at h2
        have q2 := of_decide_eq_false h2
        rw [if_neg (by omega)]
        exact decide_eq_false (by omega)
theorem lexLt_anti : ∀ x y : List Int, lexLt x y = false → lexLt y x = false → x = y
  | [], [], _, _ => rfl
  | [], _ :: _, h, _ => by cases h
  | _ :: _, [], _, h => by cases h
  | a :: x, b :: y, h1, h2 => by
    rw [lexLt_cons] at h1 h2
    by_cases e : a = b
    · rw [if_pos e] at h1
      rw [if_pos e.symm] at h2
      rw [e, lexLt_anti x y h1 h2]
    · rw [if_neg e] at h1
      rw [if_neg (fun z => e z.symm)] at h2
      have := of_decide_eq_false h1
      have := of_decide_eq_false h2
      omega
theorem lexLt_zip (p : Int → Int → Bool) (hp : ∀ a b, p a b = decide (a < b)) : ∀ x y : List Int, lexZ p (decide (x.length < y.length)) x y = lexLt x y
  | [], [] => rfl
  | [], _ :: _ => by simp [lexZ, lexLt_nil_cons]
  | _ :: _, [] => by simp [lexZ, lexLt_cons_nil]
  | a :: x, b :: y => by
    rw [lexLt_cons, lexZ, hp, show decide ((a :: x).length < (b :: y).length) = decide (x.length < y.length) by simp, lexLt_zip p hp x y]
/-- sorted lists of lists of ints -/
def insL (x : List Int) : List (List Int) → List (List Int)
  | [] => [x]
  | y :: ys => if lexLt y x = true then y :: insL x ys else x :: y :: ys
def sortL : List (List Int) → List (List Int)
  | [] => []
  | x :: xs => insL x (sortL xs)
def SortedL (l : List (List Int)) : Prop := l.Pairwise fun a b => lexLt b a = false
theorem insL_perm (x : List Int) : ∀ l : List (List Int), (insL x l).Perm (x :: l)
  | [] => List.Perm.refl _
  | y :: ys => by
    unfold insL
    split
    · exact ((insL_perm x ys).cons y).trans (List.Perm.swap ..)
    · exact List.Perm.refl _
theorem sortL_perm : ∀ l : List (List Int), (sortL l).Perm l
  | [] => List.Perm.refl _
  | x :: xs => (insL_perm x _).trans ((sortL_perm xs).cons x)
theorem insL_sorted (x : List Int) : ∀ {l : List (List Int)}, SortedL l → SortedL (insL x l)
  | [], _ => List.pairwise_singleton ..
  | y :: ys, h => by
    obtain ⟨h1, h2⟩ := List.pairwise_cons.mp h
    unfold insL
    split
    · next c =>
      refine List.pairwise_cons.mpr ⟨fun z hz => ?_, insL_sorted x h2⟩
      rcases List.mem_cons.mp ((insL_perm x ys).mem_iff.mp hz) with e | e
      · rw [e]
        exact lexLt_asym _ _ c
      · exact h1 z e
    · next c =>
      have c : lexLt y x = false := by simpa using c
      refine List.pairwise_cons.mpr ⟨fun z hz => ?_, h⟩
      rcases List.mem_cons.mp hz with e | e
      · rw [e]
        exact c
      · exact lexLt_tr x y z c (h1 z e)
theorem sortL_sorted : ∀ l : List (List Int), SortedL (sortL l)
  | [] => List.Pairwise.nil
  | x :: xs => insL_sorted x (sortL_sorted xs)
theorem sorted_uniq : ∀ {l m : List (List Int)}, SortedL l → SortedL m → l.Perm m → l = m
  | [], m, _, _, h => (List.Perm.eq_nil h.symm).symm
  | x :: l, [], _, _, h => absurd h.length_eq (by simp)
  | x :: l, y :: m, hl, hm, h => by
    obtain ⟨l1, l2⟩ := List.pairwise_cons.mp hl
    obtain ⟨m1, m2⟩ := List.pairwise_cons.mp hm
    have e : x = y := by
      rcases List.mem_cons.mp (h.mem_iff.mp (List.mem_cons_self (a := x) (l := l))) with e | hx
      · exact e
      rcases List.mem_cons.mp (h.mem_iff.mpr (List.mem_cons_self (a := y) (l := m))) with e | hy
      · exact e.symm
      exact lexLt_anti x y (m1 x hx) (l1 y hy)
    subst e
    rw [sorted_uniq l2 m2 h.cons_inv]
end DL

/-! ### sorted of tuples of ints, at the model -/
namespace SrtT
open PySem PyProof.Rows Srt SrtO
section
variable {prog : Program} {w : World} {A : Around} {E : Value → Shared → Prop} {s : Shared}
theorem kat_lex {b z : Bool} {Q : Bool → Shared → Prop} {xs ys : List Value} {ns ms : List Int} (i : Nat) (hx : IntsAre xs ns) (hy : IntsAre ys ms) (h : Q (DL.lexZ (fun a b => decide (a < b)) z ns ms) s) : PySem.W.KatLex prog w A b z Q (xs.zip ys) i s := by
  induction hx generalizing ys ms i with
  | nil => exact PySem.W.kat_nil (by cases ms <;> exact h)
  | @cons p t xs ns hx ih =>
    cases hy with
    | nil => exact PySem.W.kat_nil h
    | @cons q u ys ms hy =>
      show PySem.W.KatLex prog w A b z Q ((Value.int p t, Value.int q u) :: xs.zip ys) i s
      refine PySem.W.kat_cons (wpAny_eqBool_int ?_)
      rw [DL.lexZ] at h
      by_cases e : p = q
      · subst e
        rw [if_pos rfl] at h
        rw [beq_self_eq_true]
        exact PySem.W.kat_yes (ih (i + 1) hy h)
      · rw [if_neg e] at h
        rw [show (p == q) = false from beq_eq_false_iff_ne.mpr e]
        exact PySem.W.kat_no (TS.oneLt_ints _ h)
abbrev TI (h : Heap) (v : Value) (ns : List Int) : Prop := TS.TupInts h v ns
theorem tup_cmp {vs : List Value} {k : Value → List Int} (hp : ∀ v ∈ vs, TI s.heap v (k v)) : SrtO.Cmp prog w A s (tuples' true) (fun p => p.1 ∈ vs) (lt2 fun v u => HT.lexLt (k v) (k u)) := by
  intro p q hm hm'
  obtain ⟨a, xs, e1, ⟨o, ho, hc, n, hd⟩, i1⟩ := hp _ hm
  obtain ⟨a', ys, e2, ⟨o', ho', hc', n', hd'⟩, i2⟩ := hp _ hm'
  show wpAny (model prog w) A (keyLt' (tuples' true) p.1 q.1) (fun r s' => s' = s ∧ r = HT.lexLt (k p.1) (k q.1)) (fun _ _ => False) s
  generalize k p.1 = ns at i1 ⊢
  generalize k q.1 = ms at i2 ⊢
  rw [e1, e2]
  refine PySem.W.kat_lt ho hd ho' hd' (kat_lex 0 i1 i2 ⟨rfl, ?_⟩)
  have l1 := i1.length
  have l2 := i2.length
  rw [Array.length_toList] at l1 l2
  rw [l1, l2]
  exact DL.lexLt_zip _ (fun _ _ => rfl) ns ms
theorem swo_lexLt (k : Value → List Int) : Swo fun v u => HT.lexLt (k v) (k u) := ⟨fun x y h => DL.lexLt_asym _ _ h, fun x y z h1 h2 => DL.lexLt_tr _ _ _ h1 h2⟩
theorem firsts {h : Heap} : ∀ {vs : List Value} {k : Value → List Int}, (∀ v ∈ vs, TI h v (k v) ∧ k v ≠ []) → ∃ fs, PySem.W.KatTups h vs fs ∧ fs.length = vs.length ∧ ∀ f, f ∈ fs → ∃ n t, f = Value.int n t
  | [], _, _ => ⟨[], PySem.W.KatTups.nil, rfl, fun f hf => by simp at hf⟩
  | v :: vs, k, x => by
    obtain ⟨fs, kt, hl, hi⟩ := firsts (vs := vs) (k := k) fun u hu => x u (List.mem_cons_of_mem _ hu)
    obtain ⟨⟨a, xs, e0, ⟨o, ho, hc, n, hdt⟩, i⟩, hn⟩ := x v (List.mem_cons_self ..)
    obtain ⟨y, ys, e⟩ : ∃ y ys, xs.toList = y :: ys := by
      cases q : xs.toList with
      | nil =>
        rw [q] at i
        exact absurd (List.eq_nil_of_length_eq_zero i.length.symm) hn
      | cons y ys => exact ⟨y, ys, rfl⟩
    obtain ⟨m, t, hy⟩ := i.all y (by rw [e]; exact List.mem_cons_self ..)
    subst e0
    refine ⟨y :: fs, PySem.W.KatTups.cons ho hc hdt ?_ kt, by simp [hl], ?_⟩
    · have z := congrArg (fun l : List Value => l[0]?) e
      simpa using z
    · intro f hf
      rcases List.mem_cons.mp hf with rfl | hf
      · exact ⟨m, t, hy⟩
      · exact hi f hf
theorem tups_sortable {a : Addr} {vs : List Value} {k : Value → List Int} (h0 : 0 < vs.length) (hp : ∀ v ∈ vs, TI s.heap v (k v) ∧ k v ≠ []) (ha : ∀ o, s.heap.get? a = some o → o.cls ≠ .type "tuple") : SortableO prog w A s a vs fun v u => HT.lexLt (k v) (k u) := by
  intro h' keep
  have hp' : ∀ v ∈ vs, TI h' v (k v) ∧ k v ≠ [] := fun v hm => ⟨(hp v hm).1.keeps fun b o e c => keep b o (fun z => by subst z; exact ha o e c) e, (hp v hm).2⟩
  obtain ⟨fs, h1, h2, h3⟩ := firsts hp'
  refine ⟨tuples' true, fun Q E hq => ?_, tup_cmp fun v hm => (hp' v hm).1⟩
  refine PySem.W.kat_kind (T := .type "int") h1 (by omega) (fun f hm => ?_) (by rfl) ?_
  · obtain ⟨x, t, rfl⟩ := h3 f hm
    exact PySem.W.Looks.now
  · have e : (Value.type "int" != Value.type "tuple") = true := by first | decide +kernel | rfl | decide
    rw [e]
    exact hq
theorem sorted_tups {l : Addr} {vs : List Value} {k : Value → List Int} {Q : Value → Shared → Prop} (hl : s.heap.IsList l vs.toArray) (hz : vs.length ≤ sizeLine) (hp : ∀ v ∈ vs, TI s.heap v (k v) ∧ k v ≠ [])
    (h : ∀ (h' : Heap) (d : Addr) (out : List Value), Srtd (fun v u => HT.lexLt (k v) (k u)) out → Stb (fun v u => HT.lexLt (k v) (k u)) out vs → (∀ b o, s.heap.get? b = some o → h'.get? b = some o) → s.heap.objs.size ≤ d → (∃ n, h'.get? d = some (seqObj "list" out.toArray n)) → Q (.ref d) { s with heap := h' }) :
    wpAny (model prog w) A (call (.builtin "sorted") [.ref l]) Q E s := by
  refine sorted_ord (swo_lexLt k) hl hz (fun h2 h₁ a ha kk => ?_) fun out hs hb => ?_
  · refine tups_sortable (s := { s with heap := h₁ }) (by omega) (fun v hm => ⟨(hp v hm).1.keeps fun b o e _ => (kk b o e).2, (hp v hm).2⟩) fun o e => ?_
    have e' : some o = some (seqObj "list" vs.toArray 0) := e.symm.trans ha
    cases e'
    intro c
    exact absurd (Value.type.inj c) (by decide)
  · exact h _ _ out hs hb (fun b o e => sortedAll_old e) (Nat.le_succ _) (sortedAll_at s.heap vs out.toArray)
end
end SrtT

namespace DL
open PySem PySem.Spec PyProof.Rows L2
/-- sorted(xs), xs a list of tuples of ints (none empty) -/
def rSortT (K : PySem.W.Frag) : List V → Hp → VK → Prop := fun vs H Q => ∃ (a : Addr) (xs : List V) (k : V → List Int), vs = [V.ref a] ∧ SqL K H a xs ∧ (∀ x ∈ xs, ∃ t, x = V.ref t ∧ H t = some (.tup ((k x).map V.int)) ∧ k x ≠ []) ∧
  ∀ ys p, ys.Perm xs → (ys.map k).Pairwise (fun a b => HT.lexLt b a = false) → H p = none → Q (.ref p) (upd H p (.lst ys))
section
variable {X : Cx}
theorem cr_sortTI : CallR X (.builtin "sorted") (rSortT X.K) := by
  intro pins s σ H vs us Q I r h
  obtain ⟨a, xs, k, rfl, hs, hx, q⟩ := h
  obtain ⟨its, rv, hl, hz⟩ := I.list hs
  obtain ⟨u, rfl, ru⟩ := vals1 r
  obtain rfl : u = Value.ref a := ru
  obtain ⟨e1, e2⟩ := refs_back rv fun x m => by
    obtain ⟨t, e, _⟩ := hx x m
    exact ⟨t, e⟩
  refine SrtT.sorted_tups (k := fun u => k (backV u)) hl.isList (by rw [← rv.length]; exact hz) (fun v hv => ?_) fun h' d out h1 h2 kp hd hn => ?_
  · obtain ⟨t, rfl⟩ := e2 v hv
    have hm : V.ref t ∈ xs := by rw [e1]; exact List.mem_map.mpr ⟨_, hv, rfl⟩
    obtain ⟨t', e, ht, hne⟩ := hx _ hm
    cases e
    obtain ⟨_, its2, r2, pt⟩ := I.hok _ _ ht
    exact ⟨⟨t, its2.toArray, rfl, pt, (show IntsAre its2.toArray.toList (k (V.ref t)) by rw [List.toList_toArray]; exact Vals.ints r2)⟩, hne⟩
  · have h3 : ∀ u ∈ out, ∃ a, u = Value.ref a := fun u hu => e2 u (h2.perm.mem_iff.mp hu)
    obtain ⟨n, hn⟩ := hn
    have hb : (out.map backV).Perm xs := by
      rw [e1]
      exact h2.perm.map backV
    refine ⟨.ref d, upd H d (.lst (out.map backV)), I.laid (t' := s.toks) kp hd ⟨?_, out, n, vals_back h3, hn⟩, rfl, q _ d hb ?_ (I.hok.fresh hd)⟩
    · rw [hb.length_eq]
      exact hz
    · rw [List.pairwise_map, List.pairwise_map]
      exact h1
end
def D.intss : List D → Option (List (List Int))
  | [] => some []
  | .tup ds :: r => (D.ints ds).bind fun ns => if ns = [] then none else (D.intss r).map (ns :: ·)
  | _ :: _ => none
def intsD (ns : List Int) : D := .tup (ns.map .int)
def insI (x : Int) : List Int → List Int
  | [] => [x]
  | y :: ys => if y < x then y :: insI x ys else x :: y :: ys
def sortI : List Int → List Int
  | [] => []
  | x :: xs => insI x (sortI xs)
theorem insI_perm (x : Int) : ∀ l : List Int, (insI x l).Perm (x :: l)
  | [] => List.Perm.refl _
  | y :: ys => by
    unfold insI
    split
    · exact ((insI_perm x ys).cons y).trans (List.Perm.swap ..)
    · exact List.Perm.refl _
theorem sortI_perm : ∀ l : List Int, (sortI l).Perm l
  | [] => List.Perm.refl _
  | x :: xs => (insI_perm x _).trans ((sortI_perm xs).cons x)
theorem insI_sorted (x : Int) : ∀ {l : List Int}, l.Pairwise (· ≤ ·) → (insI x l).Pairwise (· ≤ ·)
  | [], _ => List.pairwise_singleton ..
  | y :: ys, h => by
    obtain ⟨h1, h2⟩ := List.pairwise_cons.mp h
    unfold insI
    split
    · next c =>
      refine List.pairwise_cons.mpr ⟨fun z hz => ?_, insI_sorted x h2⟩
      rcases List.mem_cons.mp ((insI_perm x ys).mem_iff.mp hz) with e | e
      · omega
      · exact h1 z e
    · next c =>
      refine List.pairwise_cons.mpr ⟨fun z hz => ?_, h⟩
      rcases List.mem_cons.mp hz with e | e
      · omega
      · have := h1 z e
        omega
theorem sortI_sorted : ∀ l : List Int, (sortI l).Pairwise (· ≤ ·)
  | [] => List.Pairwise.nil
  | x :: xs => insI_sorted x (sortI_sorted xs)
theorem sortI_uniq : ∀ {l m : List Int}, l.Pairwise (· ≤ ·) → m.Pairwise (· ≤ ·) → l.Perm m → l = m
  | [], m, _, _, h => (List.Perm.eq_nil h.symm).symm
  | x :: l, [], _, _, h => absurd h.length_eq (by simp)
  | x :: l, y :: m, hl, hm, h => by
    obtain ⟨l1, l2⟩ := List.pairwise_cons.mp hl
    obtain ⟨m1, m2⟩ := List.pairwise_cons.mp hm
    have e : x = y := by
      rcases List.mem_cons.mp (h.mem_iff.mp (List.mem_cons_self (a := x) (l := l))) with e | hx
      · exact e
      rcases List.mem_cons.mp (h.mem_iff.mpr (List.mem_cons_self (a := y) (l := m))) with e | hy
      · exact e.symm
      have := m1 x hx
      have := l1 y hy
      omega
    subst e
    rw [sortI_uniq l2 m2 h.cons_inv]
/-- keys that are ints -/
def keyInts : List Key → Option (List Int)
  | [] => some []
  | .inl i :: r => (keyInts r).map (i :: ·)
  | .inr _ :: _ => none
def fSorted : List Vw → Option Rv
  | [.ob (.lst ds)] => match D.ints ds with
    | some ns => some (.own (.lst ((sortI ns).map .int)))
    | none => (D.intss ds).map fun nss => .own (.lst ((sortL nss).map intsD))
  | [.ob (.dK kvs)] => (keyInts (kvs.map (·.1))).bind fun ns => if ns.length < 64 then some (.own (.lst ((sortI ns).map .int))) else none
  | _ => none
def rSortA (K : PySem.W.Frag) : List V → Hp → VK → Prop := fun vs H Q => rSortedI K vs H Q ∨ rSortT K vs H Q ∨ (∃ (a : Addr) (kvs : List (Key × V)) (ks : List Int), vs = [.ref a] ∧ Rd H a (.dK kvs) ∧ kvs.map (·.1) = ks.map Sum.inl ∧ ks.length < 64 ∧
    ∀ (ys : List Int) (p : Addr), ys.Perm ks → ys.Pairwise (· ≤ ·) → H p = none → Q (.ref p) (upd H p (.lst (ys.map V.int))))
theorem cr_sortA {X : Cx} (hc : X.calm = true) : CallR X (.builtin "sorted") (rSortA X.K) := cr_sortedI.or (cr_sortTI.or (call_sortedDI hc))
section
variable {K : PySem.W.Frag} {cad : Str → Addr} {F H : Hp} {ι : List Addr} {μ : Store}
theorem ints_D : ∀ {ns : List Int}, VRs K cad ι F (ns.map .int) (ns.map V.int)
  | [] => rfl
  | _ :: ns => ⟨_, _, rfl, VR.int_.mpr rfl, ints_D (ns := ns)⟩
/-- each item's ints, by its address -/
theorem intss_k (rs : RS K cad F ι μ H) : ∀ {ds : List D} {vs : List V} {nss : List (List Int)}, VRs K cad ι F ds vs → D.intss ds = some nss → ∃ k : V → List Int, vs.map k = nss ∧ ∀ x ∈ vs, ∃ t, x = V.ref t ∧ F t = some (.tup ((k x).map V.int)) ∧ k x ≠ []
  | [], _, _, h, e => by
    cases h
    cases e
    exact ⟨fun _ => [], rfl, fun x hx => by simp at hx⟩
  | d :: ds, _, nss, h, e => by
    obtain ⟨v, vs, rfl, r, t⟩ := h
    cases d with
    | tup es =>
      have e : ((D.ints es).bind fun ns => if ns = [] then none else (D.intss ds).map (ns :: ·)) = some nss := e
      cases c : D.ints es with
      | none => rw [c] at e; cases e
      | some ns =>
        rw [c] at e
        have e : (if ns = [] then none else (D.intss ds).map (ns :: ·)) = some nss := e
        by_cases hn : ns = []
        · rw [if_pos hn] at e; cases e
        · rw [if_neg hn] at e
          cases c2 : D.intss ds with
          | none => rw [c2] at e; cases e
          | some nss' =>
            rw [c2] at e
            cases e
            obtain ⟨a, us, rfl, e1, ru⟩ := VR.tup_.mp r
            rw [ints_vals ru c] at e1
            obtain ⟨k, k1, k2⟩ := intss_k rs t c2
            refine ⟨fun x => if x = .ref a then ns else k x, ?_, fun x hx => ?_⟩
            · have : (if V.ref a = V.ref a then ns else k (.ref a)) = ns := if_pos rfl
              rw [List.map_cons, this, ← k1]
              congr 1
              refine List.map_congr_left fun x hx => ?_
              by_cases hxa : x = .ref a
              · rw [if_pos hxa]
                obtain ⟨t, e2, e3, _⟩ := k2 x hx
                rw [hxa] at e2
                cases e2
                rw [e1] at e3
                have e4 := HO.tup.inj (Option.some.inj e3)
                have inj : ∀ {l m : List Int}, l.map V.int = m.map V.int → l = m := fun {l m} h => by
                  induction l generalizing m with
                  | nil => cases m with
                    | nil => rfl
                    | cons _ _ => cases h
                  | cons x l ih => cases m with
                    | nil => cases h
                    | cons y m =>
                      rw [List.map_cons, List.map_cons] at h
                      injection h with h1 h2
                      rw [V.int.inj h1, ih h2]
                exact inj e4
              · rw [if_neg hxa]
            · dsimp only
              by_cases hxa : x = .ref a
              · rw [if_pos hxa]
                exact ⟨a, hxa, e1, hn⟩
              · rw [if_neg hxa]
                rcases List.mem_cons.mp hx with z | z
                · exact absurd z hxa
                · exact k2 x z
    | _ => cases e
theorem keyInts_ok : ∀ {ks : List Key} {ns : List Int}, keyInts ks = some ns → ks = ns.map Sum.inl
  | [], _, e => by cases e; rfl
  | .inl i :: ks, ns, e => by
    have e : (keyInts ks).map (i :: ·) = some ns := e
    cases c : keyInts ks with
    | none => rw [c] at e; cases e
    | some ms => rw [c] at e; cases e; rw [keyInts_ok c]; rfl
  | .inr _ :: _, _, e => by cases e
theorem perm_VRs {k : V → List Int} : ∀ {ys : List V}, (∀ x ∈ ys, ∃ t, x = V.ref t ∧ F t = some (.tup ((k x).map V.int)) ∧ k x ≠ []) → VRs K cad ι F ((ys.map k).map intsD) ys
  | [], _ => rfl
  | y :: ys, h => by
    obtain ⟨t, e1, e2, _⟩ := h y List.mem_cons_self
    refine ⟨y, ys, rfl, VR.tup_.mpr ⟨t, _, e1, e2, ints_D⟩, perm_VRs fun x hx => h x (List.mem_cons_of_mem _ hx)⟩
theorem sd_sorted : SdB K cad (rSortA K) fSorted := by
  intro F ι μ H ws vs rv Q rs hw e q
  match ws, hw, e with
  | [.ob (.lst ds)], hw, e =>
    obtain ⟨v, rfl, a, rfl, us, e1, r⟩ := pr1 hw
    have e : (match D.ints ds with | some ns => some (Rv.own (.lst ((sortI ns).map .int))) | none => (D.intss ds).map fun nss => .own (.lst ((sortL nss).map intsD))) = some rv := e
    cases c : D.ints ds with
    | some ns =>
      rw [c] at e
      cases e
      rw [ints_vals r c] at e1
      refine .inl ⟨a, ns, rfl, SqL.of e1, fun ns' p h1 h2 hp => ?_⟩
      have : ns' = sortI ns := sortI_uniq h2 (sortI_sorted ns) (h1.trans (sortI_perm ns).symm)
      rw [this]
      exact fin_own rs q hp ⟨_, rfl, ints_D⟩
    | none =>
      rw [c] at e
      cases c2 : D.intss ds with
      | none => rw [c2] at e; cases e
      | some nss =>
        rw [c2] at e
        cases e
        obtain ⟨k, k1, k2⟩ := intss_k rs r c2
        refine .inr (.inl ⟨a, us, k, rfl, SqL.of e1, fun x hx => ?_, fun ys p h1 h2 hp => ?_⟩)
        · obtain ⟨t, f1, f2, f3⟩ := k2 x hx
          exact ⟨t, f1, rs.sub _ _ f2, f3⟩
        · have e3 : ys.map k = sortL nss := sorted_uniq h2 (sortL_sorted nss) (((h1.map k).trans (by rw [k1])).trans (sortL_perm nss).symm)
          dsimp only at q
          rw [← e3] at q
          exact fin_own rs q hp ⟨ys, rfl, perm_VRs fun x hx => k2 x (h1.mem_iff.mp hx)⟩
  | [.ob (.dK kvs)], hw, e =>
    obtain ⟨v, rfl, a, rfl, us, e1, r⟩ := pr1 hw
    have e : ((keyInts (kvs.map (·.1))).bind fun ns => if ns.length < 64 then some (Rv.own (.lst ((sortI ns).map .int))) else none) = some rv := e
    cases c : keyInts (kvs.map (·.1)) with
    | none => rw [c] at e; cases e
    | some ns =>
      rw [c] at e
      have e : (if ns.length < 64 then some (Rv.own (.lst ((sortI ns).map .int))) else none) = some rv := e
      by_cases hl : ns.length < 64
      · rw [if_pos hl] at e
        cases e
        have lk : (kvs.map (·.1)).length = us.length := by
          have := r.len
          rw [List.length_map] at this ⊢
          exact this
        refine .inr (.inr ⟨a, _, ns, rfl, e1, ?_, hl, fun ys p h1 h2 hp => ?_⟩)
        · rw [List.map_fst_zip (by omega)]
          exact keyInts_ok c
        · have : ys = sortI ns := sortI_uniq h2 (sortI_sorted ns) (h1.trans (sortI_perm ns).symm)
          rw [this]
          exact fin_own rs q hp ⟨_, rfl, ints_D⟩
      · rw [if_neg hl] at e
        cases e
end
end DL

/-! ### a name's own thing never changes from now on; several names at once -/
namespace DL
open PySem PySem.Spec PyProof.Rows L2
def frzD : Ob → Option D
  | .lst xs => some (.lst xs)
  | .dK kvs => some (.dK (kvs.map (·.1)) (kvs.map (·.2)))
  | .dT kvs => some (.dT (kvs.map (·.1)) (kvs.map (·.2)))
  | .ins c fs => some (.ins c (fs.map (·.1)) (fs.map (·.2)))
  | _ => none
def mFrz (i : Nat) : MS := fun ρ μ => match ρ[i]? with
  | some (.own o) => (match frzD o with
    | some d => .ok (.nx, ρ.set i (.sh d)) μ
    | none => .stk)
  | some (.sh _) => .ok (.nx, ρ) μ
  | _ => .stk
theorem upd_eq {H : Hp} {a : Addr} {o : HO} (h : H a = some o) : upd H a o = H := by
  funext b
  by_cases e : b = a
  · rw [e, upd_same, h]
  · rw [upd_ne e]
section
variable {K : PySem.W.Frag} {cad : Str → Addr} {E : Ent} {F F' H H' H0 : Hp} {ι ι' : List Addr} {μ μ' : Store} {ρ : Ev} {σ : L2.St}
theorem R0.frz (r : R0 K cad E F ι μ ρ σ H) {i : Nat} {o : Ob} {a : Addr} {ho : HO} {d : D} (e1 : ρ[i]? = some (.own o)) (e2 : σ[i]? = some (some (.ref a))) (q : VR K cad ι (upd F a ho) d (.ref a)) : R0 K cad E (upd F a ho) ι μ (ρ.set i (.sh d)) σ (upd H a ho) := by
  obtain ⟨a', ho', e3, e4, e5, e6, z⟩ := r.r.own i o e1
  rw [e2] at e3
  cases e3
  have sm : Same F (upd F a ho) := same_new e4
  have hE : E.H a = none := r.fr i o a e1 e2
  refine ⟨⟨?_, by rw [List.length_set]; exact r.r.len, fun j d' ej => ?_, fun j o' ej => ?_, fun j k o1 o2 b ej ek e7 e8 => ?_⟩, ?_, fun j o' b ej e7 => ?_⟩
  · refine r.r.rs.grow sm (same_upd2 r.r.rs.sub) (fun b hb o' s => ?_) fun b hb => ?_
    · rw [upd_ne (show b ≠ a from fun w => e5 (w ▸ hb))]
      exact s
    · rw [upd_ne (show b ≠ a from fun w => e5 (w ▸ hb))]
      exact r.r.rs.sep b hb
  · rcases get_set ej with ⟨hj, e', _⟩ | ⟨hj, ej⟩
    · cases e'
      rw [hj]
      exact ⟨_, e2, q⟩
    · obtain ⟨v, e7, q7⟩ := r.r.sh j d' ej
      exact ⟨v, e7, VR.mono sm List.prefix_rfl _ _ q7⟩
  · rcases get_set ej with ⟨_, e', _⟩ | ⟨hj, ej⟩
    · cases e'
    · obtain ⟨b, hb, e7, e8, e9, e10, z2⟩ := r.r.own j o' ej
      have hne : b ≠ a := fun w => hj (r.r.dis j i o' o a ej e1 (w ▸ e7) e2)
      exact ⟨b, hb, e7, by rw [upd_ne hne]; exact e8, e9, by rw [upd_ne hne]; exact e10, z2.mono sm List.prefix_rfl⟩
  · rcases get_set ej with ⟨_, e', _⟩ | ⟨hj, ej⟩
    · cases e'
    rcases get_set ek with ⟨_, e', _⟩ | ⟨hk, ek⟩
    · cases e'
    exact r.r.dis j k o1 o2 b ej ek e7 e8
  · have x1 : Ext E.F E.ι E.H (upd F a ho) ι H := r.x.frz e4 hE e5
    exact x1.upd_of (fun _ => hE) fun o u z => by rw [hE] at z; cases z
  · rcases get_set ej with ⟨_, e', _⟩ | ⟨hj, ej⟩
    · cases e'
    · exact r.fr j o' b ej e7
end
section
variable {X : Cx} {cad : Str → Addr} {W : WX} {E : Ent} {rest : List Stmt} {n : MS}
theorem dss_frz (i : Nat) (h : PSs X rest (tS X.K cad W E n)) : PSs X rest (tS X.K cad W E (mSeq (mFrz i) n)) := by
  refine ⟨fun pins s σ H D I hh => ?_⟩
  obtain ⟨F, ι, μ, ρ, r, p⟩ := hh
  unfold mSeq seqR mFrz at p
  cases c : ρ[i]? with
  | none => rw [c] at p; exact p.elim
  | some sl =>
    rw [c] at p
    cases sl with
    | no => exact p.elim
    | sh d => exact h.run pins s σ H D I ⟨F, ι, μ, ρ, r, p⟩
    | own o =>
      obtain ⟨a, ho, e3, e4, e5, e6, z⟩ := r.r.own i o c
      have fin : ∀ {H' : Hp} {d : DL.D} {ho' : HO}, frzD o = some d → Inv X pins σ H' s → H' = upd H a ho' → VR X.K cad ι (upd F a ho') d (.ref a) → wpAny (model X.prog X.w) X.A (execs rest X.env) (SP X pins D) X.xe s := fun {H' d ho'} ed I' eH q => by
        simp only [ed] at p
        subst eH
        exact h.run pins s σ _ D I' ⟨_, ι, μ, _, r.frz c e3 q, PostS.ext (same_new e4) List.prefix_rfl p⟩
      cases o with
      | lst xs =>
        obtain ⟨vs, rfl, rv⟩ := z
        exact fin rfl I (upd_eq e6).symm (VR.lst_.mpr ⟨a, vs, rfl, upd_same, VRs.mono (same_new e4) List.prefix_rfl _ _ rv⟩)
      | dK kvs =>
        obtain ⟨vs, rfl, rv⟩ := z
        obtain ⟨od, I'⟩ := I.lock e6 trivial
        refine fin rfl I' rfl ?_
        unfold VR
        exact ⟨a, od, vs, rfl, upd_same, by have := rv.len; rw [List.length_map] at this ⊢; exact this, VRs.mono (same_new e4) List.prefix_rfl _ _ rv⟩
      | dT kvs =>
        obtain ⟨vs, rfl, rv⟩ := z
        obtain ⟨od, I'⟩ := I.lock e6 trivial
        refine fin rfl I' rfl ?_
        unfold VR
        exact ⟨a, od, vs, rfl, upd_same, by have := rv.len; rw [List.length_map] at this ⊢; exact this, VRs.mono (same_new e4) List.prefix_rfl _ _ rv⟩
      | ins cc fs =>
        obtain ⟨dx, vs, rfl, rv⟩ := z
        refine fin rfl I (upd_eq e6).symm ?_
        unfold VR
        exact ⟨a, dx, vs, rfl, upd_same, by have := rv.len; rw [List.length_map] at this ⊢; exact this, VRs.mono (same_new e4) List.prefix_rfl _ _ rv⟩
      | lkK _ => exact p.elim
      | lkT _ => exact p.elim
      | dead => exact p.elim
/-- a, b = x, y; a, b, c = x, y, z -/
def mPar (is : List Nat) (as : MA) : MS := fun ρ μ => (as ρ μ).bind fun ds μ1 => if ds.length = is.length then .ok (.nx, setsE is ds ρ) μ1 else .stk
theorem ds_par2 (i j : Nat) {x y : Str} {a b : Expr} {as : MA} {px py pt pos : Pos} {kt k2 pt2} (hc : X.calm = true) (hN : X.N.Nodup) (ha : PA X [a, b] (tDs X.K cad W as)) (hij : i ≠ j) (hx : X.env.scope.names.lookup x = some .local) (hy : X.env.scope.names.lookup y = some .local)
    (hw : swappedStores [.Tuple [.Name x px, .Name y py] kt pt] (.Tuple [a, b] k2 pt2) X.env = pure (some [x, y])) (hi : X.N[i]? = some x := by rfl) (hj : X.N[j]? = some y := by rfl)
    (hs : swapsWithSole [.Tuple [.Name x px, .Name y py] kt pt] (.Tuple [a, b] k2 pt2) pos.line X.env = pure false := by rfl) : PS X (.Assign [.Tuple [.Name x px, .Name y py] kt pt] (.Tuple [a, b] k2 pt2) pos) (tS X.K cad W E (mPar [i, j] as)) := by
  refine ps_imp (ps_par hc hN hi hj hij hx hy ha hw hs) fun D σ H ⟨F, ι, μ, ρ, r, h⟩ => ?_
  refine ⟨F, ι, μ, ρ, r.r, h.bind r.x fun ds μ1 F1 ι1 H1 vs _ x1 s1 q1 h1 => ?_⟩
  have r1 := r.ext x1 s1
  have q1 : VRs X.K cad ι1 F1 ds vs := q1
  match ds, q1, h1 with
  | [d, d'], q1, h1 =>
    obtain ⟨v, _, rfl, v1, q2⟩ := q1
    obtain ⟨v', _, rfl, v2, q3⟩ := q2
    cases q3
    exact ⟨v, v', rfl, h1 F1 ι1 _ H1 x1.f x1.i ((r1.set v1).set v2)⟩
  | [], _, h1 => exact h1.elim
  | [_], _, h1 => exact h1.elim
  | _ :: _ :: _ :: l, _, h1 => rw [if_neg (by simp)] at h1; exact h1.elim
theorem ds_par3 (i j l : Nat) {x y z : Str} {a b c : Expr} {as : MA} {px py pz pt pos : Pos} {kt k2 pt2} (hc : X.calm = true) (hN : X.N.Nodup) (ha : PA X [a, b, c] (tDs X.K cad W as)) (hij : i ≠ j) (hil : i ≠ l) (hjl : j ≠ l) (hx : X.env.scope.names.lookup x = some .local) (hy : X.env.scope.names.lookup y = some .local) (hz : X.env.scope.names.lookup z = some .local)
    (hw : swappedStores [.Tuple [.Name x px, .Name y py, .Name z pz] kt pt] (.Tuple [a, b, c] k2 pt2) X.env = pure (some [x, y, z])) (hi : X.N[i]? = some x := by rfl) (hj : X.N[j]? = some y := by rfl) (hl : X.N[l]? = some z := by rfl)
    (hs : swapsWithSole [.Tuple [.Name x px, .Name y py, .Name z pz] kt pt] (.Tuple [a, b, c] k2 pt2) pos.line X.env = pure false := by rfl) : PS X (.Assign [.Tuple [.Name x px, .Name y py, .Name z pz] kt pt] (.Tuple [a, b, c] k2 pt2) pos) (tS X.K cad W E (mPar [i, j, l] as)) := by
  refine ps_imp (ps_par3 hc hN hi hj hl hij hil hjl hx hy hz ha hw hs) fun D σ H ⟨F, ι, μ, ρ, r, h⟩ => ?_
  refine ⟨F, ι, μ, ρ, r.r, h.bind r.x fun ds μ1 F1 ι1 H1 vs _ x1 s1 q1 h1 => ?_⟩
  have r1 := r.ext x1 s1
  have q1 : VRs X.K cad ι1 F1 ds vs := q1
  match ds, q1, h1 with
  | [d, d', d''], q1, h1 =>
    obtain ⟨v, _, rfl, v1, q2⟩ := q1
    obtain ⟨v', _, rfl, v2, q3⟩ := q2
    obtain ⟨v'', _, rfl, v3, q4⟩ := q3
    cases q4
    exact ⟨v, v', v'', rfl, h1 F1 ι1 _ H1 x1.f x1.i (((r1.set v1).set v2).set v3)⟩
  | [], _, h1 => exact h1.elim
  | [_], _, h1 => exact h1.elim
  | [_, _], _, h1 => exact h1.elim
  | _ :: _ :: _ :: _ :: l, _, h1 => rw [if_neg (by simp)] at h1; exact h1.elim
/-- a tuple taken apart: (a, b) = e -/
def mUnp (is : List Nat) (a : ME) : MS := fun ρ μ => (toD a ρ μ).bind fun d μ1 => match gT is d ρ with
  | some ρ' => .ok (.nx, ρ') μ1
  | none => .stk
theorem ds_unp {is : List Nat} {es : List Expr} {e : Expr} {k : Nat} {tp pos : Pos} {ma : ME} (he : PE X e (tE X.K cad W ma)) (hg : PG X (.Tuple es k tp) (gTup X.K is.length (gNames is))) (hs : swapsWithSole [.Tuple es k tp] e pos.line X.env = pure false := by rfl) (hw : swappedStores [.Tuple es k tp] e X.env = pure none := by rfl)
    (h1 : (assignEach [.Tuple es k tp] X.env).map (·.2) = [assign (.Tuple es k tp) X.env] := by rfl) : PS X (.Assign [.Tuple es k tp] e pos) (tS X.K cad W E (mUnp is ma)) := by
  refine ps_imp (ps_asg (de_toD he) hg hs hw h1) fun D σ H ⟨F, ι, μ, ρ, r, h⟩ => ?_
  refine ⟨F, ι, μ, ρ, r.r, h.bind r.x fun d μ1 F1 ι1 H1 v _ x1 s1 q1 h1 => ?_⟩
  have r1 := r.ext x1 s1
  cases c : gT is d ρ with
  | none => rw [c] at h1; exact h1.elim
  | some ρ' =>
    rw [c] at h1
    exact g_tup is rfl r1.r q1 c fun σ' r' _ _ g' => h1 F1 ι1 σ' H1 x1.f x1.i (r1.of_g r' g')
end
end DL

namespace DL
open PySem PySem.Spec PyProof.Rows L2
/-! ### a def by its name -/
def Def0 (P : Program) (w : World) (K : PySem.W.Frag) (mg : Str → Option Value) (base : Heap) (cad : Str → Addr) (x : Str) (j np : Nat) (m : List D → Store → Res Rv) : Prop :=
  ∃ f fd ps, ps.length = np ∧ FnOk P w K mg base CX0 j f fd ps (spM K cad np (noX m)) ∧ mg x = some (.ref f) ∧ PySem.W.keepIn K (.ref f) = true ∧ Binds K fd ps []
theorem hU_of {A : Around} {k : Nat} (hr : Room k A) : A.units + 100 < cLine := by
  have := hr.un
  omega
theorem mk0 {P : Program} {w : World} {K : PySem.W.Frag} {mg : Str → Option Value} {base : Heap} {cad : Str → Addr} {x qual : Str} {st : Stmt} {f : Addr} {fd : FuncData} {N ps : List Str} {k : Nat} {b : MS} (F : Fun K x qual st f fd) (S : FnScope N ps (defScope st)) (hm : mg x = some (.ref f)) (hb : Binds K fd ps [])
    (hB : ∀ (cdv : Value) (A : Around) (outer : List Env) (s : Shared) (H : Hp) (E : XK) (E0 : Ent), Room k (A.deeper (envOfC qual (defScope st) s.heap.objs.size f cdv)) → PSs (cxOf CX0 P w K mg base N qual (defScope st) f cdv A outer s H E).nox (defBody st) (tS K cad WT E0 b)) :
    Def0 P w K mg base cad x (k + 1) ps.length (runB N.length ps.length b) := ⟨f, fd, ps, rfl, fn0 F S hB, hm, F.kp, hb⟩
section
variable {X : Cx} {cad : Str → Addr} {W : WX} {pos p : Pos} {e : Expr} {es : List Expr} {j k np : Nat} {m : List D → Store → Res Rv} {x : Str} {as : MA}
theorem de_callD (d : Def0 X.prog X.w X.K X.mg X.base cad x j np m) (hr : Room k X.A) (hj : j ≤ k) (hg : Gl X x) (ha : PA X (e :: es) (tDs X.K cad W as)) (hl : ∀ ρ μ ds μ1, as ρ μ = .ok ds μ1 → ds.length = np)
    (hdb : (x == ("__debug__" : Str)) = false := by decide) (he : starEach (e :: es) X.env = (false, eval e X.env) :: starEach es X.env := by rfl) (hpl : (backTo pos (starEach es X.env)).any (·.1) = false := by rfl) : PE X (.Call (.Name x p) (e :: es) [] pos) (tE X.K cad W (eCall (noX m) as)) := by
  obtain ⟨f, fd, ps, hn, G, hm, hk, hb⟩ := d
  exact de_call G (hr.mono hj) hg hm hk hb ha hn.symm hl hdb he hpl
end
/-- the law's promise from its function -/
theorem law_sp {K : PySem.W.Frag} {cad : Str → Addr} {m : List D → Store → Res Rv} {H : Hp} {a : Addr} {ns : List Int} (hS : SqL K H a (ns.map V.int)) (h : ∃ μ, m [.scr ns] [] = .ok (.sh (.bl true)) μ) : spM K cad 1 (noX m) [.ref a] H (fun v _ => v = .bl true) fun _ _ _ => False := by
  obtain ⟨μ, e⟩ := h
  refine ⟨H, [], [], [.scr ns], ⟨Same.refl _, rfl, List.nodup_nil, fun a h => by simp at h, fun n o a h => by simp at h⟩, ⟨.ref a, [], rfl, VR.scr_.mpr ⟨a, rfl, hS⟩, rfl⟩, rfl, ?_⟩
  unfold noX noXR
  rw [e]
  exact fun F' ι' H' v x s q => VR.bl_.mp (show VR K cad ι' F' (.bl true) v from q)
theorem bb_len : bootBuiltins "len" = some (.builtin "len") := by decide +kernel
theorem bb_max : bootBuiltins "max" = some (.builtin "max") := by decide +kernel
theorem bb_min : bootBuiltins "min" = some (.builtin "min") := by decide +kernel
theorem bb_sum : bootBuiltins "sum" = some (.builtin "sum") := by decide +kernel
theorem bb_sorted : bootBuiltins "sorted" = some (.builtin "sorted") := by decide +kernel
theorem bb_int : bootBuiltins "int" = some (.type "int") := by decide +kernel
theorem bb_list : bootBuiltins "list" = some (.type "list") := by decide +kernel
theorem bb_tuple : bootBuiltins "tuple" = some (.type "tuple") := by decide +kernel
end DL

namespace DL
open PySem PySem.Spec PyProof.Rows L2
/-! ### isinstance(x, T), T a built-in class -/
def Vw.ty : Vw → Option String
  | .d .non => some "NoneType"
  | .d (.bl _) => some "bool"
  | .d (.int _) => some "int"
  | .d (.str _) => some "str"
  | .d (.tup _) => some "tuple"
  | .ob (.lst _) => some "list"
  | _ => none
def isiB (a T : String) : Bool := a == T || (a == "bool" && T == "int")
def tysB : List String := ["NoneType", "bool", "int", "str", "tuple", "list"]
def clsB : List String := ["bool", "int", "str", "tuple", "list"]
theorem isi_tab : (tysB.all fun a => clsB.all fun T => decide (kitB a T = some (isiB a T))) = true := by decide +kernel
theorem isi_ok {a T : String} (h1 : a ∈ tysB) (h2 : T ∈ clsB) : kitB a T = some (isiB a T) := of_decide_eq_true (List.all_eq_true.mp (List.all_eq_true.mp isi_tab a h1) T h2)
theorem ty_mem {w : Vw} {a : String} (h : w.ty = some a) : a ∈ tysB := by
  unfold Vw.ty at h
  split at h <;> first | (cases h; decide) | cases h
def fIsi (T : String) (w : Vw) : Option Rv := w.ty.map fun a => .sh (.bl (isiB a T))
def eIsi (T : String) (m : ME) : ME := e1 (fIsi T) m
section
variable {K : PySem.W.Frag} {cad : Str → Addr} {F H : Hp} {ι : List Addr} {μ : Store}
theorem ty_ok (rs : RS K cad F ι μ H) {w : Vw} {v : V} {a : String} (h : VwR K cad F ι H w v) (e : w.ty = some a) : TyOf K H v (.type a) := by
  unfold Vw.ty at e
  split at e
  · cases e; rw [vw_non h]; exact .non
  · cases e; rw [vw_bl h]; exact .bl _
  · cases e; rw [vw_int h]; exact .int _
  · cases e; rw [vw_str h]; exact .str _
  · cases e; obtain ⟨a, vs, rfl, e1, _⟩ := vw_tup h; exact .tup (rs.sub _ _ e1)
  · cases e; obtain ⟨a, rfl, vs, e1, _⟩ := h; exact .lst e1
  · cases e
end
section
variable {X : Cx} {cad : Str → Addr} {W : WX} {pos p p2 : Pos} {e : Expr} {me : ME} {x : Str} {T : String}
theorem de_isi (hT : T ∈ clsB) (hg : Gl X "isinstance") (hm : X.mg "isinstance" = none) (hg2 : Gl X x) (hm2 : X.mg x = none) (hv : bootBuiltins x = some (.type T)) (he : PE X e (tE X.K cad W me)) (hn : x ≠ "__name__" := by decide) (hdb : (x == ("__debug__" : Str)) = false := by decide)
    (hs : starEach [e, .Name x p2] X.env = (false, eval e X.env) :: starEach [.Name x p2] X.env := by rfl) (hs2 : starEach [.Name x p2] X.env = (false, eval (.Name x p2) X.env) :: starEach [] X.env := by rfl) (hpl : (backTo pos (starEach [.Name x p2] X.env)).any (·.1) = false := by rfl) :
    PE X (.Call (.Name "isinstance" p) [e, .Name x p2] [] pos) (tE X.K cad W (eIsi T me)) := by
  refine pe_imp (pe_callB call_isi hg hm (by decide +kernel) (pa_cons he (pa_cons (pe_bltn (v := .ty T) hg2 hm2 hv rfl hn hdb) pa_nil hs2) hs) (by decide) (by decide) hs hpl) fun σ H Q h => ?_
  obtain ⟨F, ι, μ, ρ, rr, q⟩ := h
  refine ⟨F, ι, μ, ρ, rr, q.bind fun o μ1 F1 ι1 H1 v x1 s1 q1 h1 => ?_⟩
  obtain ⟨o2, e1, k⟩ := Post.of h1
  cases cx : deref ρ μ1 o with
  | none => rw [cx] at e1; cases e1
  | some w =>
    rw [cx] at e1
    unfold fIsi at e1
    cases ct : w.ty with
    | none => simp [ct] at e1
    | some a =>
      simp [ct] at e1
      subst e1
      have vw := OpV.view (rr.ext x1 s1) q1 cx
      refine ⟨v, .ty T, .type a, .type T, isiB a T, rfl, .ty T, .base (ty_ok s1 vw ct), kit_ty (isi_ok (ty_mem ct) hT), ?_⟩
      exact k F1 ι1 H1 (.bl (isiB a T)) (Ext.refl _ _ _) s1 (show VR X.K cad ι1 F1 (.bl _) _ from VR.bl_.mpr rfl)
theorem bb_bool : bootBuiltins "bool" = some (.type "bool") := by decide +kernel
theorem bb_str : bootBuiltins "str" = some (.type "str") := by decide +kernel
theorem bb_dict : bootBuiltins "dict" = some (.type "dict") := by decide +kernel
end
end DL

/-! ### sorted(d), the keys of d tuples of ints -/
namespace SrtT
open PySem PyProof.Rows Srt SrtO
section
variable {prog : Program} {w : World} {A : Around} {E : Value → Shared → Prop} {s : Shared}
/-- sorted(x) of whatever is collected to tuples of ints -/
theorem sorted_coll {x : Value} {vs : List Value} {k : Value → List Int} {Q : Value → Shared → Prop} (hz : vs.length ≤ sizeLine) (hp : ∀ v ∈ vs, TI s.heap v (k v) ∧ k v ≠ [])
    (hc : ∀ (R : List Value → Shared → Prop), (∀ (h1 : Heap) (tk : Nat), (∀ b o, s.heap.get? b = some o → h1.get? b = some o) → R vs { s with heap := h1, toks := tk }) → wpAny (model prog w) A.in1 (collect x) R (fun e s' => E e s') s)
    (h : ∀ (h1 h' : Heap) (tk : Nat) (d : Addr) (out : List Value), Srtd (fun v u => HT.lexLt (k v) (k u)) out → Stb (fun v u => HT.lexLt (k v) (k u)) out vs → (∀ b o, s.heap.get? b = some o → h1.get? b = some o) → (∀ b o, h1.get? b = some o → h'.get? b = some o) → h1.objs.size ≤ d → (∃ n, h'.get? d = some (seqObj "list" out.toArray n)) → Q (.ref d) { s with heap := h', toks := tk }) :
    wpAny (model prog w) A (call (.builtin "sorted") [x]) Q E s := by
  refine Calls.call_function_entry kind_sorted plain_sorted entry_sorted (args_sorted1 _) ?_
  unfold Builtin.«sorted»
  refine wpAny_bind (m := checkCount "sorted" 1 1 _) (wpAny_pure (wpAny_bind (hc _ fun h1 tk kp => wpAny_bind (wpAny_newList ?_ hz))))
  have ho : (h1.push (seqObj "list" vs.toArray 0)).get? h1.objs.size = some (seqObj "list" vs.toArray 0) := Heap.get?_push_size _ rfl
  have kp2 : ∀ b o, h1.get? b = some o → b ≠ h1.objs.size ∧ (h1.push (seqObj "list" vs.toArray 0)).get? b = some o := fun b o e => ⟨Nat.ne_of_lt (Heap.lt_size e), Heap.get?_push_of_some _ e⟩
  refine wpAny_bind (wpAny_holding (wpAny_call_entry slot_list_sort ⟨_, ho, rfl⟩ entry_list_sort (list_sort_ord (swo_lexLt k) ho hz (fun h2 => ?_) fun out hs hb => ⟨_, rfl, ?_⟩) (args_list_sort _)))
  · refine tups_sortable (by omega) (fun v hm => ⟨(hp v hm).1.keeps fun b o e _ => (kp2 b o (kp b o e)).2, (hp v hm).2⟩) fun o e => ?_
    have e' : some o = some (seqObj "list" vs.toArray 0) := e.symm.trans ho
    cases e'
    intro c
    exact absurd (Value.type.inj c) (by decide)
  · refine wpAny_pure ⟨_, rfl, h h1 _ _ h1.objs.size out hs hb kp (fun b o e => ?_) (Nat.le_refl _) (sortedHeap_at ho)⟩
    have hlt : b < h1.objs.size := Heap.lt_size e
    refine (sortedHeap_old (kp2 b o e).1 ?_).trans (kp2 b o e).2
    rw [size_push']
    exact Nat.lt_succ_of_lt hlt
end
end SrtT
namespace DL
open PySem PySem.Spec PyProof.Rows L2
/-- sorted(d): a new list of the keys' own tuples -/
def rSortDT (K : PySem.W.Frag) : List V → Hp → VK → Prop := fun vs H Q => ∃ (a : Addr) (kvs : List (List Key × V)) (nss : List (List Int)), vs = [V.ref a] ∧ Rd H a (.dT kvs) ∧ kvs.map (·.1) = nss.map (fun ns => ns.map Sum.inl) ∧ (∀ ns ∈ nss, ns ≠ []) ∧
  ∀ (ys : List V) (k : V → List Int) (p : Addr), (∀ y ∈ ys, ∃ t, y = V.ref t ∧ H t = some (.tup ((k y).map V.int))) → (ys.map k).Perm nss → (ys.map k).Pairwise (fun a b => HT.lexLt b a = false) → H p = none → Q (.ref p) (upd H p (.lst ys))
theorem kint_map (ns : List Int) : (ns.map (Sum.inl (β := Str))).map kV = ns.map V.int := by
  rw [List.map_map]
  rfl
/-- the ints of a tuple that is tracked -/
noncomputable def tupI (H : Hp) (u : Value) : List Int := open Classical in if h : ∃ (t : Addr) (ns : List Int), u = Value.ref t ∧ H t = some (.tup (ns.map V.int)) then h.choose_spec.choose else []
theorem map_int_inj : ∀ {l m : List Int}, l.map V.int = m.map V.int → l = m
  | [], [], _ => rfl
  | [], _ :: _, h => by cases h
  | _ :: _, [], h => by cases h
  | x :: l, y :: m, h => by
    rw [List.map_cons, List.map_cons] at h
    injection h with h1 h2
    rw [V.int.inj h1, map_int_inj h2]
theorem tupI_eq {H : Hp} {t : Addr} {ns : List Int} (e : H t = some (.tup (ns.map V.int))) : tupI H (.ref t) = ns := by
  have hh : ∃ (t' : Addr) (ns' : List Int), Value.ref t = Value.ref t' ∧ H t' = some (.tup (ns'.map V.int)) := ⟨t, ns, rfl, e⟩
  unfold tupI
  rw [dif_pos hh]
  obtain ⟨e1, e2⟩ := hh.choose_spec.choose_spec
  have e1 : t = hh.choose := Value.ref.inj e1
  have e3 := e.symm.trans ((congrArg H e1).trans e2)
  exact (map_int_inj (HO.tup.inj (Option.some.inj e3))).symm
theorem kt_all {H : Hp} : ∀ {kvs : List (List Key × V)} {xs : List (List Key × Addr × Value)} {nss : List (List Int)}, KT H kvs xs → kvs.map (·.1) = nss.map (fun ns => ns.map Sum.inl) → (xs.map fun x => tupI H (.ref x.2.1)) = nss ∧ ∀ x ∈ xs, H x.2.1 = some (.tup ((tupI H (.ref x.2.1)).map V.int))
  | [], _, [], .nil, _ => ⟨rfl, fun x hx => by simp at hx⟩
  | [], _, _ :: _, .nil, e => by cases e
  | _ :: _, _, [], .cons _ _, e => by cases e
  | p :: kvs, q :: xs, ns :: nss, .cons h t, e => by
    rw [List.map_cons, List.map_cons] at e
    injection e with e1 e2
    obtain ⟨i1, i2⟩ := kt_all t e2
    have e3 : H q.2.1 = some (.tup (ns.map V.int)) := by
      rw [← kint_map, ← e1]
      exact h.2.1
    refine ⟨by rw [List.map_cons, tupI_eq e3, i1], fun x hx => ?_⟩
    rcases List.mem_cons.mp hx with z | z
    · rw [z, tupI_eq e3]
      exact e3
    · exact i2 x z
section
variable {X : Cx}
theorem cr_sortDT (hcalm : X.calm = true) : CallR X (.builtin "sorted") (rSortDT X.K) := by
  intro pins s σ H vs us Q I r h
  obtain ⟨a, kvs, nss, rfl, hd, hk, hne, q⟩ := h
  obtain ⟨u, rfl, ru⟩ := vals1 r
  obtain rfl : u = Value.ref a := ru
  obtain ⟨z, lo, xs, rel, o, es, ep, d1, d2, d3, d4, d5, d6⟩ := dt_rd I.hok hd
  obtain ⟨k1, k2⟩ := kt_all rel hk
  let ks : List Value := xs.map fun x => Value.ref x.2.1
  have hes : es.size = ks.length := by
    rw [← Array.length_toList, d4, List.length_map, List.length_map]
  have hln : ks.length ≤ sizeLine := by
    rw [List.length_map, ← Paired.length rel]
    exact z
  refine SrtT.sorted_coll (vs := ks) (k := tupI H) hln (fun v hv => ?_) (fun R hR => ?_) fun h1 h' tk d out s1 s2 kp1 kp2 hle hat => ?_
  · obtain ⟨x, hx, rfl⟩ := List.mem_map.mp hv
    have e := k2 x hx
    obtain ⟨_, its, r2, pt⟩ := I.hok _ _ e
    refine ⟨⟨x.2.1, its.toArray, rfl, pt, (show IntsAre its.toArray.toList _ by rw [List.toList_toArray]; exact Vals.ints r2)⟩, hne _ ?_⟩
    rw [← k1]
    exact List.mem_map.mpr ⟨x, hx, rfl⟩
  · refine PySem.W.kdu_collect (KdlSrc.rawDict (es := es) (ep := ep) lo) (I.ok.hd hcalm) ⟨o, d1, d2, d3⟩ (by rw [hes]; exact hln) fun h1 tk acc kp hacc => ?_
    have : acc.toList = ks := by
      refine List.ext_getElem? fun j => ?_
      have hl : acc.size = ks.length := hacc.1.trans hes
      by_cases hj : j < acc.size
      · have e1 : acc[j]? = some acc[j] := Array.getElem?_eq_getElem hj
        obtain ⟨hi, e2⟩ := hacc.2 j _ e1
        have e3 : es.toList[j]? = some es[j] := by rw [Array.getElem?_toList]; exact Array.getElem?_eq_getElem hi
        rw [d4, List.getElem?_map] at e3
        cases c : xs[j]? with
        | none => rw [c] at e3; cases e3
        | some x =>
          rw [c] at e3
          have e4 : es[j].key = Value.ref x.2.1 := by
            rw [← Option.some.inj e3]
            rfl
          rw [Array.getElem?_toList, e1, e2, e4]
          show _ = (xs.map fun x => Value.ref x.2.1)[j]?
          rw [List.getElem?_map, c]
          rfl
      · rw [Array.getElem?_toList, Array.getElem?_eq_none (by omega), List.getElem?_eq_none (by omega)]
    rw [this]
    exact hR h1 tk kp
  · have I1 : Inv X pins σ H { s with heap := h1, toks := tk } := I.kept kp1
    have hm : ∀ u ∈ out, ∃ x ∈ xs, u = Value.ref x.2.1 := fun u hu => by
      obtain ⟨x, hx, e⟩ := List.mem_map.mp (s2.perm.mem_iff.mp hu)
      exact ⟨x, hx, e.symm⟩
    have hb : ∀ u ∈ out, ∃ a, u = Value.ref a := fun u hu => by
      obtain ⟨x, _, e⟩ := hm u hu
      exact ⟨_, e⟩
    obtain ⟨n, hat⟩ := hat
    let kk : V → List Int := fun v => match v with | .ref t => tupI H (.ref t) | _ => []
    have ek : (out.map backV).map kk = out.map (tupI H) := by
      rw [List.map_map]
      refine List.map_congr_left fun u hu => ?_
      obtain ⟨x, _, rfl⟩ := hm u hu
      rfl
    refine ⟨.ref d, upd H d (.lst (out.map backV)), I1.laid (t' := tk) kp2 hle ⟨?_, out, n, vals_back hb, hat⟩, rfl, q _ kk d (fun y hy => ?_) ?_ ?_ (I1.hok.fresh hle)⟩
    · rw [List.length_map, s2.perm.length_eq]
      exact hln
    · obtain ⟨u, hu, rfl⟩ := List.mem_map.mp hy
      obtain ⟨x, hx, rfl⟩ := hm u hu
      exact ⟨x.2.1, rfl, k2 x hx⟩
    · rw [ek, ← k1]
      have := s2.perm.map (tupI H)
      rwa [List.map_map] at this
    · rw [ek, List.pairwise_map]
      exact s1
end
/-! several tuples come to be known -/
theorem know_tups {K : PySem.W.Frag} {cad : Str → Addr} {ι : List Addr} {μ : Store} {H : Hp} {k : V → List Int} : ∀ {ys : List V} {F : Hp}, RS K cad F ι μ H → (∀ y ∈ ys, ∃ t, y = V.ref t ∧ H t = some (.tup ((k y).map V.int))) →
    ∃ F2, Ext F ι H F2 ι H ∧ RS K cad F2 ι μ H ∧ ∀ y ∈ ys, ∃ t, y = V.ref t ∧ F2 t = some (.tup ((k y).map V.int))
  | [], F, rs, _ => ⟨F, Ext.refl _ _ _, rs, fun y hy => by simp at hy⟩
  | y :: ys, F, rs, h => by
    obtain ⟨F1, x1, r1, h1⟩ := know_tups rs fun z hz => h z (List.mem_cons_of_mem _ hz)
    obtain ⟨t, e1, e2⟩ := h y List.mem_cons_self
    obtain ⟨F2, x2, r2, e3, sm⟩ := know_tup r1 e2
    refine ⟨F2, x1.trans x2, r2, fun z hz => ?_⟩
    rcases List.mem_cons.mp hz with w | w
    · rw [w]
      exact ⟨t, e1, e3⟩
    · obtain ⟨t', f1, f2⟩ := h1 z w
      exact ⟨t', f1, sm _ _ f2⟩
end DL

namespace DL
open PySem PySem.Spec PyProof.Rows L2
/-! ### dict(pairs), the keys tuples -/
def mergeT (kvs more : List (List Key × V)) : List (List Key × V) := more.foldl (fun acc kv => putK acc kv.1 kv.2) kvs
def PairT (H : Hp) (p : Addr) (kv : List Key × V) : Prop := ∃ b, H p = some (.tup [.ref b, kv.2]) ∧ H b = some (.tup (kv.1.map kV))
def rDictT (K : PySem.W.Frag) : List V → Hp → VK → Prop := fun xs H Q => ∃ (a : Addr) (ps : List Addr) (kvs : List (List Key × V)), xs = [.ref a] ∧ SqL K H a (ps.map V.ref) ∧ Paired (PairT H) ps kvs ∧ ∀ p, H p = none → Q (.ref p) (upd H p (.dT (mergeT [] kvs)))
theorem mergeT_len : ∀ (more kvs : List (List Key × V)), (mergeT kvs more).length ≤ kvs.length + more.length
  | [], kvs => Nat.le_refl _
  | kv :: more, kvs => by
    have h1 := mergeT_len more (putK kvs kv.1 kv.2)
    have h2 := length_putK kvs kv.1 kv.2
    show (mergeT (putK kvs kv.1 kv.2) more).length ≤ _
    rw [List.length_cons]
    omega
theorem merge_KT {H : Hp} : ∀ {more : List (List Key × V)} {ms : List (List Key × Addr × Value)} {kvs : List (List Key × V)} {xs : List (List Key × Addr × Value)}, KT H more ms → KT H kvs xs → KT H (mergeT kvs more) (storedAllH xs ms)
  | [], _, kvs, xs, .nil, h => h
  | kv :: more, m :: ms, kvs, xs, .cons hm t, h => by
    obtain ⟨e1, e2, e3⟩ := hm
    show KT H (mergeT (putK kvs kv.1 kv.2) more) (storedAllH (storedH xs m.1 m.2.1 m.2.2) ms)
    rw [← e1]
    exact merge_KT t (h.put kv.1 e2 e3)
section
variable {X : Cx}
theorem pairs_T {pins : List (Addr × Obj)} {σ : L2.St} {H : Hp} {s : Shared} (I : Inv X pins σ H s) : ∀ {ps : List Addr} {kvs : List (List Key × V)}, Paired (PairT H) ps kvs → ∃ ms : List (List Key × Addr × Value), KT H kvs ms ∧ Paired (fun (p : Addr) (m : List Key × Addr × Value) => IsTup s.heap p #[.ref m.2.1, m.2.2]) ps ms
  | [], _, .nil => ⟨[], .nil, .nil⟩
  | p :: ps, kv :: kvs, .cons h t => by
    obtain ⟨ms, r1, r2⟩ := pairs_T I t
    obtain ⟨b, e1, e2⟩ := h
    obtain ⟨_, its, rv, pt⟩ := I.hok _ _ e1
    obtain ⟨u1, u2, rfl, q1, q2⟩ := rv.two
    cases (show u1 = Value.ref b from q1)
    exact ⟨(kv.1, b, u2) :: ms, .cons ⟨rfl, e2, q2⟩ r1, .cons pt r2⟩
theorem paired_at {α β : Type} {P : α → β → Prop} : ∀ {l : List α} {m : List β} {j : Nat} {b : β}, Paired P l m → m[j]? = some b → ∃ a, l[j]? = some a ∧ P a b
  | [], _, j, b, .nil, e => by simp at e
  | a :: l, c :: m, 0, b, .cons h t, e => by
    simp at e
    subst e
    exact ⟨a, rfl, h⟩
  | a :: l, c :: m, j + 1, b, .cons h t, e => by
    simp only [List.getElem?_cons_succ] at e ⊢
    exact paired_at t e
theorem cr_dictT (hcalm : X.calm = true) (hu : X.A.units + 100 < cLine) : CallR X (.type "dict") (rDictT X.K) := by
  intro pins s σ H vs us Q I r h
  obtain ⟨a, ps, kvs, rfl, hs, hp, q⟩ := h
  obtain ⟨u, rfl, ru⟩ := vals1 r
  obtain rfl : u = Value.ref a := ru
  obtain ⟨its, rv, pl, hz⟩ := I.list hs
  obtain ⟨ms, r1, r2⟩ := pairs_T I hp
  have el : ps.length = ms.length := Paired.length r2
  have ek : kvs.length = ms.length := Paired.length r1
  rw [List.length_map] at hz
  have hits : its = ps.map Value.ref := by
    have key : ∀ {ps : List Addr} {its : List Value}, Vals (ps.map V.ref) its → its = ps.map Value.ref := fun {ps its} h => by
      induction ps generalizing its with
      | nil => cases h; rfl
      | cons p ps ih =>
        cases h with
        | cons h t =>
          rw [ih t, List.map_cons]
          congr 1
    exact key rv
  let prs : List (Value × Value) := ms.map fun m => (Value.ref m.2.1, m.2.2)
  have hpl : prs.length = ms.length := List.length_map ..
  have arg := PairArg.list (prog := X.prog) (w := X.w) a its.toArray (fun j => ps.getD j 0) prs
  refine call_dict_pairsH (knd := tupleKind (mixKind X.prog X.w)) (ps := ms) arg (I.ok.hd hcalm) (tupleKind_room_in1 (show X.A.in1.units + 1 < cLine from ?_)) ⟨pl, ?_, fun j k v e => ?_⟩ ⟨hpl.symm, fun i key v e => ?_⟩ (fun h' kp x hx => ?_) (by rw [hpl, ← el]; exact hz) fun h' tk dd kp => ?_
  · have : X.A.in1.units ≤ X.A.units + 1 := by first | exact Nat.le_refl _ | (show X.A.units + 1 ≤ X.A.units + 1; exact Nat.le_refl _)
    omega
  · rw [List.size_toArray, hits, List.length_map, hpl, el]
  · rw [List.getElem?_map] at e
    cases c : ms[j]? with
    | none => rw [c] at e; cases e
    | some m =>
      rw [c] at e
      cases e
      obtain ⟨p, e1, e2⟩ := paired_at r2 c
      have e3 : ps.getD j 0 = p := by rw [List.getD_eq_getElem?_getD, e1]; rfl
      refine ⟨?_, .inl ?_⟩
      · show its.toArray[j]? = some (Value.ref (ps.getD j 0))
        rw [e3, List.getElem?_toArray, hits, List.getElem?_map, e1]
        rfl
      · show s.heap.IsTuple (ps.getD j 0) _
        rw [e3]
        exact e2
  · have e : (ms.map fun m => (Value.ref m.2.1, m.2.2))[i]? = some (key, v) := e
    rw [List.getElem?_map] at e
    cases c : ms[i]? with
    | none => rw [c] at e; cases e
    | some m =>
      rw [c] at e
      cases e
      exact ⟨m.1, m.2.1, rfl, rfl⟩
  · obtain ⟨j, hj, e⟩ := List.getElem_of_mem hx
    obtain ⟨kv, e1, e2, e3, _⟩ := paired_at r1 (by rw [List.getElem?_eq_getElem hj, e])
    obtain ⟨o, its2, n, k1, k2, k3, k4⟩ := key_of I.hok e3
    rw [← e2]
    exact ⟨o, its2, n, kp _ _ (Nat.ne_of_lt (Heap.lt_size k1)) (by simp) k1, k2, k3, k4⟩
  · obtain ⟨o, es, ep, d1, d2, d3, d4, d5, d6⟩ := dd
    have hm : (s.heap.objs.size == sysModules) = false := beq_eq_false_iff_ne.mpr (Nat.ne_of_gt I.big)
    have hn := I.hok.fresh (Nat.le_refl s.heap.objs.size)
    refine ⟨.ref s.heap.objs.size, upd H s.heap.objs.size (.dT (mergeT [] kvs)), I.laid (t' := tk) (fun b o e => kp b o (by simp) e) (Nat.le_refl _) ⟨?_, hm, _, (merge_KT r1 .nil).keeps fun c ys ec => ?_, o, es, ep, d1, d2, d3, d4, d6⟩, rfl, q _ hn⟩
    · have := mergeT_len kvs []
      rw [List.length_nil, Nat.zero_add] at this
      exact Nat.le_trans this (by rw [ek, ← el]; exact hz)
    · rw [upd_ne (ne_of_none ec hn)]
      exact ec
end
end DL

namespace DL
open PySem PySem.Spec PyProof.Rows L2
/-! ### d != {}, the keys of d tuples -/
section
variable {prog : Program} {w : World} {A : Around} {E : Value → Shared → Prop} {s : Shared}
theorem pairs_none {nm : String} {a b : Addr} {oa ob : Obj} {es : Array DictEntry} {ep ep' : Nat} {Q : Bool → Shared → Prop} (ha : (a == sysModules) = false) (hb : (b == sysModules) = false) (e1 : s.heap.get? a = some oa) (e2 : oa.data = .dict es ep) (e3 : s.heap.get? b = some ob) (e4 : ob.data = .dict #[] ep')
    (h : Q (decide (es.size = 0)) s) : wpAny (model prog w) A (Builtin.Dict.samePairs nm a b) Q E s := by
  unfold Builtin.Dict.samePairs Builtin.Dict.showsAll
  rw [if_neg (by rw [ha]; exact Bool.false_ne_true), if_neg (by rw [hb]; exact Bool.false_ne_true)]
  refine wpAny_bind (wpAny_pure (wpAny_bind (wpAny_pure (wpAny_bind (wpAny_dictEntries e1 e2 ?_)))))
  dsimp only
  refine wpAny_bind (wpAny_dictEntries e3 e4 ?_)
  by_cases hz : es.size = 0
  · rw [decide_eq_true hz] at h
    rw [if_neg (by rw [hz]; simp)]
    refine wpAny_bind (wpAny_dictEpoch e1 e2 (wpAny_bind ?_))
    rw [Std.Legacy.Range.forIn_eq_forIn_range']
    simp only [Std.Legacy.Range.size, Nat.sub_zero, Nat.add_sub_cancel, Nat.div_one, hz]
    exact wpAny_pure (wpAny_pure h)
  · rw [decide_eq_false hz] at h
    rw [if_pos (by simpa using hz)]
    exact wpAny_bind (wpAny_rule (wpAny_pure h))
end
def rNe0 : R2 := fun x y H Q => ∃ (a b : Addr) (kvs : List (List Key × V)), x = .ref a ∧ y = .ref b ∧ Rd H a (.dT kvs) ∧ Rd H b (.dK []) ∧ Q (.bl (!kvs.isEmpty)) H
theorem op_ne0 {X : Cx} (hu : X.A.units + 100 < cLine) : OpR X (compareOp .NotEq) rNe0 := by
  intro pins s σ H x y v u Q I rx ry h
  obtain ⟨a, b, kvs, rfl, rfl, ea, eb, q⟩ := h
  obtain rfl : v = Value.ref a := rx
  obtain rfl : u = Value.ref b := ry
  obtain ⟨z, ya, xs, rel, da⟩ := dt_rd I.hok ea
  obtain ⟨_, yb, vb, rb, db⟩ := dk_rd I.hok eb
  obtain ⟨o, es, ep, d1, d2, d3, d4, d5, d6⟩ := id da
  obtain ⟨o', es', ep', f1, f2, f3, f4, f5, f6⟩ := id db
  have hes : es.size = kvs.length := by rw [← Array.length_toList, d4, List.length_map, ← Paired.length rel]
  have hvb : vb = [] := List.eq_nil_of_length_eq_zero (by rw [← rb.length]; rfl)
  have hes' : es' = #[] := by
    have : es'.toList = [] := by
      have := f5.length
      rw [hvb] at this
      exact List.eq_nil_of_length_eq_zero this
    exact Array.toList_eq_nil_iff.mp this
  subst hes'
  refine wpAny_richCompare_same_room (op := .NotEq) da.typeIs db.typeIs PySem.F.slot_dict_ne (wpAny_call_entry PySem.F.slot_dict_ne da.typeIs PySem.F.entry_dict_ne ?_ (PySem.F.args_dict_ne_2 _ _)) (by omega)
  show wpAny _ _ (Builtin.Dict.dictSlotArgs "__ne__" ⟨[.ref a, .ref b], []⟩ >>= _) _ _ s
  refine wpAny_bind ?_
  unfold Builtin.Dict.dictSlotArgs
  refine wpAny_bind (wpAny_notOrdered_dict da.typeIs (wpAny_pure (wpAny_bind (wpAny_isInstance (T := "dict") db.typeIs PySem.F.sub_dict_dict ?_))))
  simp only [Bool.not_true, Bool.false_eq_true, if_false]
  refine wpAny_bind (wpAny_pure (wpAny_bind (wpAny_pure (wpAny_bind (pairs_none ya yb d1 d3 f1 f3 ?_)))))
  refine wpAny_pure ⟨_, rfl, fun x => (nomatch x), ?_⟩
  have e : (decide (es.size = 0) == false) = !kvs.isEmpty := by
    rw [hes]
    cases kvs <;> simp
  rw [e]
  exact ⟨.bl _, H, I, rfl, q⟩
def fNeB : Vw → Vw → Option Rv
  | .ob (.dT kvs), .ob (.dK []) => some (.sh (.bl (!kvs.isEmpty)))
  | x, y => fNe x y
def rNeB (K : PySem.W.Frag) : R2 := fun x y H Q => rNeD K x y H Q ∨ rNe0 x y H Q
theorem op_neB {X : Cx} (hu : X.A.units + 100 < cLine) : OpR X (compareOp .NotEq) (rNeB X.K) := (op_neA hu).or (op_ne0 hu)
section
variable {K : PySem.W.Frag} {cad : Str → Addr}
theorem sd_neB : Sd2 K cad (rNeB K) fNeB := by
  intro F ι μ H wx wy vx vy rv Q rs hx hy e k
  unfold fNeB at e
  split at e
  · next kvs =>
    cases e
    obtain ⟨a, rfl, us, e1, r1⟩ := hx
    obtain ⟨b, rfl, ws, e2, r2⟩ := hy
    refine .inr ⟨a, b, _, rfl, rfl, e1, e2, ?_⟩
    have : ((kvs.map (·.1)).zip us).isEmpty = kvs.isEmpty := by
      cases kvs with
      | nil => rfl
      | cons p kvs =>
        obtain ⟨u, us, rfl, _, _⟩ := r1
        rfl
    rw [this]
    exact fin_bl rs k
  · exact .inl (sd_ne rs hx hy e k)
end
/-! ### len, sorted: dicts with tuple keys too -/
def fLenB : List Vw → Option Rv
  | [.ob (.dT kvs)] => some (.sh (.int kvs.length))
  | ws => fLen ws
def rLenB (K : PySem.W.Frag) : List V → Hp → VK → Prop := fun xs H Q => rLenA K xs H Q ∨ ∃ a kvs, xs = [.ref a] ∧ Rd H a (.dT kvs) ∧ Q (.int kvs.length) H
theorem call_lenB {X : Cx} : CallR X (.builtin "len") (rLenB X.K) := call_lenA.or (by
  intro pins s σ H xs us Q I r h
  obtain ⟨p, kvs, rfl, hp, q⟩ := h
  obtain ⟨u, rfl, rx⟩ := vals1 r
  obtain rfl : u = .ref p := rx
  obtain ⟨z, hd, ys, rel, dd⟩ := dt_rd I.hok hp
  have hl : kvs.length = ys.length := Paired.length rel
  refine call_len_dictH hd dd (by rw [← hl]; rw [sizeLine_eq] at z; omega) ?_
  rw [← hl]
  exact ⟨.int kvs.length, H, I.tok _, ⟨_, rfl⟩, q⟩)
/-- the ints of keys -/
def keyIntss : List (List Key) → Option (List (List Int))
  | [] => some []
  | k :: r => (keyInts k).bind fun ns => if ns = [] then none else (keyIntss r).map (ns :: ·)
def fSrt : List Vw → Option Rv
  | [.ob (.dT kvs)] => (keyIntss (kvs.map (·.1))).map fun nss => .own (.lst ((sortL nss).map intsD))
  | ws => fSorted ws
def rSrt (K : PySem.W.Frag) : List V → Hp → VK → Prop := fun vs H Q => rSortA K vs H Q ∨ rSortDT K vs H Q
theorem cr_srt {X : Cx} (hc : X.calm = true) : CallR X (.builtin "sorted") (rSrt X.K) := (cr_sortA hc).or (cr_sortDT hc)
theorem keyIntss_ok : ∀ {ks : List (List Key)} {nss : List (List Int)}, keyIntss ks = some nss → ks = nss.map (fun ns => ns.map Sum.inl) ∧ ∀ ns ∈ nss, ns ≠ []
  | [], _, e => by cases e; exact ⟨rfl, fun ns h => by simp at h⟩
  | k :: ks, nss, e => by
    have e : ((keyInts k).bind fun ns => if ns = [] then none else (keyIntss ks).map (ns :: ·)) = some nss := e
    cases c : keyInts k with
    | none => rw [c] at e; cases e
    | some ns =>
      rw [c] at e
      have e : (if ns = [] then none else (keyIntss ks).map (ns :: ·)) = some nss := e
      by_cases hn : ns = []
      · rw [if_pos hn] at e; cases e
      · rw [if_neg hn] at e
        cases c2 : keyIntss ks with
        | none => rw [c2] at e; cases e
        | some nss' =>
          rw [c2] at e
          cases e
          obtain ⟨i1, i2⟩ := keyIntss_ok c2
          refine ⟨by rw [List.map_cons, ← i1, ← keyInts_ok c], fun x hx => ?_⟩
          rcases List.mem_cons.mp hx with z | z
          · rw [z]; exact hn
          · exact i2 x z
section
variable {K : PySem.W.Frag} {cad : Str → Addr}
theorem sd_lenB : SdB K cad (rLenB K) fLenB := by
  intro F ι μ H ws vs rv Q rs hw e q
  unfold fLenB at e
  split at e
  · next kvs =>
    cases e
    obtain ⟨v, rfl, a, rfl, us, e1, r⟩ := pr1 hw
    refine .inr ⟨a, _, rfl, e1, ?_⟩
    rw [zip_len r]
    exact fin_int rs q
  · exact .inl (sd_len rs hw e q)
theorem sd_srt : SdB K cad (rSrt K) fSrt := by
  intro F ι μ H ws vs rv Q rs hw e q
  unfold fSrt at e
  split at e
  · next kvs =>
    cases c : keyIntss (kvs.map (·.1)) with
    | none => simp [c] at e
    | some nss =>
      simp [c] at e
      subst e
      obtain ⟨v, rfl, a, rfl, us, e1, r⟩ := pr1 hw
      obtain ⟨k1, k2⟩ := keyIntss_ok c
      have lk : (kvs.map (·.1)).length = us.length := by
        have := r.len
        rw [List.length_map] at this ⊢
        exact this
      refine .inr ⟨a, _, nss, rfl, e1, by rw [List.map_fst_zip (by omega)]; exact k1, k2, fun ys k p h1 h2 h3 hp => ?_⟩
      obtain ⟨F2, x2, r2, h4⟩ := know_tups rs h1
      have e3 : ys.map k = sortL nss := sorted_uniq h3 (sortL_sorted nss) (h2.trans (sortL_perm nss).symm)
      have h5 : VRs K cad ι F2 ((ys.map k).map intsD) ys := by
        clear e3 h2 h3
        induction ys with
        | nil => rfl
        | cons y ys ih =>
          obtain ⟨t, f1, f2⟩ := h4 y List.mem_cons_self
          exact ⟨y, ys, rfl, VR.tup_.mpr ⟨t, _, f1, f2, ints_D⟩, ih (fun z hz => h1 z (List.mem_cons_of_mem _ hz)) fun z hz => h4 z (List.mem_cons_of_mem _ hz)⟩
      rw [e3] at h5
      refine q F2 ι _ _ (x2.trans (Ext.newH hp)) (r2.newH hp) ⟨p, _, rfl, (r2.fresh hp).1, (r2.fresh hp).2, hp, upd_same, _, rfl, h5⟩
  · exact .inl (sd_sorted rs hw e q)
end
/-! ### dict(pairs) -/
def pairsT : List D → Option (List (List Key × D))
  | [] => some []
  | .tup [.tup ks, v] :: r => (D.keys ks).bind fun k => (pairsT r).map ((k, v) :: ·)
  | _ => none
def mergeD {κ : Type} [DecidableEq κ] (kvs more : List (κ × D)) : List (κ × D) := more.foldl (fun acc kv => putD acc kv.1 kv.2) kvs
def fDictT : List Vw → Option Rv
  | [.ob (.lst ds)] => (pairsT ds).map fun ps => .own (.dT (mergeD [] ps))
  | _ => none
section
variable {K : PySem.W.Frag} {cad : Str → Addr} {F H : Hp} {ι : List Addr} {μ : Store}
theorem pairsT_ok (hs : Same F H) : ∀ {ds : List D} {vs : List V} {ps : List (List Key × D)}, VRs K cad ι F ds vs → pairsT ds = some ps → ∃ (as : List Addr) (us : List V), vs = as.map V.ref ∧ VRs K cad ι F (ps.map (·.2)) us ∧ Paired (PairT H) as ((ps.map (·.1)).zip us)
  | [], _, _, h, e => by
    cases e
    cases h
    exact ⟨[], [], rfl, rfl, .nil⟩
  | d :: ds, _, ps, h, e => by
    obtain ⟨v, vs, rfl, r, t⟩ := h
    unfold pairsT at e
    split at e
    · next heq => cases heq
    · next ks d' r' heq =>
      cases heq
      cases c : D.keys ks with
      | none => rw [c] at e; cases e
      | some k =>
        cases c2 : pairsT ds with
        | none => simp [c, c2] at e
        | some ps' =>
          simp [c, c2] at e
          subst e
          obtain ⟨as, us, rfl, i2, i3⟩ := pairsT_ok hs t c2
          obtain ⟨p, ws, rfl, e1, rw'⟩ := VR.tup_.mp r
          obtain ⟨w1, _, rfl, q1, rw'⟩ := rw'
          obtain ⟨w2, _, rfl, q2, rw'⟩ := rw'
          cases rw'
          obtain ⟨b, zs, rfl, e2, rz⟩ := VR.tup_.mp q1
          rw [keys_VRs rz c] at e2
          exact ⟨p :: as, w2 :: us, rfl, ⟨w2, us, rfl, q2, i2⟩, .cons ⟨b, hs _ _ e1, hs _ _ e2⟩ i3⟩
    · cases e
theorem merge_zip : ∀ {more kvs : List (List Key × D)} {us ws : List V}, VRs K cad ι F (kvs.map (·.2)) us → VRs K cad ι F (more.map (·.2)) ws → ∃ us', mergeT ((kvs.map (·.1)).zip us) ((more.map (·.1)).zip ws) = ((mergeD kvs more).map (·.1)).zip us' ∧ VRs K cad ι F ((mergeD kvs more).map (·.2)) us'
  | [], kvs, us, ws, h, t => by
    cases t
    exact ⟨us, rfl, h⟩
  | kv :: more, kvs, us, ws, h, t => by
    obtain ⟨w, ws, rfl, q, t⟩ := t
    obtain ⟨us1, e1, r1⟩ := zip_put kv.1 q h
    obtain ⟨us2, e2, r2⟩ := merge_zip r1 t
    refine ⟨us2, ?_, r2⟩
    show mergeT (putK ((kvs.map (·.1)).zip us) kv.1 w) ((more.map (·.1)).zip ws) = _
    rw [e1]
    exact e2
theorem sd_dictT : SdB K cad (rDictT K) fDictT := by
  intro F ι μ H ws vs rv Q rs hw e q
  match ws, hw, e with
  | [.ob (.lst ds)], hw, e =>
    obtain ⟨v, rfl, a, rfl, us, e1, r⟩ := pr1 hw
    have e : (pairsT ds).map (fun ps => Rv.own (.dT (mergeD [] ps))) = some rv := e
    cases c : pairsT ds with
    | none => rw [c] at e; cases e
    | some ps =>
      rw [c] at e
      cases e
      obtain ⟨as, ws, rfl, i2, i3⟩ := pairsT_ok rs.sub r c
      refine ⟨a, as, _, rfl, SqL.of e1, i3, fun p hp => ?_⟩
      obtain ⟨us', e2, r2⟩ := merge_zip (kvs := []) (us := []) rfl i2
      have e2 : mergeT [] ((ps.map (·.1)).zip ws) = _ := e2
      rw [e2]
      exact fin_own rs q hp ⟨us', rfl, r2⟩
end
end DL

namespace DL
open PySem PySem.Spec PyProof.Rows L2
/-! ### d.get(k), d.get(k, x) -/
def Vw.isD : Vw → Bool
  | .ob (.dK _) => true
  | .ob (.dT _) => true
  | _ => false
def isDat (ρ : Ev) (μ : Store) (o : Op) : Bool := match deref ρ μ o with
  | some w => w.isD
  | none => false
def getAt (ρ : Ev) (μ : Store) (o : Op) (k : D) : Option (Option D) := (deref ρ μ o).bind fun w => (k.vw μ).bind fun wk => fGet w wk
def getR (μ : Store) (dx : D) : Option (Option D) → Res Op
  | some r => .ok (.sh (r.getD dx)) μ
  | none => .stk
def eGet1 (o k : ME) : ME := fun ρ μ => (o ρ μ).bind fun oo μ1 => if isDat ρ μ1 oo = true then (toD k ρ μ1).bind fun dk μ2 => getR μ2 .non (getAt ρ μ2 oo dk) else .stk
def eGet2 (o k x : ME) : ME := fun ρ μ => (o ρ μ).bind fun oo μ1 => if isDat ρ μ1 oo = true then (toD k ρ μ1).bind fun dk μ2 => (toD x ρ μ2).bind fun dx μ3 => getR μ3 dx (getAt ρ μ3 oo dk) else .stk
section
variable {X : Cx} {cad : Str → Addr} {W : WX} {apos cpos : Pos} {o e f : Expr} {mo me mf : ME}
theorem isDat_ok {K : PySem.W.Frag} {F H H0 : Hp} {ι : List Addr} {μ : Store} {ρ : Ev} {σ : L2.St} (r : R K cad F ι μ ρ σ H) {oo : Op} {v : V} (q : OpV K cad ρ σ H0 F ι H oo v) (h : isDat ρ μ oo = true) : ∃ a, v = .ref a ∧ IsD H a := by
  unfold isDat at h
  cases c : deref ρ μ oo with
  | none => rw [c] at h; cases h
  | some w =>
    rw [c] at h
    have vw := q.view r c
    cases w with
    | d x => cases h
    | ob ob =>
      obtain ⟨a, rfl, z⟩ := vw
      cases ob with
      | dK kvs => obtain ⟨vs, e1, _⟩ := z; exact ⟨a, rfl, .inl ⟨_, e1⟩⟩
      | dT kvs => obtain ⟨vs, e1, _⟩ := z; exact ⟨a, rfl, .inr ⟨_, e1⟩⟩
      | _ => cases h
theorem getAt_ok {K : PySem.W.Frag} {F H H0 : Hp} {ι : List Addr} {μ : Store} {ρ : Ev} {σ : L2.St} (r : R K cad F ι μ ρ σ H) {oo : Op} {v vk : V} {k : D} {g : Option D} (q : OpV K cad ρ σ H0 F ι H oo v) (qk : VR K cad ι F k vk) (h : getAt ρ μ oo k = some g) : ∃ a u, v = .ref a ∧ DGet H a vk u ∧ OptR K cad ι F g u := by
  unfold getAt at h
  cases c : deref ρ μ oo with
  | none => rw [c] at h; cases h
  | some w =>
    cases c2 : k.vw μ with
    | none => simp [c, c2] at h
    | some wk =>
      simp only [c, c2, Option.bind_some] at h
      exact fGet_ok r.rs (q.view r c) (VR.view r.rs qk c2) h
theorem OptR.getD {K : PySem.W.Frag} {F : Hp} {ι : List Addr} {g : Option D} {u : Option V} {d : D} {v : V} (h : OptR K cad ι F g u) (q : VR K cad ι F d v) : VR K cad ι F (g.getD d) (u.getD v) := by
  cases g <;> cases u <;> first | exact q | exact h | exact h.elim
theorem de_get1 (hu : X.A.units + 100 < cLine) (ho : PE X o (tE X.K cad W mo)) (he : PE X e (tE X.K cad W me)) (m : M1 X o "get" apos e cpos := by exact ⟨rfl, rfl, rfl, rfl⟩) : PE X (.Call (.Attribute o "get" apos) [e] [] cpos) (tE X.K cad W (eGet1 mo me)) := by
  refine pe_imp (pe_dget1 (by omega) ho (de_toD he) m) fun σ H Q ⟨F, ι, μ, ρ, r, q⟩ => ?_
  refine ⟨F, ι, μ, ρ, r, q.bind fun oo μ1 F1 ι1 H1 v x1 s1 q1 h1 => ?_⟩
  have r1 := r.ext x1 s1
  by_cases c : isDat ρ μ1 oo = true
  · rw [if_pos c] at h1
    obtain ⟨a, rfl, z⟩ := isDat_ok r1 q1 c
    refine ⟨a, rfl, z, F1, ι1, μ1, ρ, r1, h1.bind fun dk μ2 F2 ι2 H2 vk x2 s2 q2 h2 => ?_⟩
    have r2 := r1.ext x2 s2
    have q2 : VR X.K cad ι2 F2 dk vk := q2
    cases cg : getAt ρ μ2 oo dk with
    | none => rw [cg] at h2; exact h2.elim
    | some g =>
      rw [cg] at h2
      obtain ⟨a', u, e1, g1, g2⟩ := getAt_ok r2 (OpV.mono (H1 := H1) x2 q1) q2 cg
      cases e1
      exact ⟨u, g1, h2 F2 ι2 H2 _ (Ext.refl _ _ _) s2 (show VR X.K cad ι2 F2 _ _ from g2.getD (VR.non_.mpr rfl))⟩
  · rw [if_neg c] at h1
    exact h1.elim
theorem de_get2 (hu : X.A.units + 100 < cLine) (ho : PE X o (tE X.K cad W mo)) (he : PE X e (tE X.K cad W me)) (hf : PE X f (tE X.K cad W mf)) (m : M2 X o "get" apos e f cpos := by exact ⟨rfl, rfl, rfl, rfl⟩) : PE X (.Call (.Attribute o "get" apos) [e, f] [] cpos) (tE X.K cad W (eGet2 mo me mf)) := by
  refine pe_imp (pe_dget2 (by omega) ho (de_toD he) (de_toD hf) m) fun σ H Q ⟨F, ι, μ, ρ, r, q⟩ => ?_
  refine ⟨F, ι, μ, ρ, r, q.bind fun oo μ1 F1 ι1 H1 v x1 s1 q1 h1 => ?_⟩
  have r1 := r.ext x1 s1
  by_cases c : isDat ρ μ1 oo = true
  · rw [if_pos c] at h1
    obtain ⟨a, rfl, z⟩ := isDat_ok r1 q1 c
    refine ⟨a, rfl, z, F1, ι1, μ1, ρ, r1, h1.bind fun dk μ2 F2 ι2 H2 vk x2 s2 q2 h2 => ?_⟩
    have r2 := r1.ext x2 s2
    have q2 : VR X.K cad ι2 F2 dk vk := q2
    refine ⟨F2, ι2, μ2, ρ, r2, h2.bind fun dx μ3 F3 ι3 H3 vx x3 s3 q3 h3 => ?_⟩
    have r3 := r2.ext x3 s3
    have q3 : VR X.K cad ι3 F3 dx vx := q3
    cases cg : getAt ρ μ3 oo dk with
    | none => rw [cg] at h3; exact h3.elim
    | some g =>
      rw [cg] at h3
      obtain ⟨a', u, e1, g1, g2⟩ := getAt_ok r3 (OpV.mono (H1 := H1) x3 (OpV.mono (H1 := H1) x2 q1)) (VR.mono x3.f x3.i _ _ q2) cg
      cases e1
      exact ⟨u, g1, h3 F3 ι3 H3 _ (Ext.refl _ _ _) s3 (show VR X.K cad ι3 F3 _ _ from g2.getD q3)⟩
  · rw [if_neg c] at h1
    exact h1.elim
end
/-! ### xs[::-1] -/
def fRev : Vw → Option Rv
  | .ob (.lst ds) => some (.own (.lst ds.reverse))
  | _ => none
def eRev (a : ME) : ME := e1 fRev a
section
variable {X : Cx} {cad : Str → Addr} {W : WX} {pos p1 p2 p3 : Pos} {e : Expr} {me : ME} {k : Nat}
theorem de_rev (he : PE X e (tE X.K cad W me)) : PE X (.Subscript e (.Slice none none (some (.UnaryOp .USub (.Constant (.int 1) k p1) p2)) p3) pos) (tE X.K cad W (eRev me)) := by
  refine pe_imp (pe_revL he) fun σ H Q ⟨F, ι, μ, ρ, rr, q⟩ => ?_
  refine ⟨F, ι, μ, ρ, rr, q.bind fun o μ1 F1 ι1 H1 v x1 s1 q1 h1 => ?_⟩
  obtain ⟨o2, e1, k⟩ := Post.of h1
  cases cx : deref ρ μ1 o with
  | none => rw [cx] at e1; cases e1
  | some w =>
    rw [cx] at e1
    have vw := OpV.view (rr.ext x1 s1) q1 cx
    cases cf : fRev w with
    | none => simp [cf] at e1
    | some rv =>
      simp [cf] at e1
      subst e1
      unfold fRev at cf
      split at cf
      · cases cf
        obtain ⟨a, rfl, vs, e2, r⟩ := vw
        exact ⟨a, vs, rfl, SqL.of e2, fun p hp => fin_own s1 (fun F' ι' H' v x s z => k F' ι' H' v x s (RvR.op (ρ := ρ) (σ := σ) z)) hp ⟨_, rfl, r.rev⟩⟩
      · cases cf
end
/-! ### xs.pop(i), xs.pop(), xs a thing of the store -/
def popR (μ : Store) (n : Nat) (i : Int) : Res Op := match μ[n]? with
  | some (.lst xs) => if 0 ≤ i ∧ i < 9223372036854775808 then (match xs[i.toNat]? with
    | some d => .ok (.sh d) (μ.set n (.lst (xs.eraseIdx i.toNat)))
    | none => .stk) else .stk
  | _ => .stk
def isLst (μ : Store) (n : Nat) : Bool := match μ[n]? with
  | some (.lst _) => true
  | _ => false
def ePop (rcv a : ME) : ME := fun ρ μ => (rcv ρ μ).bind fun o μ1 => match o with
  | .sh (.loc n) => if isLst μ1 n = true then (toD a ρ μ1).bind fun d μ2 => (match d with
    | .int i => popR μ2 n i
    | _ => .stk) else .stk
  | _ => .stk
def ePop0 (rcv : ME) : ME := fun ρ μ => (rcv ρ μ).bind fun o μ1 => match o with
  | .sh (.loc n) => (match μ1[n]? with
    | some (.lst xs) => (match xs[xs.length - 1]? with
      | some d => .ok (.sh d) (μ1.set n (.lst xs.dropLast))
      | none => .stk)
    | _ => .stk)
  | _ => .stk
theorem VRs.erase {K : PySem.W.Frag} {cad : Str → Addr} {ι : List Addr} {F : Hp} : ∀ {ds : List D} {vs : List V} (i : Nat), VRs K cad ι F ds vs → VRs K cad ι F (ds.eraseIdx i) (vs.eraseIdx i)
  | [], _, i, h => by cases h; rfl
  | d :: ds, _, 0, h => by obtain ⟨v, vs, rfl, _, t⟩ := h; exact t
  | d :: ds, _, i + 1, h => by
    obtain ⟨v, vs, rfl, r, t⟩ := h
    exact ⟨v, _, rfl, r, VRs.erase i t⟩
section
variable {X : Cx} {cad : Str → Addr} {W : WX} {apos p : Pos} {o e : Expr} {mo me : ME}
theorem de_pop (ho : PE X o (tE X.K cad W mo)) (he : PE X e (tE X.K cad W me)) (mb : MB X o "pop" apos e [] p := by exact ⟨rfl, rfl, rfl, rfl, rfl⟩) : PE X (.Call (.Attribute o "pop" apos) [e] [] p) (tE X.K cad W (ePop mo me)) := by
  refine pe_imp (pe_bm PySem.F.plainAttrs_list PySem.F.slot_list_pop PySem.F.type_list_pop mt_popAt ho (pa_cons (de_toD he) pa_nil mb.hs) mb.hbase mb.hfew mb.hline mb.hs mb.hplain) fun σ H Q ⟨F, ι, μ, ρ, r, q⟩ => ?_
  refine ⟨F, ι, μ, ρ, r, q.bind fun oo μ1 F1 ι1 H1 v x1 s1 q1 h1 => ?_⟩
  have r1 := r.ext x1 s1
  cases oo with
  | own _ => exact h1.elim
  | slot _ => exact h1.elim
  | sh d =>
    cases d with
    | loc n =>
      dsimp only at h1
      by_cases c : isLst μ1 n = true
      · rw [if_pos c] at h1
        obtain ⟨a, rfl, e1⟩ := VR.loc_.mp (show VR X.K cad ι1 F1 (.loc n) v from q1)
        have hty : tyV X.K "list" (.ref a) H1 := by
          unfold isLst at c
          split at c
          · next xs ex =>
            obtain ⟨ho, e2, vs, rfl, _⟩ := s1.obj n _ a ex e1
            exact .inl ⟨rfl, vs, SqL.of e2⟩
          · cases c
        refine ⟨hty, F1, ι1, μ1, ρ, r1, h1.bind fun dk μ2 F2 ι2 H2 vk x2 s2 q2 h2 => ?_⟩
        have q2 : VR X.K cad ι2 F2 dk vk := q2
        have e1' : ι2[n]? = some a := pre_get x2.i e1
        cases dk with
        | int i =>
          obtain rfl := VR.int_.mp q2
          have h2 : Post X.K cad W (rlE X.K cad ρ σ) F2 ι2 H2 σ (popR μ2 n i) Q := h2
          unfold popR at h2
          cases cm : μ2[n]? with
          | none => rw [cm] at h2; exact h2.elim
          | some ob =>
            rw [cm] at h2
            cases ob with
            | lst xs =>
              dsimp only at h2
              by_cases hb : 0 ≤ i ∧ i < 9223372036854775808
              · rw [if_pos hb] at h2
                obtain ⟨ho, e2, vs, rfl, rv⟩ := s2.obj n _ a cm e1'
                cases cd : xs[i.toNat]? with
                | none => rw [cd] at h2; exact h2.elim
                | some d =>
                  rw [cd] at h2
                  obtain ⟨y, ey, qy⟩ := rv.get cd
                  have hl : i.toNat < vs.length := (List.getElem?_eq_some_iff.mp ey).1
                  refine ⟨a, vs, i, i.toNat, y, rfl, rfl, e2, by omega, by omega, ?_, ey, ?_⟩
                  · have ej : (if i < 0 then i + (vs.length : Int) else i) = i := if_neg (by omega)
                    show (if (decide (0 ≤ (if i < 0 then i + (vs.length : Int) else i)) && decide ((if i < 0 then i + (vs.length : Int) else i) < vs.length)) = true then some (if i < 0 then i + (vs.length : Int) else i).toNat else none) = _
                    rw [ej, if_pos (by rw [Bool.and_eq_true, decide_eq_true_eq, decide_eq_true_eq]; omega)]
                  · exact h2 F2 ι2 _ y (Ext.put e1' fun o u z => by rw [e2] at z; cases z) (s2.put e1' ⟨_, rfl, rv.erase _⟩) (show VR X.K cad ι2 F2 d y from qy)
              · rw [if_neg hb] at h2
                exact h2.elim
            | _ => exact h2.elim
        | _ => exact h2.elim
      · rw [if_neg c] at h1
        exact h1.elim
    | _ => exact h1.elim
end
end DL

namespace DL
open PySem PySem.Spec PyProof.Rows L2
/-! ### for x in xs, xs a list of the store -/
def forLoc (g : D → Ev → Option Ev) (b : MS) (n : Nat) : Nat → Nat → MS
  | 0, _, _, _ => .stk
  | f + 1, i, ρ, μ => match μ[n]? with
    | some (.lst xs) => (match xs[i]? with
      | none => .ok (.nx, ρ) μ
      | some x => (match g x ρ with
        | none => .stk
        | some ρ1 => loopR (b ρ1 μ) (forLoc g b n f (i + 1))))
    | _ => .stk
def mForLoc (e : ME) (g : D → Ev → Option Ev) (b : MS) : MS := fun ρ μ => (toD e ρ μ).bind fun d μ1 => match d with
  | .loc n => if isLst μ1 n = true then forLoc g b n 16777300 0 ρ μ1 else .stk
  | _ => .stk
section
variable {X : Cx} {cad : Str → Addr} {W : WX} {E : Ent} {pos : Pos} {tg iter : Expr} {body : List Stmt} {me : ME} {t : TG} {g : D → Ev → Option Ev} {b : MS} {ws : List Nat}
theorem ds_forLoc (hp : PassesOwn (model X.prog X.w) X.A X.env X.xe) (hc : X.calm = true) (hi : PE X iter (tE X.K cad W me)) (hg : PG X tg t) (gk : GOk X.K cad t g ws) (hb : PSs X body (tS X.K cad W E b)) (hs : ∀ x, foldedSetIterable iter X.env x = pure x := by intro _; rfl) :
    PS X (.For tg iter body [] pos) (tS X.K cad W E (mForLoc me g b)) := by
  refine ps_imp (ps_for hp hc (pi_list (de_toD hi)) hg hb hs) fun D σ H ⟨F, ι, μ, ρ, r, h⟩ => ?_
  refine ⟨F, ι, μ, ρ, r.r, h.bind r.x fun d μ1 F1 ι1 H1 v _ x1 s1 q1 h1 => ?_⟩
  have q1 : VR X.K cad ι1 F1 d v := q1
  cases d with
  | loc n =>
    dsimp only at h1
    by_cases c : isLst μ1 n = true
    · rw [if_pos c] at h1
      obtain ⟨a, rfl, e1⟩ := VR.loc_.mp q1
      have hq : ∃ vs, SqL X.K H1 a vs := by
        unfold isLst at c
        split at c
        · next xs ex =>
          obtain ⟨ho, e2, vs, rfl, _⟩ := s1.obj n _ a ex e1
          exact ⟨vs, SqL.of e2⟩
        · cases c
      have h1 : PostS X.K cad W E F1 ι1 (forLoc g b n 16777300 0 ρ μ1) D := PostS.ext x1.f x1.i h1
      let P : Nat → Nat → L2.St → Hp → Prop := fun i m σ H => ∃ F2 ι2 μ2 ρ2, Same F1 F2 ∧ ι1 <+: ι2 ∧ R0 X.K cad E F2 ι2 μ2 ρ2 σ H ∧ PostS X.K cad W E F1 ι1 (forLoc g b n m i ρ2 μ2) D
      refine ⟨a, rfl, hq, P, ⟨16777300, F1, ι1, μ1, ρ, Same.refl _, List.prefix_rfl, r.ext x1 s1, h1⟩, ?_⟩
      rintro i m σ2 H2 ⟨F2, ι2, μ2, ρ2, hf, hi2, r2, h2⟩
      cases m with
      | zero => exact h2.elim
      | succ m =>
        unfold forLoc at h2
        have e1' : ι2[n]? = some a := pre_get hi2 e1
        cases cm : μ2[n]? with
        | none => rw [cm] at h2; exact h2.elim
        | some ob =>
          rw [cm] at h2
          cases ob with
          | lst xs =>
            dsimp only at h2
            obtain ⟨ho, e2, vs, rfl, rv⟩ := r2.r.rs.obj n _ a cm e1'
            cases cx : xs[i]? with
            | none =>
              rw [cx] at h2
              refine .inl ⟨⟨vs, SqL.of e2, ?_⟩, h2 F2 ι2 σ2 H2 hf hi2 r2⟩
              rw [← rv.len]
              exact List.getElem?_eq_none_iff.mp cx
            | some d =>
              rw [cx] at h2
              dsimp only at h2
              obtain ⟨v, ev, qv⟩ := rv.get cx
              refine .inr ⟨⟨vs, v, SqL.of e2, ev⟩, P (i + 1) m, fun σ' H' p => ⟨m, Nat.lt_succ_self _, p⟩, fun x H3 y => ?_⟩
              obtain ⟨rfl, y⟩ := y
              have ex := y vs (SqL.of e2)
              rw [ev] at ex
              cases ex
              cases cg : g d ρ2 with
              | none => rw [cg] at h2; exact h2.elim
              | some ρ4 =>
                rw [cg] at h2
                dsimp only at h2
                unfold loopR at h2
                refine gk r2.r qv cg fun σ4 r4 _ _ h4 => ?_
                have r4 := r2.of_g r4 h4
                refine ⟨F2, ι2, μ2, ρ4, r4, ?_⟩
                cases cb : b ρ4 μ2 with
                | stk => rw [cb] at h2; exact h2
                | exc x μ5 => rw [cb] at h2; exact h2
                | ok p μ5 =>
                  rw [cb] at h2
                  obtain ⟨f, ρ5⟩ := p
                  cases f with
                  | nx => exact fun F5 ι5 σ5 H5 a5 b5 r5 => ⟨F5, ι5, μ5, ρ5, hf.trans a5, hi2.trans b5, r5, h2⟩
                  | ct => exact fun F5 ι5 σ5 H5 a5 b5 r5 => ⟨F5, ι5, μ5, ρ5, hf.trans a5, hi2.trans b5, r5, h2⟩
                  | bk => exact fun F5 ι5 σ5 H5 a5 b5 r5 => h2 F5 ι5 σ5 H5 (hf.trans a5) (hi2.trans b5) r5
                  | rt rv => exact h2
          | _ => exact h2.elim
    · rw [if_neg c] at h1
      exact h1.elim
  | _ => exact h1.elim
end
/-! ### a dict of the store is locked while an expression runs -/
def whichLoc (it : ME) (ρ : Ev) (μ : Store) : Option Nat := match it ρ μ with
  | .ok (.sh (.loc n)) _ => some n
  | _ => none
def lockR (n : Nat) (r : Res Op) : Res Op := match r with
  | .ok o μ => (match μ[n]? with
    | some (.lkT kvs) => .ok o (μ.set n (.dT kvs))
    | some (.lkK kvs) => .ok o (μ.set n (.dK kvs))
    | _ => .stk)
  | _ => .stk
def eLk (it m : ME) : ME := fun ρ μ => match whichLoc it ρ μ with
  | none => .stk
  | some n => (match μ[n]? with
    | some (.dT kvs) => lockR n (m ρ (μ.set n (.lkT kvs)))
    | some (.dK kvs) => lockR n (m ρ (μ.set n (.lkK kvs)))
    | _ => .stk)
section
variable {X : Cx} {cad : Str → Addr} {W : WX} {e : Expr} {it m : ME}
theorem OpV.lock {K : PySem.W.Frag} {F H H0 H' : Hp} {ι : List Addr} {ρ : Ev} {σ : L2.St} {n : Nat} {a : Addr} {u : HO} {o : Op} {v : V} (e1 : ι[n]? = some a) (h0 : ∀ p, H p = none → H0 p = none) (q : OpV K cad ρ σ H F ι H' o v) : OpV K cad ρ σ H0 F ι (upd H' a u) o v := by
  cases o with
  | sh d => exact q
  | slot i => exact q
  | own ob =>
    obtain ⟨p, ho, e2, e3, e4, e5, e6, z⟩ := q
    refine ⟨p, ho, e2, e3, e4, h0 p e5, ?_, z⟩
    rw [upd_ne (show p ≠ a from fun w => e4 (w ▸ List.mem_of_getElem? e1))]
    exact e6
theorem lock_ok {K : PySem.W.Frag} {F H : Hp} {ι : List Addr} {μ : Store} {ρ : Ev} {σ : L2.St} {n : Nat} {a : Addr} {u : HO} {ob lk : Ob} {Q : VK} (r : R K cad F ι μ ρ σ H) (e1 : ι[n]? = some a) (e2 : H a = some u) (hu : ∀ o w, u ≠ .frz o w) (z : OR K cad ι F ob u)
    (hl : ∀ od, OR K cad ι F lk (.frz od u)) (hk : ∀ (F' : Hp) (ι' : List Addr) (ob' : Ob) (od : Obj), OR K cad ι' F' ob' (.frz od u) → (∃ kvs, ob' = .lkT kvs ∧ OR K cad ι' F' (.dT kvs) u) ∨ (∃ kvs, ob' = .lkK kvs ∧ OR K cad ι' F' (.dK kvs) u))
    (q : Post K cad W (rlE K cad ρ σ) F ι H σ (lockR n (m ρ (μ.set n lk))) Q) (od : Obj) : tE K cad WT m σ (upd H a (.frz od u)) fun v H' => H' a = some (.frz od u) ∧ Q v (upd H' a u) := by
  have x0 : Ext F ι H F ι (upd H a (.frz od u)) := Ext.put e1 fun o w y => hu o w (Option.some.inj (e2.symm.trans y))
  have s0 : RS K cad F ι (μ.set n lk) (upd H a (.frz od u)) := r.rs.put e1 (hl od)
  refine ⟨F, ι, _, ρ, r.ext x0 s0, ?_⟩
  unfold lockR at q
  cases cm : m ρ (μ.set n lk) with
  | stk => rw [cm] at q; exact q
  | exc x μ1 => exact fun _ _ _ _ _ _ _ => trivial
  | ok o μ1 =>
    rw [cm] at q
    dsimp only at q
    intro F' ι' H' v x s q'
    have ha : H' a = some (.frz od u) := x.lk _ _ _ upd_same
    have e1' : ι'[n]? = some a := pre_get x.i e1
    refine ⟨ha, ?_⟩
    have x3 : Ext F ι H F' ι' (upd H' a u) := (x0.trans x).upd_of (fun w => absurd (List.mem_of_getElem? e1) w) fun o w y => hu o w (Option.some.inj (e2.symm.trans y))
    have fin : ∀ ob', OR K cad ι' F' ob' u → RS K cad F' ι' (μ1.set n ob') (upd H' a u) := fun ob' z' => s.put e1' z'
    have q2 : OpV K cad ρ σ H F' ι' (upd H' a u) o v := OpV.lock e1' x0.dom q'
    cases c2 : μ1[n]? with
    | none => rw [c2] at q; exact q.elim
    | some ob' =>
      rw [c2] at q
      obtain ⟨ho, f1, f2⟩ := s.obj n ob' a c2 e1'
      rw [ha] at f1
      cases f1
      rcases hk F' ι' ob' od f2 with ⟨kvs, rfl, z'⟩ | ⟨kvs, rfl, z'⟩
      · exact q F' ι' _ v x3 (fin _ z') q2
      · exact q F' ι' _ v x3 (fin _ z') q2
theorem de_lk (h : PE X e (tE X.K cad WT m)) : PE X e (tE X.K cad W (eLk it m)) := by
  refine pe_imp (pe_lock h) fun σ H Q ⟨F, ι, μ, ρ, r, q⟩ => ?_
  unfold eLk at q
  cases c : whichLoc it ρ μ with
  | none => rw [c] at q; exact q.elim
  | some n =>
    rw [c] at q
    dsimp only at q
    cases c2 : μ[n]? with
    | none => rw [c2] at q; exact q.elim
    | some ob =>
      rw [c2] at q
      obtain ⟨a, e1, _⟩ := r.rs.addr c2
      obtain ⟨u, e2, z⟩ := r.rs.obj n ob a c2 e1
      cases ob with
      | dT kvs =>
        obtain ⟨vs, rfl, rv⟩ := z
        refine ⟨a, _, e2, trivial, fun od => lock_ok (ob := .dT kvs) (lk := .lkT kvs) r e1 e2 (fun o w y => by cases y) ⟨vs, rfl, rv⟩ (fun od => ⟨od, vs, rfl, rv⟩) (fun F' ι' ob' od z => ?_) q od⟩
        cases ob' with
        | lkT kvs' =>
          obtain ⟨o, vs', e3, rv'⟩ := z
          injection e3 with e4 e5
          exact .inl ⟨kvs', rfl, vs', e5, rv'⟩
        | lst _ => obtain ⟨_, y, _⟩ := z; cases y
        | dK _ => obtain ⟨_, y, _⟩ := z; cases y
        | dT _ => obtain ⟨_, y, _⟩ := z; cases y
        | ins _ _ => obtain ⟨_, _, y, _⟩ := z; cases y
        | lkK _ => obtain ⟨_, _, y, _⟩ := z; injection y with y1 y2; cases y2
        | dead => exact z.elim
      | dK kvs =>
        obtain ⟨vs, rfl, rv⟩ := z
        refine ⟨a, _, e2, trivial, fun od => lock_ok (ob := .dK kvs) (lk := .lkK kvs) r e1 e2 (fun o w y => by cases y) ⟨vs, rfl, rv⟩ (fun od => ⟨od, vs, rfl, rv⟩) (fun F' ι' ob' od z => ?_) q od⟩
        cases ob' with
        | lkK kvs' =>
          obtain ⟨o, vs', e3, rv'⟩ := z
          injection e3 with e4 e5
          exact .inr ⟨kvs', rfl, vs', e5, rv'⟩
        | lst _ => obtain ⟨_, y, _⟩ := z; cases y
        | dK _ => obtain ⟨_, y, _⟩ := z; cases y
        | dT _ => obtain ⟨_, y, _⟩ := z; cases y
        | ins _ _ => obtain ⟨_, _, y, _⟩ := z; cases y
        | lkT _ => obtain ⟨_, _, y, _⟩ := z; injection y with y1 y2; cases y2
        | dead => exact z.elim
      | lst _ => exact q.elim
      | ins _ _ => exact q.elim
      | lkK _ => exact q.elim
      | lkT _ => exact q.elim
      | dead => exact q.elim
end
/-! ### [.. for k in d ..], d a locked dict of the store -/
def keysAt (μ : Store) (n : Nat) : Option (List D) := match μ[n]? with
  | some (.lkK kvs) => some (kvs.map fun kv => keyD kv.1)
  | some (.lkT kvs) => some (kvs.map fun kv => .tup (kv.1.map keyD))
  | _ => none
def eLcK (m : ME) (g : D → Ev → Option Ev) (ws : List Nat) (t : MT) (e : ME) : ME := fun ρ μ => (toD m ρ μ).bind fun d μ1 => match d with
  | .loc n => (match keysAt μ1 n with
    | some xs => (lcL g t e (wipeE ρ ws) xs μ1 []).bind fun ds μ2 => .ok (.own (.lst ds)) μ2
    | none => .stk)
  | _ => .stk
/-- what is walked, as long as what is locked stays -/
structure ItL (K : PySem.W.Frag) (cad : Str → Addr) (H : Hp) (J : It) (xs : List D) : Prop where
  go : ∀ {i : Nat} {H1 : Hp}, (∀ a o u, H a = some (.frz o u) → H1 a = some (.frz o u)) → i < xs.length → J.go i H1
  yl : ∀ {i : Nat} {d : D} {F1 : Hp} {ι1 : List Addr} {μ1 : Store} {H1 : Hp} {x : V} {H2 : Hp}, RS K cad F1 ι1 μ1 H1 → xs[i]? = some d → J.yld i H1 x H2 → ∃ F2, Ext F1 ι1 H1 F2 ι1 H2 ∧ RS K cad F2 ι1 μ1 H2 ∧ VR K cad ι1 F2 d x
  st : ∀ {i : Nat} {H1 : Hp}, (∀ a o u, H a = some (.frz o u) → H1 a = some (.frz o u)) → xs.length ≤ i → J.stop i H1
section
variable {K : PySem.W.Frag} {cad : Str → Addr} {F H : Hp} {ι : List Addr} {μ : Store}
theorem itl_dK {a : Addr} {o : Obj} {ks : List Key} {vs : List V} (e : H a = some (.frz o (.dK (ks.zip vs)))) (hl : ks.length = vs.length) : ItL K cad H (Itk a o (ks.zip vs)) (ks.map keyD) := by
  have zl : (ks.zip vs).length = ks.length := by rw [List.length_zip, ← hl, Nat.min_self]
  refine ⟨fun {i H1} lk h => ?_, fun {i d F1 ι1 μ1 H1 x H2} rs ed y => ?_, fun {i H1} lk h => ?_⟩
  · rw [List.length_map] at h
    exact ⟨lk _ _ _ e, by rw [zl]; exact h⟩
  · obtain ⟨rfl, k, v, e1, rfl⟩ := y
    have e2 : ks[i]? = some k := by
      have := congrArg (Option.map Prod.fst) e1
      rw [← List.getElem?_map, List.map_fst_zip (by omega)] at this
      exact this
    rw [List.getElem?_map, e2] at ed
    cases ed
    exact ⟨F1, Ext.refl _ _ _, rs, VR.keyD⟩
  · rw [List.length_map] at h
    exact ⟨lk _ _ _ e, by rw [zl]; exact h⟩
theorem itl_dT {a : Addr} {o : Obj} {ks : List (List Key)} {vs : List V} (e : H a = some (.frz o (.dT (ks.zip vs)))) (hl : ks.length = vs.length) : ItL K cad H (Itkt a o (ks.zip vs)) (ks.map fun k => .tup (k.map keyD)) := by
  have zl : (ks.zip vs).length = ks.length := by rw [List.length_zip, ← hl, Nat.min_self]
  refine ⟨fun {i H1} lk h => ?_, fun {i d F1 ι1 μ1 H1 x H2} rs ed y => ?_, fun {i H1} lk h => ?_⟩
  · rw [List.length_map] at h
    exact ⟨lk _ _ _ e, by rw [zl]; exact h⟩
  · obtain ⟨rfl, k, v, q, e1, rfl, eq⟩ := y
    have e2 : ks[i]? = some k := by
      have := congrArg (Option.map Prod.fst) e1
      rw [← List.getElem?_map, List.map_fst_zip (by omega)] at this
      exact this
    rw [List.getElem?_map, e2] at ed
    cases ed
    obtain ⟨F2, x2, r2, e3, _⟩ := know_tup rs eq
    exact ⟨F2, x2, r2, VR.tup_.mpr ⟨q, _, rfl, e3, VRs.keyD⟩⟩
  · rw [List.length_map] at h
    exact ⟨lk _ _ _ e, by rw [zl]; exact h⟩
end
section
variable {X : Cx} {cad : Str → Addr} {W : WX} {E : Ent} {pos : Pos} {elt tg iter : Expr} {ifs : List Expr} {scope : Scope} {own : List (Str × Nat)} {mi : ME} {t : TG} {g : D → Ev → Option Ev} {mt : MT} {me : ME}
theorem lcK_ok {K : PySem.W.Frag} {ws : List Nat} (gk : GOk K cad t g ws) {σ : L2.St} {ρ : Ev} {F1 H1 : Hp} {ι1 : List Addr} {μ1 : Store} {xs : List D} {J : It} {Q : VK} (r : R K cad F1 ι1 μ1 ρ σ H1) (q1 : ItL K cad H1 J xs)
    (h1 : Post K cad W (rlE K cad ρ σ) F1 ι1 H1 σ ((lcL g mt me (wipeE ρ ws) xs μ1 []).bind fun ds μ2 => .ok (.own (.lst ds)) μ2) Q) (D : Addr) (hD : H1 D = none) :
    ∃ W : Nat → Nat → Hp → Prop, (∃ m, W 0 m (upd H1 D (.lst []))) ∧ ∀ i m H, W i m H → (J.stop i H ∧ Q (.ref D) H) ∨ (J.go i H ∧ ∃ Nx : Hp → Prop, (∀ H', Nx H' → ∃ m', m' < m ∧ W (i + 1) m' H') ∧ ∀ x H', J.yld i H x H' → t x (wipe σ ws) H' fun σ2 H2 => wipe σ2 ws = wipe σ ws ∧ tT K cad WT mt σ2 H2 fun b H3 =>
      if b = true then tD K cad WT (toD me) σ2 H3 fun y H4 => ∃ acc, H4 D = some (.lst acc) ∧ acc.length < sizeLine ∧ Nx (upd H4 D (.lst (acc ++ [y]))) else Nx H3) := by
  have rw1 := r.wipe ws
  have s1 := r.rs
  let P : Nat → Hp → Prop := fun i H => ∃ F2 ι2 μ2 acc vs, Ext F1 ι1 H1 F2 ι2 H ∧ RS K cad F2 ι2 μ2 H ∧ H D = some (.lst vs) ∧ F2 D = none ∧ D ∉ ι2 ∧ VRs K cad ι2 F2 acc vs ∧
    Post K cad W (rlE K cad ρ σ) F1 ι1 H1 σ ((lcL g mt me (wipeE ρ ws) (xs.drop i) μ2 acc).bind fun ds μ3 => .ok (.own (.lst ds)) μ3) Q
  have hx0 : Ext F1 ι1 H1 F1 ι1 (upd H1 D (.lst [])) := Ext.newH hD
  refine ⟨fun i m H => i ≤ xs.length ∧ m = xs.length - i ∧ P i H, ⟨xs.length, Nat.zero_le _, rfl, F1, ι1, μ1, [], [], hx0, s1.newH hD, upd_same, (s1.fresh hD).1, (s1.fresh hD).2, rfl, h1⟩, ?_⟩
  rintro i m H2 ⟨hl, rfl, F2, ι2, μ2, acc, vs, x2, s2, e2, f2, n2, rv, h2⟩
  by_cases hlt : i < xs.length
  · refine .inr ⟨q1.go x2.lk hlt, P (i + 1), fun H' p => ⟨xs.length - (i + 1), by omega, hlt, rfl, p⟩, fun x H3 y => ?_⟩
    obtain ⟨F3, x3, s3, v3⟩ := q1.yl s2 (List.getElem?_eq_getElem hlt) y
    have orl : OR K cad ι2 F2 (.lst acc) (.lst vs) := ⟨vs, rfl, rv⟩
    have x13 := x2.trans x3
    have e3 := x3.kept D _ n2 e2
    have f3 := x3.apart f2 e2 orl
    have ed : xs.drop i = xs[i] :: xs.drop (i + 1) := List.drop_eq_getElem_cons hlt
    rw [ed] at h2
    unfold lcL at h2
    cases cg : g xs[i] (wipeE ρ ws) with
    | none => rw [cg] at h2; exact h2.elim
    | some ρ4 =>
      rw [cg] at h2
      dsimp only at h2
      refine gk (rw1.ext x13 s3) v3 cg fun σ4 r4 l4 g4 _ => ?_
      refine ⟨wipe_same (by rw [l4, wipe_length]) g4, F3, ι2, μ2, ρ4, r4, ?_⟩
      cases ct : mt ρ4 μ2 with
      | stk => rw [ct] at h2; exact h2
      | exc x μ5 => exact fun _ _ _ _ _ _ _ => trivial
      | ok c μ5 =>
        rw [ct] at h2
        intro F5 ι5 H5 c' x5 s5 q5
        have q5 : c = c' := q5
        subst q5
        have orl3 : OR K cad ι2 F3 (.lst acc) (.lst vs) := orl.mono x3.f List.prefix_rfl
        have e5 := x5.kept D _ n2 e3
        have f5 := x5.apart f3 e3 orl3
        have n5 : D ∉ ι5 := fun z => by have := x5.ni D z n2; rw [e3] at this; cases this
        have orl5 : OR K cad ι5 F5 (.lst acc) (.lst vs) := orl3.mono x5.f x5.i
        have x15 := x13.trans x5
        cases c with
        | false =>
          rw [if_neg Bool.false_ne_true]
          obtain ⟨_, ev, rv5⟩ := orl5
          cases ev
          exact ⟨F5, ι5, μ5, acc, vs, x15, s5, e5, f5, n5, rv5, h2⟩
        | true =>
          rw [if_pos rfl]
          refine ⟨F5, ι5, μ5, ρ4, r4.ext x5 s5, ?_⟩
          have h2 : Post K cad W (rlE K cad ρ σ) F1 ι1 H1 σ (((toD me ρ4 μ5).bind fun d μ2 => if acc.length < 16777216 then lcL g mt me (wipeE ρ ws) (xs.drop (i + 1)) μ2 (acc ++ [d]) else .stk).bind fun ds μ3 => .ok (.own (.lst ds)) μ3) Q := h2
          cases cd : toD me ρ4 μ5 with
          | stk => rw [cd] at h2; exact h2
          | exc x μ6 => exact fun _ _ _ _ _ _ _ => trivial
          | ok d μ6 =>
            rw [cd] at h2
            intro F6 ι6 H6 v x6 s6 q6
            have q6 : VR K cad ι6 F6 d v := q6
            have e6 := x6.kept D _ n5 e5
            have f6 := x6.apart f5 e5 orl5
            have n6 : D ∉ ι6 := fun z => by have := x6.ni D z n5; rw [e5] at this; cases this
            obtain ⟨_, ev, rv6⟩ := orl5.mono x6.f x6.i
            cases ev
            have h2 : Post K cad W (rlE K cad ρ σ) F1 ι1 H1 σ ((if acc.length < 16777216 then lcL g mt me (wipeE ρ ws) (xs.drop (i + 1)) μ6 (acc ++ [d]) else .stk).bind fun ds μ3 => .ok (.own (.lst ds)) μ3) Q := h2
            by_cases hz : acc.length < 16777216
            · rw [if_pos hz] at h2
              refine ⟨vs, e6, by rw [← rv6.len, sizeLine_eq]; exact hz, F6, ι6, μ6, acc ++ [d], vs ++ [v], (x15.trans x6).upd_of (fun _ => hD) (fun o u z => by rw [hD] at z; cases z), ?_, upd_same, f6, n6, rv6.app (VRs.cons q6 VRs.nil), h2⟩
              refine s6.grow (Same.refl _) (fun b o' z => ?_) (fun b hb o' z => ?_) s6.sep
              · rw [upd_ne (fun w => by rw [w, f6] at z; cases z)]
                exact s6.sub b o' z
              · rw [upd_ne (show b ≠ D from fun w => n6 (w ▸ hb))]
                exact z
            · rw [if_neg hz] at h2
              exact h2.elim
  · have e : i = xs.length := by omega
    subst e
    rw [List.drop_length] at h2
    refine .inl ⟨q1.st x2.lk (Nat.le_refl _), ?_⟩
    exact h2 F2 ι2 H2 (.ref D) x2 s2 ⟨D, .lst vs, rfl, f2, n2, hD, e2, vs, rfl, rv⟩
theorem eLcK_ok {K : PySem.W.Frag} (gk : GOk K cad t g (own.map (·.2))) {σ : L2.St} {H : Hp} {Q : VK} (h : tE K cad W (eLcK mi g (own.map (·.2)) mt me) σ H Q) : tLc (iKeys (tD K cad W (toD mi))) t (tT K cad WT mt) (tD K cad WT (toD me)) (own.map (·.2)) σ H Q := by
  generalize own.map (·.2) = ws at gk h ⊢
  obtain ⟨F, ι, μ, ρ, r, h⟩ := h
  refine ⟨F, ι, μ, ρ, r, h.bind fun d μ1 F1 ι1 H1 v x1 s1 q1 h1 => ?_⟩
  have q1 : VR K cad ι1 F1 d v := q1
  have r1 := r.ext x1 s1
  cases d with
  | loc n =>
    dsimp only at h1
    obtain ⟨a, rfl, e1⟩ := VR.loc_.mp q1
    cases ck : keysAt μ1 n with
    | none => rw [ck] at h1; exact h1.elim
    | some xs =>
      rw [ck] at h1
      dsimp only at h1
      unfold keysAt at ck
      cases cm : μ1[n]? with
      | none => rw [cm] at ck; cases ck
      | some ob =>
        rw [cm] at ck
        obtain ⟨ho, e2, z⟩ := s1.obj n ob a cm e1
        cases ob with
        | lkK kvs =>
          have ck : kvs.map (fun kv => keyD kv.1) = xs := Option.some.inj ck
          obtain ⟨o, vs, rfl, rv⟩ := z
          have hl : (kvs.map (·.1)).length = vs.length := by have := rv.len; rw [List.length_map] at this ⊢; exact this
          refine ⟨a, o, rfl, .inl ⟨_, e2, fun D hD => lcK_ok gk r1 (J := Itk a o ((kvs.map (·.1)).zip vs)) (xs := xs) ?_ h1 D hD⟩⟩
          rw [← ck, show (kvs.map fun kv => keyD kv.1) = (kvs.map (·.1)).map keyD by rw [List.map_map]; rfl]
          exact itl_dK e2 hl
        | lkT kvs =>
          have ck : kvs.map (fun kv => D.tup (kv.1.map keyD)) = xs := Option.some.inj ck
          obtain ⟨o, vs, rfl, rv⟩ := z
          have hl : (kvs.map (·.1)).length = vs.length := by have := rv.len; rw [List.length_map] at this ⊢; exact this
          refine ⟨a, o, rfl, .inr ⟨_, e2, fun D hD => lcK_ok gk r1 (J := Itkt a o ((kvs.map (·.1)).zip vs)) (xs := xs) ?_ h1 D hD⟩⟩
          rw [← ck, show (kvs.map fun kv => DL.D.tup (kv.1.map keyD)) = (kvs.map (·.1)).map (fun k => DL.D.tup (k.map keyD)) by rw [List.map_map]; rfl]
          exact itl_dT e2 hl
        | _ => cases ck
  | _ => exact h1.elim
theorem de_lcK (hc : X.calm = true) (hN : X.N.Nodup) (hi : PE X iter (tE X.K cad W mi)) (ok : BlkOk X.N X.env.scope scope own)
    (hg : ∀ (s : Shared) (H : Hp) (C : Addr) (cl : List (Str × Addr)) (fp : List Addr), PG (X.blk s H scope (compEnvC scope cl C X.env) fp) tg t) (gk : GOk X.K cad t g (own.map (·.2)))
    (ht : ∀ (s : Shared) (H : Hp) (C : Addr) (cl : List (Str × Addr)) (fp : List Addr), PTs (X.blk s H scope (compEnvC scope cl C X.env) fp) ifs (tT X.K cad WT mt))
    (he : ∀ (s : Shared) (H : Hp) (C : Addr) (cl : List (Str × Addr)) (fp : List Addr), PE (X.blk s H scope (compEnvC scope cl C X.env) fp) elt (tE X.K cad WT me)) (hs : ∀ x, foldedSetIterable iter X.env x = pure x := by intro _; rfl) :
    PE X (.ListComp elt [⟨tg, iter, ifs, 0⟩] scope pos) (tE X.K cad W (eLcK mi g (own.map (·.2)) mt me)) :=
  pe_imp (pe_lc hc hN (pi_keys (de_toD hi)) ok hg ht (fun s H C cl fp => de_toD (he s H C cl fp)) hs) fun σ H Q h => eLcK_ok gk h
end
end DL

namespace DL
open PySem PySem.Spec PyProof.Rows L2
/-! ### o.f -/
def fFld (c f : Str) : Vw → Option Rv
  | .ob (.ins c' fs) => if c' = c then (fs.lookup f).map .sh else none
  | _ => none
def eFld (c f : Str) (a : ME) : ME := e1 (fFld c f) a
theorem lookup_VRs {K : PySem.W.Frag} {cad : Str → Addr} {ι : List Addr} {F : Hp} (f : Str) : ∀ {fs : List (Str × D)} {vs : List V} {d : D}, VRs K cad ι F (fs.map (·.2)) vs → fs.lookup f = some d → ∃ v, ((fs.map (·.1)).zip vs).lookup f = some v ∧ VR K cad ι F d v
  | [], _, _, _, e => by cases e
  | (g, d') :: fs, _, d, h, e => by
    obtain ⟨v, vs, rfl, r, t⟩ := h
    rw [List.map_cons, List.zip_cons_cons]
    rw [List.lookup_cons] at e ⊢
    cases c : f == g with
    | true =>
      rw [c] at e
      cases e
      exact ⟨v, rfl, r⟩
    | false =>
      rw [c] at e
      exact lookup_VRs f t e
theorem lookup_none {f : Str} : ∀ {fs : List (Str × D)} {vs : List V}, fs.length = vs.length → fs.lookup f = none → ((fs.map (·.1)).zip vs).lookup f = none
  | [], vs, _, _ => rfl
  | (g, d') :: fs, [], h, _ => by cases h
  | (g, d') :: fs, v :: vs, h, e => by
    rw [List.map_cons, List.zip_cons_cons]
    rw [List.lookup_cons] at e ⊢
    cases c : f == g with
    | true => rw [c] at e; cases e
    | false =>
      rw [c] at e
      exact lookup_none (by simpa using h) e
section
variable {X : Cx} {cad : Str → Addr} {W : WX} {pos : Pos} {e : Expr} {me : ME} {c f : Str}
theorem de_fld (hC : Cls X.K (cad c)) (hN : NoAttr X.K (cad c) f) (he : PE X e (tE X.K cad W me)) (hb : attributeBase e f X.env (eval e X.env) = eval e X.env := by rfl) : PE X (.Attribute e f pos) (tE X.K cad W (eFld c f me)) := by
  refine pe_imp (pe_fld he hb) fun σ H Q ⟨F, ι, μ, ρ, rr, q⟩ => ?_
  refine ⟨F, ι, μ, ρ, rr, q.bind fun o μ1 F1 ι1 H1 v x1 s1 q1 h1 => ?_⟩
  obtain ⟨o2, e1, k⟩ := Post.of h1
  cases cx : deref ρ μ1 o with
  | none => rw [cx] at e1; cases e1
  | some w =>
    rw [cx] at e1
    have vw := OpV.view (rr.ext x1 s1) q1 cx
    cases cf : fFld c f w with
    | none => simp [cf] at e1
    | some rv =>
      simp [cf] at e1
      subst e1
      unfold fFld at cf
      split at cf
      · next c' fs =>
        split at cf
        · next hc =>
          subst hc
          obtain ⟨a, rfl, dx, vs, e2, r⟩ := vw
          cases cl : fs.lookup f with
          | none => rw [cl] at cf; cases cf
          | some d =>
            rw [cl] at cf
            cases cf
            obtain ⟨v, e3, q3⟩ := lookup_VRs f r cl
            exact ⟨a, _, dx, _, v, rfl, e2, hC, hN, e3, k F1 ι1 H1 v (Ext.refl _ _ _) s1 q3⟩
        · cases cf
      · cases cf
end
/-! ### o.f = e, o an instance of the store -/
def putFD (f : Str) (d : D) : List (Str × D) → List (Str × D)
  | [] => [(f, d)]
  | (g, x) :: r => if g = f then (g, d) :: r else (g, x) :: putFD f d r
def fldSet (c f : Str) (d : D) : Option Ob → Option Ob
  | some (.ins c' fs) => if c' = c ∧ fs.length < 1000 then some (.ins c (putFD f d fs)) else none
  | _ => none
def mFld (c f : Str) (o v : ME) : MS := fun ρ μ => (toD v ρ μ).bind fun d μ1 => (o ρ μ1).bind fun oo μ2 => match fldSet c f d (getOb ρ μ2 oo) with
  | some ob' => putRes ρ μ2 oo ob'
  | none => .stk
theorem putF_VRs {K : PySem.W.Frag} {cad : Str → Addr} {ι : List Addr} {F : Hp} {f : Str} {d : D} {v : V} (q : VR K cad ι F d v) : ∀ {fs : List (Str × D)} {vs : List V}, VRs K cad ι F (fs.map (·.2)) vs → ∃ us, putF f v ((fs.map (·.1)).zip vs) = ((putFD f d fs).map (·.1)).zip us ∧ VRs K cad ι F ((putFD f d fs).map (·.2)) us
  | [], _, h => by
    cases h
    exact ⟨[v], rfl, v, [], rfl, q, rfl⟩
  | (g, x) :: fs, _, h => by
    obtain ⟨u, vs, rfl, r, t⟩ := h
    rw [List.map_cons, List.zip_cons_cons]
    unfold putF putFD
    by_cases c : g = f
    · rw [if_pos c, if_pos c]
      exact ⟨v :: vs, rfl, v, vs, rfl, q, t⟩
    · rw [if_neg c, if_neg c]
      obtain ⟨us, e, z⟩ := putF_VRs q t
      exact ⟨u :: us, by rw [e]; rfl, u, us, rfl, r, z⟩
section
variable {X : Cx} {cad : Str → Addr} {W : WX} {E : Ent} {pos pos' : Pos} {o e : Expr} {mo me : ME} {c f : Str}
theorem ds_fld (hC : Cls X.K (cad c)) (hN : NoAttr X.K (cad c) f) (ho : PE X o (tE X.K cad W mo)) (he : PE X e (tE X.K cad W me)) (hs : swapsWith e (some (.Attribute o f pos')) pos.line X.env = pure false := by rfl) : PS X (.Assign [.Attribute o f pos'] e pos) (tS X.K cad W E (mFld c f mo me)) := by
  refine ps_imp (ps_fld ho (de_toD he) hs) fun D σ H ⟨F, ι, μ, ρ, r, h⟩ => ?_
  refine ⟨F, ι, μ, ρ, r.r, h.bind r.x fun d μ1 F1 ι1 H1 vd _ x1 s1 q1 h1 => ?_⟩
  have r1 := r.ext x1 s1
  refine ⟨F1, ι1, μ1, ρ, r1.r, h1.bind r1.x fun oo μ2 F2 ι2 H2 vo _ x2 s2 q2 h2 => ?_⟩
  have r2 := r1.ext x2 s2
  have q1 : VR X.K cad ι2 F2 d vd := VR.mono x2.f x2.i _ _ q1
  cases cg : getOb ρ μ2 oo with
  | none => rw [cg] at h2; exact h2.elim
  | some ob =>
    rw [cg] at h2
    cases ob with
    | ins c' fs =>
      by_cases hc : c' = c ∧ fs.length < 1000
      · have ef : fldSet c f d (some (.ins c' fs)) = some (.ins c (putFD f d fs)) := if_pos hc
        rw [ef] at h2
        obtain ⟨hc, hl⟩ := hc
        subst hc
        obtain ⟨a, ho, rfl, e1, ⟨dx, vs, rfl, rv⟩, kk⟩ := put_ok r2 q2 cg rfl
        refine ⟨a, _, dx, _, rfl, e1, hC, hN, by rw [zip_len rv]; exact hl, ?_⟩
        obtain ⟨us, e2, z2⟩ := putF_VRs (f := f) q1 rv
        rw [e2]
        exact h2 F2 ι2 σ _ (x1.f.trans x2.f) (x1.i.trans x2.i) (kk _ _ ⟨dx, us, rfl, z2⟩)
      · have ef : fldSet c f d (some (.ins c' fs)) = none := if_neg hc
        rw [ef] at h2
        exact h2.elim
    | _ => exact h2.elim
end
/-! ### methods, new instances -/
def DefM (P : Program) (w : World) (K : PySem.W.Frag) (mg : Str → Option Value) (base : Heap) (cad : Str → Addr) (c x : Str) (j np : Nat) (m : List D → Store → Res Rv) : Prop :=
  ∃ f fd ps, ps.length = np ∧ FnOk P w K mg base CX0 j f fd ps (spM K cad np (noX m)) ∧ Meth K (cad c) x f ∧ Binds K fd ps []
def DefI (P : Program) (w : World) (K : PySem.W.Frag) (mg : Str → Option Value) (base : Heap) (cad : Str → Addr) (c : Str) (j np : Nat) (m : List D → Store → Res Rv) : Prop :=
  ∃ f fd ps, ps.length = np ∧ FnOk P w K mg base CX0 j f fd ps (spM K cad np (noX m)) ∧ Mk K (cad c) f ∧ mg c = some (.ref (cad c)) ∧ Binds K fd ps []
theorem mkM {P : Program} {w : World} {K : PySem.W.Frag} {mg : Str → Option Value} {base : Heap} {cad : Str → Addr} {c x x' qual : Str} {st : Stmt} {f : Addr} {fd : FuncData} {N ps : List Str} {k : Nat} {b : MS} (F : Fun K x' qual st f fd) (S : FnScope N ps (defScope st)) (hm : Meth K (cad c) x f) (hb : Binds K fd ps [])
    (hB : ∀ (cdv : Value) (A : Around) (outer : List Env) (s : Shared) (H : Hp) (E : XK) (E0 : Ent), Room k (A.deeper (envOfC qual (defScope st) s.heap.objs.size f cdv)) → PSs (cxOf CX0 P w K mg base N qual (defScope st) f cdv A outer s H E).nox (defBody st) (tS K cad WT E0 b)) :
    DefM P w K mg base cad c x (k + 1) ps.length (runB N.length ps.length b) := ⟨f, fd, ps, rfl, fn0 F S hB, hm, hb⟩
theorem mkI {P : Program} {w : World} {K : PySem.W.Frag} {mg : Str → Option Value} {base : Heap} {cad : Str → Addr} {c x' qual : Str} {st : Stmt} {f : Addr} {fd : FuncData} {N ps : List Str} {k : Nat} {b : MS} (F : Fun K x' qual st f fd) (S : FnScope N ps (defScope st)) (hm : Mk K (cad c) f) (hg : mg c = some (.ref (cad c))) (hb : Binds K fd ps [])
    (hB : ∀ (cdv : Value) (A : Around) (outer : List Env) (s : Shared) (H : Hp) (E : XK) (E0 : Ent), Room k (A.deeper (envOfC qual (defScope st) s.heap.objs.size f cdv)) → PSs (cxOf CX0 P w K mg base N qual (defScope st) f cdv A outer s H E).nox (defBody st) (tS K cad WT E0 b)) :
    DefI P w K mg base cad c (k + 1) ps.length (runB N.length ps.length b) := ⟨f, fd, ps, rfl, fn0 F S hB, hm, hg, hb⟩
def insAt (c x : Str) (ρ : Ev) (μ : Store) (o : Op) : Bool := match deref ρ μ o with
  | some (.ob (.ins c' fs)) => decide (c' = c) && (fs.lookup x).isNone
  | _ => false
def selfD (o : Op) : Option D := match o with
  | .sh d => some d
  | _ => none
def methR (m : List D → Store → Res Rv) (o : Option D) (ds : List D) (μ : Store) : Res Op := match o with
  | some d => (m (d :: ds) μ).bind fun rv μ2 => .ok rv.op μ2
  | none => .stk
def eMeth (c x : Str) (m : List D → Store → Res Rv) (o : ME) (as : MA) : ME := fun ρ μ => (o ρ μ).bind fun oo μ1 => if insAt c x ρ μ1 oo = true then (as ρ μ1).bind fun ds μ2 => methR m (selfD oo) ds μ2 else .stk
def makeR (n : Nat) (r : Res Rv) : Res Op := match r with
  | .ok (.sh .non) μ => .ok (.sh (.loc n)) μ
  | .ok _ _ => .stk
  | .exc x μ => .exc x μ
  | .stk => .stk
def eMake (c : Str) (m : List D → Store → Res Rv) (as : MA) : ME := fun ρ μ => (as ρ μ).bind fun ds μ1 => makeR μ1.length (m (.loc μ1.length :: ds) (μ1 ++ [.ins c []]))
section
variable {X : Cx} {cad : Str → Addr} {W : WX} {pos p apos : Pos} {o e : Expr} {es : List Expr} {j k np : Nat} {m : List D → Store → Res Rv} {c x : Str} {as : MA} {mo : ME}
theorem insAt_ok {K : PySem.W.Frag} {F H H0 : Hp} {ι : List Addr} {μ : Store} {ρ : Ev} {σ : L2.St} (r : R K cad F ι μ ρ σ H) {oo : Op} {v : V} (q : OpV K cad ρ σ H0 F ι H oo v) (h : insAt c x ρ μ oo = true) : ∃ a dx fs, v = .ref a ∧ H a = some (.ins (cad c) dx fs) ∧ fs.lookup x = none := by
  unfold insAt at h
  split at h
  · next c' fs ed =>
    rw [Bool.and_eq_true] at h
    obtain ⟨h1, h2⟩ := h
    have h1 := of_decide_eq_true h1
    subst h1
    obtain ⟨a, rfl, dx, vs, e1, rv⟩ := q.view r ed
    have hl : fs.length = vs.length := by have := rv.len; rw [List.length_map] at this; exact this
    exact ⟨a, dx, _, rfl, e1, lookup_none hl (Option.isNone_iff_eq_none.mp h2)⟩
  · cases h
theorem eMeth_ok {K : PySem.W.Frag} {ta : TA} {σ : L2.St} {H : Hp} {Q : VK} (ht : ∀ σ H Q, tDs K cad W as σ H Q → ta σ H Q) (h : tE K cad W (eMeth c x (noX m) mo as) σ H Q) (hl : ∀ ρ μ ds μ1, as ρ μ = .ok ds μ1 → ds.length + 1 = np) : tMeth (cad c) x (spM K cad np (noX m)) [] E0 (tE K cad W mo) ta σ H Q := by
  obtain ⟨F, ι, μ, ρ, r, h⟩ := h
  refine ⟨F, ι, μ, ρ, r, h.bind fun oo μ1 F1 ι1 H1 v x1 s1 q1 h1 => ?_⟩
  have r1 := r.ext x1 s1
  by_cases ci : insAt c x ρ μ1 oo = true
  · rw [if_pos ci] at h1
    obtain ⟨a, dx, fs, rfl, e1, e2⟩ := insAt_ok r1 q1 ci
    refine ⟨a, dx, fs, rfl, e1, e2, ht _ _ _ ⟨F1, ι1, μ1, ρ, r1, ?_⟩⟩
    cases ca : as ρ μ1 with
    | stk => rw [ca] at h1; exact h1
    | exc y μ2 => rw [ca] at h1; exact h1
    | ok ds μ2 =>
      rw [ca] at h1
      intro F2 ι2 H2 vs x2 s2 q2
      have q2 : VRs K cad ι2 F2 ds vs := q2
      have h1 : Post K cad W (rlE K cad ρ σ) F1 ι1 H1 σ (methR (noX m) (selfD oo) ds μ2) Q := h1
      cases oo with
      | own _ => exact h1.elim
      | slot _ => exact h1.elim
      | sh d =>
        have qs : VR K cad ι2 F2 d (.ref a) := VR.mono x2.f x2.i _ _ q1
        refine ⟨F2, ι2, μ2, d :: ds, s2, ⟨_, _, rfl, qs, by rw [List.append_nil]; exact q2⟩, hl ρ μ1 ds μ2 ca, ?_⟩
        have h1 : Post K cad W (rlE K cad ρ σ) F1 ι1 H1 σ ((noX m (d :: ds) μ2).bind fun rv μ3 => .ok rv.op μ3) Q := h1
        cases cm : noX m (d :: ds) μ2 with
        | stk => rw [cm] at h1; exact h1
        | exc y μ3 => exact (noX_exc cm).elim
        | ok rv μ3 =>
          rw [cm] at h1
          intro F3 ι3 H3 v3 x3 s3 q3
          refine h1 F3 ι3 H3 v3 (x2.trans x3) s3 ?_
          exact (rlE K cad ρ σ).mono x2.dom (RvR.op q3)
  · rw [if_neg ci] at h1
    exact h1.elim
theorem de_meth (d : DefM X.prog X.w X.K X.mg X.base cad c x j np m) (hC : Cls X.K (cad c)) (hr : Room k X.A) (hj : j ≤ k) (ho : PE X o (tE X.K cad W mo)) (ha : PA X (e :: es) (tDs X.K cad W as)) (hl : ∀ ρ μ ds μ1, as ρ μ = .ok ds μ1 → ds.length + 1 = np) {pl : Sem Bool}
    (he : starEach (e :: es) X.env = (false, eval e X.env) :: starEach es X.env := by rfl) (hpl : (backTo pos (starEach es X.env)).any (·.1) = false := by rfl) (hev : eval (.Call (.Attribute o x apos) (e :: es) [] pos) X.env = (do
      let ov ← eval o X.env
      standAt apos.atName
      let (f, first) ← holding [ov] (getMethod ov x pl)
      callWith pos f first (backTo pos (starEach (e :: es) X.env)) (backToKw pos (keywordEach [] X.env))) := by rfl) :
    PE X (.Call (.Attribute o x apos) (e :: es) [] pos) (tE X.K cad W (eMeth c x (noX m) mo as)) := by
  obtain ⟨f, fd, ps, hn, G, hm, hb⟩ := d
  exact pe_imp (pe_meth ho hC hm G (hr.mono hj) hb .nil pass0 ha he hpl hev) fun σ H Q h => eMeth_ok (fun _ _ _ z => z) h hl
theorem de_meth0 (d : DefM X.prog X.w X.K X.mg X.base cad c x j 1 m) (hC : Cls X.K (cad c)) (hr : Room k X.A) (hj : j ≤ k) (ho : PE X o (tE X.K cad W mo)) {pl : Sem Bool}
    (hev : eval (.Call (.Attribute o x apos) [] [] pos) X.env = (do
      let ov ← eval o X.env
      standAt apos.atName
      let (f, first) ← holding [ov] (getMethod ov x pl)
      callWith pos f first (backTo pos (starEach [] X.env)) (backToKw pos (keywordEach [] X.env))) := by rfl) :
    PE X (.Call (.Attribute o x apos) [] [] pos) (tE X.K cad W (eMeth c x (noX m) mo aNil)) := by
  obtain ⟨f, fd, ps, hn, G, hm, hb⟩ := d
  refine pe_imp (pe_meth0 ho hC hm G (hr.mono hj) hb .nil pass0 hev) fun σ H Q h => eMeth_ok (as := aNil) (fun σ H Q ⟨F, ι, μ, ρ, r, q⟩ => q F ι H [] (Ext.refl _ _ _) r.rs rfl) h fun ρ μ ds μ1 e => by cases e; rfl
theorem eMake_ok {K : PySem.W.Frag} {ta : TA} {σ : L2.St} {H : Hp} {Q : VK} (ht : ∀ σ H Q, tDs K cad W as σ H Q → ta σ H Q) (h : tE K cad W (eMake c (noX m) as) σ H Q) (hl : ∀ ρ μ ds μ1, as ρ μ = .ok ds μ1 → ds.length + 1 = np) : tMake (cad c) (spM K cad np (noX m)) [] E0 ta σ H Q := by
  obtain ⟨F, ι, μ, ρ, r, h⟩ := h
  refine ht _ _ _ ⟨F, ι, μ, ρ, r, ?_⟩
  unfold eMake at h
  cases ca : as ρ μ with
  | stk => rw [ca] at h; exact h
  | exc y μ2 => rw [ca] at h; exact h
  | ok ds μ1 =>
    rw [ca] at h
    have h : Post K cad W (rlE K cad ρ σ) F ι H σ (makeR μ1.length (noX m (.loc μ1.length :: ds) (μ1 ++ [.ins c []]))) Q := h
    intro F1 ι1 H1 vs x1 s1 q1 y dy hy hdy hne
    have q1 : VRs K cad ι1 F1 ds vs := q1
    let H2 := upd H1 dy (.own y)
    have hy2 : H2 y = none := by
      show upd H1 dy (.own y) y = none
      rw [upd_ne (fun z => hne z.symm)]
      exact hy
    have x2 : Ext F1 ι1 H1 F1 ι1 H2 := Ext.newH hdy
    have s2 : RS K cad F1 ι1 μ1 H2 := s1.newH hdy
    have x3 : Ext F1 ι1 H2 F1 ι1 (upd H2 y (.ins (cad c) dy [])) := Ext.newH hy2
    have s3 : RS K cad F1 ι1 μ1 (upd H2 y (.ins (cad c) dy [])) := s2.newH hy2
    have s4 : RS K cad F1 (ι1 ++ [y]) (μ1 ++ [.ins c []]) (upd H2 y (.ins (cad c) dy [])) := s3.push upd_same (s2.fresh hy2).2 (s2.fresh hy2).1 ⟨dy, [], rfl, rfl⟩
    have x4 : Ext F1 ι1 H1 F1 (ι1 ++ [y]) (upd H2 y (.ins (cad c) dy [])) := by
      have z := x2.trans x3
      refine ⟨z.f, pre_snoc _ _, z.kept, z.dom, z.nf, fun b hb hn => ?_, z.lk⟩
      rcases List.mem_append.mp hb with w | w
      · exact absurd w hn
      · have : b = y := by simpa using w
        rw [this]
        exact hy
    have el : (ι1 ++ [y])[μ1.length]? = some y := by rw [← s1.len]; simp
    refine ⟨F1, ι1 ++ [y], μ1 ++ [.ins c []], .loc μ1.length :: ds, s4, ⟨_, _, rfl, VR.loc_.mpr ⟨y, rfl, el⟩, by rw [List.append_nil]; exact VRs.mono (Same.refl _) (pre_snoc _ _) _ _ q1⟩, hl ρ μ ds μ1 ca, ?_⟩
    unfold makeR at h
    cases cm : noX m (.loc μ1.length :: ds) (μ1 ++ [.ins c []]) with
    | stk => rw [cm] at h; exact h
    | exc y μ3 => exact (noX_exc cm).elim
    | ok rv μ3 =>
      rw [cm] at h
      intro F5 ι5 H5 v5 x5 s5 q5
      cases rv with
      | own _ => exact h.elim
      | sh d =>
        cases d with
        | non =>
          refine ⟨VR.non_.mp (show VR K cad ι5 F5 .non v5 from q5), ?_⟩
          exact h F5 ι5 H5 (.ref y) (x1.trans (x4.trans x5)) s5 (show VR K cad ι5 F5 (.loc μ1.length) _ from VR.loc_.mpr ⟨y, rfl, pre_get x5.i el⟩)
        | _ => exact h.elim
theorem de_make (d : DefI X.prog X.w X.K X.mg X.base cad c j np m) (hr : Room k X.A) (hj : j + 1 ≤ k) (hg : Gl X c) (ha : PA X (e :: es) (tDs X.K cad W as)) (hl : ∀ ρ μ ds μ1, as ρ μ = .ok ds μ1 → ds.length + 1 = np) (hdb : (c == ("__debug__" : Str)) = false := by decide)
    (he : starEach (e :: es) X.env = (false, eval e X.env) :: starEach es X.env := by rfl) (hpl : (backTo pos (starEach es X.env)).any (·.1) = false := by rfl) : PE X (.Call (.Name c p) (e :: es) [] pos) (tE X.K cad W (eMake c (noX m) as)) := by
  obtain ⟨f, fd, ps, hn, G, hm, hmg, hb⟩ := d
  exact pe_imp (pe_make hm G (hr.mono hj) hg hmg hb .nil pass0 ha hdb he hpl) fun σ H Q h => eMake_ok (fun _ _ _ z => z) h hl
theorem de_make0 (d : DefI X.prog X.w X.K X.mg X.base cad c j 1 m) (hr : Room k X.A) (hj : j + 1 ≤ k) (hg : Gl X c) (hdb : (c == ("__debug__" : Str)) = false := by decide) : PE X (.Call (.Name c p) [] [] pos) (tE X.K cad W (eMake c (noX m) aNil)) := by
  obtain ⟨f, fd, ps, hn, G, hm, hmg, hb⟩ := d
  exact pe_imp (pe_make0 hm G (hr.mono hj) hg hmg hb .nil pass0 hdb) fun σ H Q h => eMake_ok (as := aNil) (fun σ H Q ⟨F, ι, μ, ρ, r, q⟩ => q F ι H [] (Ext.refl _ _ _) r.rs rfl) h fun ρ μ ds μ1 e => by cases e; rfl
theorem aLen1 {as : MA} {n : Nat} (h : ∀ (ρ : Ev) (μ : Store) (ds : List D) (μ1 : Store), as ρ μ = .ok ds μ1 → ds.length = n) : ∀ (ρ : Ev) (μ : Store) (ds : List D) (μ1 : Store), as ρ μ = .ok ds μ1 → ds.length + 1 = n + 1 := fun ρ μ ds μ1 e => by rw [h ρ μ ds μ1 e]
end
end DL

namespace DL
open PySem PySem.Spec PyProof.Rows L2
/-- a def that calls itself, at depth 0: nothing is promised -/
theorem rec0 {P : Program} {w : World} {K : PySem.W.Frag} {mg : Str → Option Value} {base : Heap} {cad : Str → Addr} {x qual : Str} {st : Stmt} {f : Addr} {fd : FuncData} {N ps : List Str} {j np : Nat} (F : Fun K x qual st f fd) (S : FnScope N ps (defScope st)) (hm : mg x = some (.ref f)) (hb : Binds K fd ps []) (hn : ps.length = np := by rfl) :
    Def0 P w K mg base cad x j np (fun _ _ => .stk) := by
  refine ⟨f, fd, ps, hn, ⟨fun vs H Q E h => ?_, fun A outer s H args us vs Q E _ _ _ _ h => ?_⟩, hm, F.kp, hb⟩
  · obtain ⟨F, ι, μ, ds, rs, q, hl, h⟩ := h
    exact h.elim
  · obtain ⟨F, ι, μ, ds, rs, q, hl, h⟩ := h
    exact h.elim
end DL

/-! ### sorted(t), t a tuple of tuples of ints -/
namespace DL
open PySem PySem.Spec PyProof.Rows L2
def rSortTT (K : PySem.W.Frag) : List V → Hp → VK → Prop := fun vs H Q => ∃ (a : Addr) (xs : List V) (k : V → List Int), vs = [V.ref a] ∧ SqT K H a xs ∧ (∀ x ∈ xs, ∃ t, x = V.ref t ∧ H t = some (.tup ((k x).map V.int)) ∧ k x ≠ []) ∧
  ∀ ys p, ys.Perm xs → (ys.map k).Pairwise (fun a b => HT.lexLt b a = false) → H p = none → Q (.ref p) (upd H p (.lst ys))
section
variable {X : Cx}
theorem cr_sortTT : CallR X (.builtin "sorted") (rSortTT X.K) := by
  intro pins s σ H vs us Q I r h
  obtain ⟨a, xs, k, rfl, hs, hx, q⟩ := h
  obtain ⟨its, rv, ⟨o, ho, hc, n0, hd0⟩, hz⟩ := I.tuple hs
  obtain ⟨u, rfl, ru⟩ := vals1 r
  obtain rfl : u = Value.ref a := ru
  obtain ⟨e1, e2⟩ := refs_back rv fun x m => by
    obtain ⟨t, e, _⟩ := hx x m
    exact ⟨t, e⟩
  have hl : its.length ≤ sizeLine := by rw [← rv.length]; exact hz
  refine SrtT.sorted_coll (vs := its) (k := fun u => k (backV u)) hl (fun v hv => ?_) (fun R hR => ?_) fun h1 h' tk d out s1 s2 kp1 kp2 hle hat => ?_
  · obtain ⟨t, rfl⟩ := e2 v hv
    have hm : V.ref t ∈ xs := by rw [e1]; exact List.mem_map.mpr ⟨_, hv, rfl⟩
    obtain ⟨t', e, ht, hne⟩ := hx _ hm
    cases e
    obtain ⟨_, its2, r2, pt⟩ := I.hok _ _ ht
    exact ⟨⟨t, its2.toArray, rfl, pt, (show IntsAre its2.toArray.toList (k (V.ref t)) by rw [List.toList_toArray]; exact Vals.ints r2)⟩, hne⟩
  · refine wpAny_collect_seq a (.inr rfl) ho hc hd0 (fun h' hk => ?_) (by rw [List.size_toArray]; exact hl)
    rw [List.toList_toArray]
    exact hR h' s.toks hk
  · have I1 : Inv X pins σ H { s with heap := h1, toks := tk } := I.kept kp1
    have h3 : ∀ u ∈ out, ∃ a, u = Value.ref a := fun u hu => e2 u (s2.perm.mem_iff.mp hu)
    have hb : (out.map backV).Perm xs := by
      rw [e1]
      exact s2.perm.map backV
    obtain ⟨n, hat⟩ := hat
    refine ⟨.ref d, upd H d (.lst (out.map backV)), I1.laid (t' := tk) kp2 hle ⟨?_, out, n, vals_back h3, hat⟩, rfl, q _ d hb ?_ (I1.hok.fresh hle)⟩
    · rw [hb.length_eq]
      exact hz
    · rw [List.pairwise_map, List.pairwise_map]
      exact s1
end
def fSrtB : List Vw → Option Rv
  | [.d (.tup ds)] => (D.intss ds).map fun nss => .own (.lst ((sortL nss).map intsD))
  | ws => fSrt ws
def rSrtB (K : PySem.W.Frag) : List V → Hp → VK → Prop := fun vs H Q => rSrt K vs H Q ∨ rSortTT K vs H Q
theorem cr_srtB {X : Cx} (hc : X.calm = true) : CallR X (.builtin "sorted") (rSrtB X.K) := (cr_srt hc).or cr_sortTT
section
variable {K : PySem.W.Frag} {cad : Str → Addr}
theorem sd_srtB : SdB K cad (rSrtB K) fSrtB := by
  intro F ι μ H ws vs rv Q rs hw e q
  unfold fSrtB at e
  split at e
  · next ds =>
    cases c2 : D.intss ds with
    | none => rw [c2] at e; cases e
    | some nss =>
      rw [c2] at e
      cases e
      obtain ⟨v, rfl, hv⟩ := pr1 hw
      obtain ⟨a, us, rfl, e1, r⟩ := vw_tup hv
      obtain ⟨k, k1, k2⟩ := intss_k rs r c2
      refine .inr ⟨a, us, k, rfl, SqT.sub rs e1, fun x hx => ?_, fun ys p h1 h2 hp => ?_⟩
      · obtain ⟨t, f1, f2, f3⟩ := k2 x hx
        exact ⟨t, f1, rs.sub _ _ f2, f3⟩
      · have e3 : ys.map k = sortL nss := sorted_uniq h2 (sortL_sorted nss) (((h1.map k).trans (by rw [k1])).trans (sortL_perm nss).symm)
        dsimp only at q
        rw [← e3] at q
        exact fin_own rs q hp ⟨ys, rfl, perm_VRs fun x hx => k2 x (h1.mem_iff.mp hx)⟩
  · exact .inl (sd_srt rs hw e q)
end
end DL

namespace DL
open PySem PySem.Spec PyProof.Rows L2
/-! ### [.. for x in xs ..], xs a name's own list -/
def eLcO (n : Nat) (g : D → Ev → Option Ev) (ws : List Nat) (t : MT) (e : ME) : ME := fun ρ μ => match ρ[n]? with
  | some (.own (.lst xs)) => (lcL g t e (wipeE ρ ws) xs μ []).bind fun ds μ2 => .ok (.own (.lst ds)) μ2
  | _ => .stk
section
variable {X : Cx} {cad : Str → Addr} {W : WX} {E : Ent} {pos : Pos} {elt tg iter : Expr} {ifs : List Expr} {scope : Scope} {own : List (Str × Nat)} {mi : ME} {t : TG} {g : D → Ev → Option Ev} {mt : MT} {me : ME}
theorem lcO_ok {K : PySem.W.Frag} {ws : List Nat} (gk : GOk K cad t g ws) {σ : L2.St} {ρ : Ev} {F1 H1 : Hp} {ι1 : List Addr} {μ1 : Store} {xs : List D} {aa : Addr} {us : List V} {Q : VK} (r : R K cad F1 ι1 μ1 ρ σ H1) (na : aa ∉ ι1) (ea : H1 aa = some (.lst us)) (ru : VRs K cad ι1 F1 xs us)
    (h1 : Post K cad W (rlE K cad ρ σ) F1 ι1 H1 σ ((lcL g mt me (wipeE ρ ws) xs μ1 []).bind fun ds μ2 => .ok (.own (.lst ds)) μ2) Q) (D : Addr) (hD : H1 D = none) :
    ∃ W : Nat → Nat → Hp → Prop, (∃ m, W 0 m (upd H1 D (.lst []))) ∧ ∀ i m H, W i m H → ((Itl K aa).stop i H ∧ Q (.ref D) H) ∨ ((Itl K aa).go i H ∧ ∃ Nx : Hp → Prop, (∀ H', Nx H' → ∃ m', m' < m ∧ W (i + 1) m' H') ∧ ∀ x H', (Itl K aa).yld i H x H' → t x (wipe σ ws) H' fun σ2 H2 => wipe σ2 ws = wipe σ ws ∧ tT K cad WT mt σ2 H2 fun b H3 =>
      if b = true then tD K cad WT (toD me) σ2 H3 fun y H4 => ∃ acc, H4 D = some (.lst acc) ∧ acc.length < sizeLine ∧ Nx (upd H4 D (.lst (acc ++ [y]))) else Nx H3) := by
  have rw1 := r.wipe ws
  have s1 := r.rs
  let P : Nat → Hp → Prop := fun i H => ∃ F2 ι2 μ2 acc vs, Ext F1 ι1 H1 F2 ι2 H ∧ RS K cad F2 ι2 μ2 H ∧ H D = some (.lst vs) ∧ F2 D = none ∧ D ∉ ι2 ∧ VRs K cad ι2 F2 acc vs ∧
    Post K cad W (rlE K cad ρ σ) F1 ι1 H1 σ ((lcL g mt me (wipeE ρ ws) (xs.drop i) μ2 acc).bind fun ds μ3 => .ok (.own (.lst ds)) μ3) Q
  have hx0 : Ext F1 ι1 H1 F1 ι1 (upd H1 D (.lst [])) := Ext.newH hD
  refine ⟨fun i m H => i ≤ xs.length ∧ m = xs.length - i ∧ P i H, ⟨xs.length, Nat.zero_le _, rfl, F1, ι1, μ1, [], [], hx0, s1.newH hD, upd_same, (s1.fresh hD).1, (s1.fresh hD).2, rfl, h1⟩, ?_⟩
  rintro i m H2 ⟨hl, rfl, F2, ι2, μ2, acc, vs, x2, s2, e2, f2, n2, rv, h2⟩
  by_cases hlt : i < xs.length
  · have ea2 := x2.kept aa _ na ea
    obtain ⟨xv, exv, qxv⟩ := (VRs.mono x2.f x2.i _ _ ru).get (List.getElem?_eq_getElem hlt)
    refine .inr ⟨⟨us, xv, SqL.of ea2, exv⟩, P (i + 1), fun H' p => ⟨xs.length - (i + 1), by omega, hlt, rfl, p⟩, fun x H3 y => ?_⟩
    obtain ⟨F3, x3, s3, v3⟩ : ∃ F3, Ext F2 ι2 H2 F3 ι2 H3 ∧ RS K cad F3 ι2 μ2 H3 ∧ VR K cad ι2 F3 xs[i] x := by
      obtain ⟨rfl, y⟩ := y
      have ex := y us (SqL.of ea2)
      rw [exv] at ex
      cases ex
      exact ⟨F2, Ext.refl _ _ _, s2, qxv⟩
    have orl : OR K cad ι2 F2 (.lst acc) (.lst vs) := ⟨vs, rfl, rv⟩
    have x13 := x2.trans x3
    have e3 := x3.kept D _ n2 e2
    have f3 := x3.apart f2 e2 orl
    have ed : xs.drop i = xs[i] :: xs.drop (i + 1) := List.drop_eq_getElem_cons hlt
    rw [ed] at h2
    unfold lcL at h2
    cases cg : g xs[i] (wipeE ρ ws) with
    | none => rw [cg] at h2; exact h2.elim
    | some ρ4 =>
      rw [cg] at h2
      dsimp only at h2
      refine gk (rw1.ext x13 s3) v3 cg fun σ4 r4 l4 g4 _ => ?_
      refine ⟨wipe_same (by rw [l4, wipe_length]) g4, F3, ι2, μ2, ρ4, r4, ?_⟩
      cases ct : mt ρ4 μ2 with
      | stk => rw [ct] at h2; exact h2
      | exc x μ5 => exact fun _ _ _ _ _ _ _ => trivial
      | ok c μ5 =>
        rw [ct] at h2
        intro F5 ι5 H5 c' x5 s5 q5
        have q5 : c = c' := q5
        subst q5
        have orl3 : OR K cad ι2 F3 (.lst acc) (.lst vs) := orl.mono x3.f List.prefix_rfl
        have e5 := x5.kept D _ n2 e3
        have f5 := x5.apart f3 e3 orl3
        have n5 : D ∉ ι5 := fun z => by have := x5.ni D z n2; rw [e3] at this; cases this
        have orl5 : OR K cad ι5 F5 (.lst acc) (.lst vs) := orl3.mono x5.f x5.i
        have x15 := x13.trans x5
        cases c with
        | false =>
          rw [if_neg Bool.false_ne_true]
          obtain ⟨_, ev, rv5⟩ := orl5
          cases ev
          exact ⟨F5, ι5, μ5, acc, vs, x15, s5, e5, f5, n5, rv5, h2⟩
        | true =>
          rw [if_pos rfl]
          refine ⟨F5, ι5, μ5, ρ4, r4.ext x5 s5, ?_⟩
          have h2 : Post K cad W (rlE K cad ρ σ) F1 ι1 H1 σ (((toD me ρ4 μ5).bind fun d μ2 => if acc.length < 16777216 then lcL g mt me (wipeE ρ ws) (xs.drop (i + 1)) μ2 (acc ++ [d]) else .stk).bind fun ds μ3 => .ok (.own (.lst ds)) μ3) Q := h2
          cases cd : toD me ρ4 μ5 with
          | stk => rw [cd] at h2; exact h2
          | exc x μ6 => exact fun _ _ _ _ _ _ _ => trivial
          | ok d μ6 =>
            rw [cd] at h2
            intro F6 ι6 H6 v x6 s6 q6
            have q6 : VR K cad ι6 F6 d v := q6
            have e6 := x6.kept D _ n5 e5
            have f6 := x6.apart f5 e5 orl5
            have n6 : D ∉ ι6 := fun z => by have := x6.ni D z n5; rw [e5] at this; cases this
            obtain ⟨_, ev, rv6⟩ := orl5.mono x6.f x6.i
            cases ev
            have h2 : Post K cad W (rlE K cad ρ σ) F1 ι1 H1 σ ((if acc.length < 16777216 then lcL g mt me (wipeE ρ ws) (xs.drop (i + 1)) μ6 (acc ++ [d]) else .stk).bind fun ds μ3 => .ok (.own (.lst ds)) μ3) Q := h2
            by_cases hz : acc.length < 16777216
            · rw [if_pos hz] at h2
              refine ⟨vs, e6, by rw [← rv6.len, sizeLine_eq]; exact hz, F6, ι6, μ6, acc ++ [d], vs ++ [v], (x15.trans x6).upd_of (fun _ => hD) (fun o u z => by rw [hD] at z; cases z), ?_, upd_same, f6, n6, rv6.app (VRs.cons q6 VRs.nil), h2⟩
              refine s6.grow (Same.refl _) (fun b o' z => ?_) (fun b hb o' z => ?_) s6.sep
              · rw [upd_ne (fun w => by rw [w, f6] at z; cases z)]
                exact s6.sub b o' z
              · rw [upd_ne (show b ≠ D from fun w => n6 (w ▸ hb))]
                exact z
            · rw [if_neg hz] at h2
              exact h2.elim
  · have e : i = xs.length := by omega
    subst e
    rw [List.drop_length] at h2
    refine .inl ⟨⟨us, SqL.of (x2.kept aa _ na ea), by rw [← ru.len]; exact Nat.le_refl _⟩, ?_⟩
    exact h2 F2 ι2 H2 (.ref D) x2 s2 ⟨D, .lst vs, rfl, f2, n2, hD, e2, vs, rfl, rv⟩
theorem eLcO_ok {K : PySem.W.Frag} {n : Nat} (gk : GOk K cad t g (own.map (·.2))) {σ : L2.St} {H : Hp} {Q : VK} (h : tE K cad W (eLcO n g (own.map (·.2)) mt me) σ H Q) : tLc (iList K (tE K cad W (eVar n))) t (tT K cad WT mt) (tD K cad WT (toD me)) (own.map (·.2)) σ H Q := by
  generalize own.map (·.2) = ws at gk h ⊢
  obtain ⟨F, ι, μ, ρ, r, h⟩ := h
  unfold eLcO at h
  cases c : ρ[n]? with
  | none => rw [c] at h; exact h.elim
  | some sl =>
    rw [c] at h
    cases sl with
    | no => exact h.elim
    | sh d => exact h.elim
    | own o =>
      cases o with
      | lst xs =>
        refine ⟨F, ι, μ, ρ, r, ?_⟩
        have ev : eVar n ρ μ = .ok (.slot n) μ := by unfold eVar; rw [c]
        rw [ev]
        intro F1 ι1 H1 v x1 s1 q1
        obtain ⟨e1, _⟩ := (show σ[n]? = some (some v) ∧ ∃ o, ρ[n]? = some (.own o) from q1)
        have r1 := r.ext x1 s1
        obtain ⟨a, ho, e2, e3, e4, e5, us, rfl, ru⟩ := r1.own n _ c
        rw [e1] at e2
        cases e2
        refine ⟨a, rfl, ⟨us, SqL.of e5⟩, fun D hD => lcO_ok (W := W) gk r1 e4 e5 ru ?_ D hD⟩
        have h : Post K cad W (rlE K cad ρ σ) F ι H σ ((lcL g mt me (wipeE ρ ws) xs μ []).bind fun ds μ2 => .ok (.own (.lst ds)) μ2) Q := h
        exact h.ext x1
      | _ => exact h.elim
theorem de_lcO (n : Nat) (hc : X.calm = true) (hN : X.N.Nodup) (hi : PE X iter (tE X.K cad W (eVar n))) (ok : BlkOk X.N X.env.scope scope own)
    (hg : ∀ (s : Shared) (H : Hp) (C : Addr) (cl : List (Str × Addr)) (fp : List Addr), PG (X.blk s H scope (compEnvC scope cl C X.env) fp) tg t) (gk : GOk X.K cad t g (own.map (·.2)))
    (ht : ∀ (s : Shared) (H : Hp) (C : Addr) (cl : List (Str × Addr)) (fp : List Addr), PTs (X.blk s H scope (compEnvC scope cl C X.env) fp) ifs (tT X.K cad WT mt))
    (he : ∀ (s : Shared) (H : Hp) (C : Addr) (cl : List (Str × Addr)) (fp : List Addr), PE (X.blk s H scope (compEnvC scope cl C X.env) fp) elt (tE X.K cad WT me)) (hs : ∀ x, foldedSetIterable iter X.env x = pure x := by intro _; rfl) :
    PE X (.ListComp elt [⟨tg, iter, ifs, 0⟩] scope pos) (tE X.K cad W (eLcO n g (own.map (·.2)) mt me)) :=
  pe_imp (pe_lc hc hN (pi_list hi) ok hg ht (fun s H C cl fp => de_toD (he s H C cl fp)) hs) fun σ H Q h => eLcO_ok gk h
end
end DL

namespace DL
open PySem PySem.Spec PyProof.Rows L2
/-! ### texts: str(i), int(t), a.split(b), a.join(b), the signs of a text -/
def fStr : List Vw → Option Rv
  | [.d (.int i)] => if i.natAbs.log2 < 1920 then some (.sh (.str (toString i))) else none
  | _ => none
def fIntB : List Vw → Option Rv
  | [.d (.str a)] => match PySem.intText? a with
    | some n => if a.length ≤ 640 then some (.sh (.int n)) else none
    | none => none
  | ws => fInt ws
def rIntB : List V → Hp → VK → Prop := fun xs H Q => ((∃ i, xs = [.int i] ∧ Q (.int i) H) ∨ ∃ k, xs = [.bl k] ∧ Q (.int (if k then 1 else 0)) H) ∨ (∃ a n, xs = [.str a] ∧ PySem.intText? a = some n ∧ a.length ≤ 640 ∧ Q (.int n) H)
theorem call_intB {X : Cx} : CallR X (.type "int") rIntB := call_int1.or call_int_str
section
variable {K : PySem.W.Frag} {cad : Str → Addr}
theorem sd_str : SdB K cad (fun xs H Q => ∃ i, xs = [.int i] ∧ i.natAbs.log2 < 1920 ∧ Q (.str (toString i)) H) fStr := by
  intro F ι μ H ws vs rv Q rs hw e k
  unfold fStr at e
  split at e
  · next i =>
    by_cases c : i.natAbs.log2 < 1920
    · rw [if_pos c] at e
      cases e
      obtain ⟨v, rfl, h⟩ := pr1 hw
      obtain rfl := vw_int h
      exact ⟨_, rfl, c, k F ι H _ (Ext.refl _ _ _) rs (show VR K cad ι F (.str (toString i)) _ from VR.str_.mpr rfl)⟩
    · rw [if_neg c] at e
      cases e
  · cases e
theorem sd_intB : SdB K cad rIntB fIntB := by
  intro F ι μ H ws vs rv Q rs hw e k
  unfold fIntB at e
  split at e
  · next a =>
    cases c : PySem.intText? a with
    | none => rw [c] at e; cases e
    | some n =>
      rw [c] at e
      have e : (if a.length ≤ 640 then some (Rv.sh (.int n)) else none) = some rv := e
      by_cases c2 : a.length ≤ 640
      · rw [if_pos c2] at e
        cases e
        obtain ⟨v, rfl, h⟩ := pr1 hw
        obtain rfl := VR.str_.mp (show VR K cad ι F (.str a) v from h)
        exact .inr ⟨_, _, rfl, c, c2, fin_int rs k⟩
      · rw [if_neg c2] at e
        cases e
  · exact .inl (sd_int rs hw e k)
end
/-- a.split(b) -/
def splitR (a b : Str) (μ : Store) : Res Op := if (b.length == 0) = false ∧ a.length + 2 ≤ 16777216 then .ok (.own (.lst ((Txt.split a b).map .str))) μ else .stk
def eSplit (a b : ME) : ME := fun ρ μ => (toD a ρ μ).bind fun d μ1 => match d with
  | .str s => (toD b ρ μ1).bind fun e μ2 => (match e with
    | .str t => splitR s t μ2
    | _ => .stk)
  | _ => .stk
/-- a.join(b) -/
def D.strs : List D → Option (List Str)
  | [] => some []
  | .str s :: r => (D.strs r).map (s :: ·)
  | _ :: _ => none
def joinR (s : Str) (μ : Store) : Option (List Str) → Res Op
  | some ys => if (ys.map (·.length)).sum + ys.length * s.length ≤ 16777216 then .ok (.sh (.str (Txt.join s ys))) μ else .stk
  | none => .stk
def eJoin (a b : ME) : ME := fun ρ μ => (toD a ρ μ).bind fun d μ1 => match d with
  | .str s => (toD b ρ μ1).bind fun e μ2 => (match e with
    | .lst ds => joinR s μ2 (D.strs ds)
    | .tup ds => joinR s μ2 (D.strs ds)
    | _ => .stk)
  | _ => .stk
/-- the signs of a text -/
def chars (s : Str) : List D := s.cps.toList.map fun c => .str ⟨#[c]⟩
def iTxt (m : ME) : Ev → Store → Res (List D) := fun ρ μ => (toD m ρ μ).bind fun d μ1 => match d with
  | .str s => .ok (chars s) μ1
  | _ => .stk
section
variable {K : PySem.W.Frag} {cad : Str → Addr} {F F' H H' : Hp} {ι ι' : List Addr} {μ : Store}
theorem strs_vals : ∀ {ds : List D} {vs : List V} {ys : List Str}, VRs K cad ι F ds vs → D.strs ds = some ys → vs = ys.map V.str
  | [], _, _, h, e => by
    cases e
    exact h
  | d :: ds, _, ys, h, e => by
    obtain ⟨v, vs, rfl, r, t⟩ := h
    cases d with
    | str s =>
      have e : (D.strs ds).map (s :: ·) = some ys := e
      cases c : D.strs ds with
      | none => rw [c] at e; cases e
      | some zs =>
        rw [c] at e
        cases e
        rw [strs_vals t c, VR.str_.mp r]
        rfl
    | _ => cases e
theorem strs_VRs : ∀ {ys : List Str}, VRs K cad ι F (ys.map DL.D.str) (ys.map V.str)
  | [] => rfl
  | _ :: ys => ⟨_, _, rfl, VR.str_.mpr rfl, strs_VRs (ys := ys)⟩
theorem it_str {s : Str} : ItR K cad F ι (Its s) (chars s) := by
  have hl : (chars s).length = s.cps.size := by unfold chars; rw [List.length_map, Array.length_toList]
  refine ⟨fun {i F1 ι1 μ1 H1} hf hi rs h => ?_, fun {i d F1 ι1 μ1 H1 x H2} hf hi rs ed y => ?_, fun {i F1 ι1 μ1 H1} hf hi rs h => ?_⟩
  · rw [hl] at h; exact h
  · obtain ⟨rfl, c, e1, rfl⟩ := y
    unfold chars at ed
    rw [List.getElem?_map, Array.getElem?_toList, e1] at ed
    cases ed
    exact ⟨F1, Ext.refl _ _ _, rs, VR.str_.mpr rfl⟩
  · rw [hl] at h; exact h
end
section
variable {X : Cx} {cad : Str → Addr} {W : WX} {apos pos : Pos} {o e tg : Expr} {mo me : ME}
theorem de_split (ho : PE X o (tE X.K cad W mo)) (he : PE X e (tE X.K cad W me)) (hs : starEach [e] X.env = [(false, eval e X.env)] := by rfl) (hbase : attributeBase o "split" X.env (eval o X.env) = eval o X.env := by rfl) (hline : (apos.endLine == pos.line) = true := by rfl) :
    PE X (.Call (.Attribute o "split" apos) [e] [] pos) (tE X.K cad W (eSplit mo me)) := by
  refine pe_imp (pe_split (de_toD ho) (de_toD he) hs hbase hline) fun σ H Q ⟨F, ι, μ, ρ, r, q⟩ => ?_
  refine ⟨F, ι, μ, ρ, r, q.bind fun d μ1 F1 ι1 H1 v x1 s1 q1 h1 => ?_⟩
  have q1 : VR X.K cad ι1 F1 d v := q1
  have r1 := r.ext x1 s1
  cases d with
  | str s =>
    obtain rfl := VR.str_.mp q1
    refine ⟨⟨_, rfl⟩, F1, ι1, μ1, ρ, r1, h1.bind fun d2 μ2 F2 ι2 H2 v2 x2 s2 q2 h2 => ?_⟩
    have q2 : VR X.K cad ι2 F2 d2 v2 := q2
    cases d2 with
    | str t =>
      obtain rfl := VR.str_.mp q2
      have h2 : Post X.K cad W (rlE X.K cad ρ σ) F2 ι2 H2 σ (splitR s t μ2) Q := h2
      unfold splitR at h2
      by_cases c : (t.length == 0) = false ∧ s.length + 2 ≤ 16777216
      · rw [if_pos c] at h2
        exact ⟨s, t, rfl, rfl, c.1, by rw [sizeLine_eq]; exact c.2, fun p hp => h2 F2 ι2 _ _ (Ext.newH hp) (s2.newH hp) ⟨p, _, rfl, (s2.fresh hp).1, (s2.fresh hp).2, hp, upd_same, _, rfl, strs_VRs⟩⟩
      · rw [if_neg c] at h2
        exact h2.elim
    | _ => exact h2.elim
  | _ => exact h1.elim
theorem de_join (ho : PE X o (tE X.K cad W mo)) (he : PE X e (tE X.K cad W me)) (hs : starEach [e] X.env = [(false, eval e X.env)] := by rfl) (hbase : attributeBase o "join" X.env (eval o X.env) = eval o X.env := by rfl) (hline : (apos.endLine == pos.line) = true := by rfl) :
    PE X (.Call (.Attribute o "join" apos) [e] [] pos) (tE X.K cad W (eJoin mo me)) := by
  refine pe_imp (pe_join (de_toD ho) (de_toD he) hs hbase hline) fun σ H Q ⟨F, ι, μ, ρ, r, q⟩ => ?_
  refine ⟨F, ι, μ, ρ, r, q.bind fun d μ1 F1 ι1 H1 v x1 s1 q1 h1 => ?_⟩
  have q1 : VR X.K cad ι1 F1 d v := q1
  have r1 := r.ext x1 s1
  cases d with
  | str s =>
    obtain rfl := VR.str_.mp q1
    refine ⟨⟨_, rfl⟩, F1, ι1, μ1, ρ, r1, h1.bind fun d2 μ2 F2 ι2 H2 v2 x2 s2 q2 h2 => ?_⟩
    have q2 : VR X.K cad ι2 F2 d2 v2 := q2
    have fin : ∀ (ds : List DL.D) (p : Addr) (vs : List V), Post X.K cad W (rlE X.K cad ρ σ) F2 ι2 H2 σ (joinR s μ2 (D.strs ds)) Q → VRs X.K cad ι2 F2 ds vs → (∀ ys : List Str, vs = ys.map V.str → SqL X.K H2 p (ys.map V.str) ∨ SqT X.K H2 p (ys.map V.str)) → ∃ a p', ∃ ys : List Str, V.str s = .str a ∧ [V.ref p] = [.ref p'] ∧ (SqL X.K H2 p' (ys.map V.str) ∨ SqT X.K H2 p' (ys.map V.str)) ∧ (ys.map (·.length)).sum + ys.length * a.length ≤ 16777216 ∧ Q (.str (Txt.join a ys)) H2 := fun ds p vs h2 rv hq => by
      cases c : D.strs ds with
      | none => rw [c] at h2; exact h2.elim
      | some ys =>
        rw [c] at h2
        unfold joinR at h2
        by_cases c2 : (ys.map (·.length)).sum + ys.length * s.length ≤ 16777216
        · simp only [c2, if_true] at h2
          exact ⟨s, p, ys, rfl, rfl, hq ys (strs_vals rv c), c2, h2 F2 ι2 H2 _ (Ext.refl _ _ _) s2 (show VR X.K cad ι2 F2 _ _ from VR.str_.mpr rfl)⟩
        · simp only [c2, if_false] at h2
          exact h2.elim
    cases d2 with
    | lst ds =>
      obtain ⟨p, vs, rfl, e1, rv⟩ := VR.lst_.mp q2
      exact fin ds p vs h2 rv fun ys e => .inl (by rw [← e]; exact SqL.of (s2.sub _ _ e1))
    | tup ds =>
      obtain ⟨p, vs, rfl, e1, rv⟩ := VR.tup_.mp q2
      exact fin ds p vs h2 rv fun ys e => .inr (by rw [← e]; exact SqT.of (s2.sub _ _ e1))
    | _ => exact h2.elim
  | _ => exact h1.elim
theorem di_txt (he : PE X e (tE X.K cad W me)) : PI X tg e (tI X.K cad W (iTxt me)) := by
  refine pi_imp (pi_str (de_toD he)) fun σ H Q ⟨F, ι, μ, ρ, r, q⟩ => ?_
  refine ⟨F, ι, μ, ρ, r, ?_⟩
  unfold iTxt at q
  cases c : toD me ρ μ with
  | stk => rw [c] at q; exact q.elim
  | exc x μ1 => rw [c] at q; exact q
  | ok d μ1 =>
    rw [c] at q
    cases d with
    | str s =>
      intro F1 ι1 H1 v x1 s1 q1
      obtain rfl := VR.str_.mp (show VR X.K cad ι1 F1 (.str s) v from q1)
      exact ⟨s, rfl, q F1 ι1 H1 _ x1 s1 it_str⟩
    | _ => exact q.elim
end
end DL

namespace DL
open PySem PySem.Spec PyProof.Rows L2
/-! ### t in W, W a global tuple of texts that never changes -/
def eInC (g : Bool → Bool) (m : ME) (ws : List Str) : ME := fun ρ μ => (toD m ρ μ).bind fun d μ1 => match d with
  | .str s => .ok (.sh (.bl (g (decide (s ∈ ws))))) μ1
  | _ => .stk
theorem inV_strs (s : Str) : ∀ ws : List Str, inV (.str s) (ws.map V.str) = decide (s ∈ ws)
  | [] => rfl
  | w :: ws => by
    show (eqV (.str w) (.str s) || inV (.str s) (ws.map V.str)) = _
    rw [inV_strs s ws]
    have e : eqV (.str w) (.str s) = decide (w = s) := by
      show (w == s) = _
      by_cases c : w = s
      · rw [decide_eq_true c]; exact beq_iff_eq.mpr c
      · rw [decide_eq_false c]; exact beq_eq_false_iff_ne.mpr c
    rw [e]
    by_cases c : w = s
    · simp [c]
    · by_cases c2 : s ∈ ws
      · simp [c2]
      · simp [c, c2, Ne.symm c]
theorem flat_strs (ws : List Str) : (ws.map V.str).all flatV = true := by
  rw [List.all_map, List.all_eq_true]
  intro w _
  rfl
section
variable {X : Cx} {cad : Str → Addr} {W : WX} {pos px : Pos} {e : Expr} {x : Str} {m : ME} {ws : List Str} {a : Addr}
theorem inC_ok {neg : Bool} {g : Bool → Bool} (hg : ∀ b, (if neg then !b else b) = g b) (ht : ∀ H, SqT X.K H a (ws.map V.str)) {σ : L2.St} {H : Hp} {Q : VK} (h : tE X.K cad W (eInC g m ws) σ H Q) : tOp (rIn X.K neg) (tD X.K cad W (toD m)) (tC (.ref a)) σ H Q := by
  obtain ⟨F, ι, μ, ρ, r, q⟩ := h
  refine ⟨F, ι, μ, ρ, r, q.bind fun d μ1 F1 ι1 H1 v x1 s1 q1 h1 => ?_⟩
  have q1 : VR X.K cad ι1 F1 d v := q1
  cases d with
  | str s =>
    obtain rfl := VR.str_.mp q1
    refine ⟨a, ws.map V.str, rfl, .inr (ht H1), rfl, flat_strs ws, ?_⟩
    rw [inV_strs, hg]
    exact h1 F1 ι1 H1 _ (Ext.refl _ _ _) s1 (show VR X.K cad ι1 F1 _ _ from VR.bl_.mpr rfl)
  | _ => exact h1.elim
theorem de_inC (hg : Gl X x) (ht : X.mg x = some (.ref a) ∧ ∀ H, SqT X.K H a (ws.map V.str)) (he : PE X e (tE X.K cad W m)) (hd : (x == ("__debug__" : Str)) = false := by decide) (hm : behindInMarks .In (.Name x px) = false := by first | exact nomark _ | rfl | with_unfolding_all rfl) :
    PE X (.Compare e [.In] [.Name x px] pos) (tE X.K cad W (eInC id m ws)) := pe_imp (pe_cmpR op_in_seq (de_toD he) (pe_glob (v := .ref a) hg ht.1 rfl hd) hm) fun σ H Q q => inC_ok (fun b => rfl) ht.2 q
theorem de_notInC (hg : Gl X x) (ht : X.mg x = some (.ref a) ∧ ∀ H, SqT X.K H a (ws.map V.str)) (he : PE X e (tE X.K cad W m)) (hd : (x == ("__debug__" : Str)) = false := by decide) (hm : behindInMarks .NotIn (.Name x px) = false := by first | exact nomark _ | rfl | with_unfolding_all rfl) :
    PE X (.Compare e [.NotIn] [.Name x px] pos) (tE X.K cad W (eInC not m ws)) := pe_imp (pe_cmpR op_notIn_seq (de_toD he) (pe_glob (v := .ref a) hg ht.1 rfl hd) hm) fun σ H Q q => inC_ok (fun b => rfl) ht.2 q
theorem dt_inC (hg : Gl X x) (ht : X.mg x = some (.ref a) ∧ ∀ H, SqT X.K H a (ws.map V.str)) (he : PE X e (tE X.K cad W m)) (hd : (x == ("__debug__" : Str)) = false := by decide) (hm : behindInMarks .In (.Name x px) = false := by first | exact nomark _ | rfl | with_unfolding_all rfl) :
    PT X (.Compare e [.In] [.Name x px] pos) (tT X.K cad W (mT (eInC id m ws))) := pt_imp (pt_cmpR op_in_seq (de_toD he) (pe_glob (v := .ref a) hg ht.1 rfl hd) hm) fun σ H Q q => inC_ok (fun b => rfl) ht.2 (mT_ok q)
theorem dt_notInC (hg : Gl X x) (ht : X.mg x = some (.ref a) ∧ ∀ H, SqT X.K H a (ws.map V.str)) (he : PE X e (tE X.K cad W m)) (hd : (x == ("__debug__" : Str)) = false := by decide) (hm : behindInMarks .NotIn (.Name x px) = false := by first | exact nomark _ | rfl | with_unfolding_all rfl) :
    PT X (.Compare e [.NotIn] [.Name x px] pos) (tT X.K cad W (mT (eInC not m ws))) := pt_imp (pt_cmpR op_notIn_seq (de_toD he) (pe_glob (v := .ref a) hg ht.1 rfl hd) hm) fun σ H Q q => inC_ok (fun b => rfl) ht.2 (mT_ok q)
end
end DL

namespace Law
open PySem PySem.Spec PyProof.Rows L2 DL
def b_is_row : MS := mRet (eB (mAnd (mT (e2 fEq (eCB fLenB (oCons (eVar 0) (oNil))) (eC (.int 3)))) (mAnd (mT (eCh2 fLe fLt (eC (.int 0)) (e2 fIx (eVar 0) (eC (.int 0))) (eC (.int 8)))) (mT (eCh3 fLe fLe fLe (eC (.int 1)) (e2 fIx (eVar 0) (eC (.int 1))) (e2 fIx (eVar 0) (eC (.int 2))) (eC (.int 1000000000000)))))))
def m_is_row : List D → Store → Res Rv := runB 1 1 b_is_row
def b_need_rows_1 : MS := mIf (mOr (mT (e2 fGe (eVar 1) (eC (.int 200)))) (mNot (mT (eCall (noX m_is_row) (aCons (eVar 2) (aNil)))))) (mStk) (mNx)
def b_need_rows : MS := mFor (iEnumD (eVar 0)) (gT [1, 2]) (b_need_rows_1)
def m_need_rows : List D → Store → Res Rv := runB 3 1 b_need_rows
def b_merged_1 : MS := mIf (mAnd (mT (e2 fNe (eVar 1) (eLst (aNil)))) (mAnd (mT (e2 fEq (e2 fIx (e2 fIx (eVar 1) (e1 fNeg (eC (.int 1)))) (eC (.int 0))) (eVar 2))) (mT (e2 fLe (eVar 3) (e2 fAdd (e2 fIx (e2 fIx (eVar 1) (e1 fNeg (eC (.int 1)))) (eC (.int 2))) (eC (.int 1))))))) (mSetIt (eTup (aCons (eVar 2) (aCons (e2 fIx (e2 fIx (eVar 1) (e1 fNeg (eC (.int 1)))) (eC (.int 1))) (aCons (eCB fMax2 (oCons (e2 fIx (e2 fIx (eVar 1) (e1 fNeg (eC (.int 1)))) (eC (.int 2))) (oCons (eVar 4) (oNil)))) (aNil))))) (eVar 1) (e1 fNeg (eC (.int 1)))) (mApp (eVar 1) (eTup (aCons (eVar 2) (aCons (eVar 3) (aCons (eVar 4) (aNil))))))
def b_merged : MS := mSeq (mOwn 1 (eLst (aNil))) (mSeq (mFor (iSeq (eCB fSrtB (oCons (eVar 0) (oNil)))) (gT [2, 3, 4]) (b_merged_1)) (mRet (eVar 1)))
def m_merged : List D → Store → Res Rv := runB 5 1 b_merged
def b_plain : MS := mSeq (mDrop (eCall (noX m_need_rows) (aCons (eVar 0) (aNil)))) (mRet (eCall (noX m_merged) (aCons (eVar 0) (aNil))))
def m_plain : List D → Store → Res Rv := runB 1 1 b_plain
def b_is_name : MS := mRet (eB (mAnd (mT (eCh2 fLe fLt (eC (.int 0)) (eVar 0) (eC (.int 8)))) (mT (eCh2 fLe fLe (eC (.int 1)) (eVar 1) (eC (.int 1000000000000))))))
def m_is_name : List D → Store → Res Rv := runB 2 2 b_is_name
def t_are_plain_1 : MT := mNot (mT (eCall (noX m_is_row) (aCons (eVar 1) (aNil))))
def e_are_plain_1 : ME := eVar 1
def b_are_plain : MS := mSeq (mIf (mOr (mNot (mT (eIsi "tuple" (eVar 0)))) (mT (e2 fNe (eLc (iSeq (eVar 0)) (gN 1) [1] (t_are_plain_1) (e_are_plain_1)) (eLst (aNil))))) (mRet (eC (.bl false))) (mNx)) (mRet (e2 fEq (eCB fList (oCons (eVar 0) (oNil))) (eCall (noX m_merged) (aCons (eVar 0) (aNil)))))
def m_are_plain : List D → Store → Res Rv := runB 2 1 b_are_plain
def b_is_what : MS := mSeq (mIf (mT (e2 fEq (eCB fLenB (oCons (eVar 0) (oNil))) (eC (.int 1)))) (mRet (e2 fEq (e2 fIx (eVar 0) (eC (.int 0))) (eC (.str "bye")))) (mNx)) (mSeq (mIf (mT (e2 fEq (eCB fLenB (oCons (eVar 0) (oNil))) (eC (.int 2)))) (mRet (eB (mAnd (mT (e2 fEq (e2 fIx (eVar 0) (eC (.int 0))) (eC (.str "seal")))) (mT (eCall (noX m_are_plain) (aCons (e2 fIx (eVar 0) (eC (.int 1))) (aNil))))))) (mNx)) (mSeq (mIf (mT (e2 fNe (eCB fLenB (oCons (eVar 0) (oNil))) (eC (.int 3)))) (mRet (eC (.bl false))) (mNx)) (mSeq (mIf (mT (e2 fEq (e2 fIx (eVar 0) (eC (.int 0))) (eC (.str "back")))) (mRet (eCall (noX m_is_name) (aCons (e2 fIx (eVar 0) (eC (.int 1))) (aCons (e2 fIx (eVar 0) (eC (.int 2))) (aNil))))) (mNx)) (mRet (eB (mAnd (mT (e2 (fIn id) (e2 fIx (eVar 0) (eC (.int 0))) (eTup (aCons (eC (.str "put")) (aCons (eC (.str "add")) (aNil)))))) (mAnd (mT (eCh2 fLe fLt (eC (.int 0)) (e2 fIx (eVar 0) (eC (.int 1))) (eC (.int 6)))) (mT (eCh2 fLe fLe (e2 fSub (eC (.int 0)) (eC (.int 1000000000000))) (e2 fIx (eVar 0) (eC (.int 2))) (eC (.int 1000000000000)))))))))))
def m_is_what : List D → Store → Res Rv := runB 1 1 b_is_what
def b_is_deed : MS := mSeq (mIf (mT (e2 fNe (eCB fLenB (oCons (eVar 0) (oNil))) (eC (.int 4)))) (mRet (eC (.bl false))) (mNx)) (mSeq (mUnp [1, 2, 3, 4] (eVar 0)) (mRet (eB (mAnd (mT (eCall (noX m_is_name) (aCons (eVar 1) (aCons (eVar 2) (aNil))))) (mAnd (mT (eCh2 fLe fLe (eVar 2) (eVar 3) (eC (.int 1000000000000)))) (mT (eCall (noX m_is_what) (aCons (eVar 4) (aNil)))))))))
def m_is_deed : List D → Store → Res Rv := runB 5 1 b_is_deed
def b_need_deeds_1 : MS := mIf (mNot (mT (eCall (noX m_is_deed) (aCons (eVar 2) (aNil))))) (mStk) (mNx)
def b_need_deeds : MS := mFor (iEnumD (eVar 0)) (gT [1, 2]) (b_need_deeds_1)
def m_need_deeds : List D → Store → Res Rv := runB 3 1 b_need_deeds
def b_item_of : MS := mRet (eIf (mT (e2 fEq (eVar 0) (eVar 1))) (eCB fStr (oCons (eVar 0) (oNil))) (e2 fAdd (e2 fAdd (eCB fStr (oCons (eVar 0) (oNil))) (eC (.str "-"))) (eCB fStr (oCons (eVar 1) (oNil)))))
def m_item_of : List D → Store → Res Rv := runB 2 2 b_item_of
def b_words_of_1 : MS := mSetIt (e2 fAdd (eGet2 (eVar 1) (eVar 2) (eLst (aNil))) (eLst (aCons (eCall (noX m_item_of) (aCons (eVar 3) (aCons (eVar 4) (aNil)))) (aNil)))) (eVar 1) (eVar 2)
def e_words_of_1 : ME := e2 fAdd (e2 fAdd (eCB fStr (oCons (eVar 2) (oNil))) (eC (.str ":"))) (eJoin (eC (.str ",")) (e2 fIx (eVar 1) (eVar 2)))
def b_words_of : MS := mSeq (mOwn 1 (eDK)) (mSeq (mFor (iSeq (eVar 0)) (gT [2, 3, 4]) (b_words_of_1)) (mRet (eLc (iSeq (eCB fSrtB (oCons (eVar 1) (oNil)))) (gN 2) [2] (mYes) (e_words_of_1))))
def m_words_of : List D → Store → Res Rv := runB 5 1 b_words_of
def b_written : MS := mRet (eJoin (eC (.str " ")) (eCall (noX m_words_of) (aCons (eCall (noX m_plain) (aCons (eVar 0) (aNil))) (aNil))))
def m_written : List D → Store → Res Rv := runB 1 1 b_written
def t_number_of_1 : MT := mT (e2 (fIn not) (eVar 1) (eC (.str "0123456789")))
def e_number_of_1 : ME := eVar 1
def b_number_of : MS := mSeq (mIf (mOr (mNot (mT (eCh2 fLe fLe (eC (.int 1)) (eCB fLenB (oCons (eVar 0) (oNil))) (eC (.int 13))))) (mT (e2 fNe (eLc (iTxt (eVar 0)) (gN 1) [1] (t_number_of_1) (e_number_of_1)) (eLst (aNil))))) (mRet (eC .non)) (mNx)) (mRet (eIf (mOr (mT (e2 fEq (eVar 0) (eC (.str "0")))) (mT (e2 fNe (e2 fIx (eVar 0) (eC (.int 0))) (eC (.str "0"))))) (eCB fIntB (oCons (eVar 0) (oNil))) (eC .non)))
def m_number_of : List D → Store → Res Rv := runB 2 1 b_number_of
def e_stretch_of_1 : ME := eCall (noX m_number_of) (aCons (eVar 2) (aNil))
def t_stretch_of_1 : MT := mOr (mT (e2 (fIs id) (eVar 2) (eC .non))) (mNot (mT (eCh2 fLe fLe (eC (.int 1)) (eVar 2) (eC (.int 1000000000000)))))
def e_stretch_of_2 : ME := eVar 2
def b_stretch_of : MS := mSeq (mSet 1 (eLc (iSeq (eSplit (eVar 0) (eC (.str "-")))) (gN 2) [2] (mYes) (e_stretch_of_1))) (mSeq (mIf (mOr (mT (e2 fGt (eCB fLenB (oCons (eVar 1) (oNil))) (eC (.int 2)))) (mT (e2 fNe (eLc (iSeq (eVar 1)) (gN 2) [2] (t_stretch_of_1) (e_stretch_of_2)) (eLst (aNil))))) (mRet (eC .non)) (mNx)) (mSeq (mIf (mAnd (mT (e2 fEq (eCB fLenB (oCons (eVar 1) (oNil))) (eC (.int 2)))) (mT (e2 fGe (e2 fIx (eVar 1) (eC (.int 0))) (e2 fIx (eVar 1) (eC (.int 1)))))) (mRet (eC .non)) (mNx)) (mRet (eTup (aCons (e2 fIx (eVar 1) (eC (.int 0))) (aCons (e2 fIx (eVar 1) (e1 fNeg (eC (.int 1)))) (aNil)))))))
def m_stretch_of : List D → Store → Res Rv := runB 3 1 b_stretch_of
def b_rows_of_word_1 : MS := mSeq (mSet 5 (eCall (noX m_stretch_of) (aCons (eVar 4) (aNil)))) (mSeq (mIf (mOr (mT (e2 (fIs id) (eVar 5) (eC .non))) (mAnd (mT (e2 fNe (eVar 3) (eLst (aNil)))) (mT (e2 fLe (e2 fIx (eVar 5) (eC (.int 0))) (e2 fAdd (e2 fIx (e2 fIx (eVar 3) (e1 fNeg (eC (.int 1)))) (eC (.int 2))) (eC (.int 1))))))) (mRet (eC .non)) (mNx)) (mApp (eVar 3) (e2 fAdd (eTup (aCons (eVar 2) (aNil))) (eVar 5))))
def b_rows_of_word : MS := mSeq (mSet 1 (eSplit (eVar 0) (eC (.str ":")))) (mSeq (mSet 2 (eCall (noX m_number_of) (aCons (e2 fIx (eVar 1) (eC (.int 0))) (aNil)))) (mSeq (mIf (mOr (mT (e2 fNe (eCB fLenB (oCons (eVar 1) (oNil))) (eC (.int 2)))) (mOr (mT (e2 (fIs id) (eVar 2) (eC .non))) (mT (e2 fGe (eVar 2) (eC (.int 8)))))) (mRet (eC .non)) (mNx)) (mSeq (mOwn 3 (eLst (aNil))) (mSeq (mFor (iSeq (eSplit (e2 fIx (eVar 1) (eC (.int 1))) (eC (.str ",")))) (gN 4) (b_rows_of_word_1)) (mRet (eVar 3))))))
def m_rows_of_word : List D → Store → Res Rv := runB 6 1 b_rows_of_word
def b_rows_read_1 : MS := mSeq (mSet 5 (eCall (noX m_rows_of_word) (aCons (eVar 4) (aNil)))) (mSeq (mIf (mOr (mT (e2 (fIs id) (eVar 5) (eC .non))) (mAnd (mT (e2 fNe (eVar 2) (eLst (aNil)))) (mT (e2 fLe (e2 fIx (e2 fIx (eVar 5) (eC (.int 0))) (eC (.int 0))) (e2 fIx (e2 fIx (eVar 2) (e1 fNeg (eC (.int 1)))) (eC (.int 0))))))) (mStk) (mNx)) (mExt (eVar 2) (eVar 5)))
def b_rows_read : MS := mSeq (mOwn 2 (eLst (aNil))) (mSeq (mFor (iEnumD (eVar 0)) (gT [3, 4]) (b_rows_read_1)) (mRet (eVar 2)))
def m_rows_read : List D → Store → Res Rv := runB 6 2 b_rows_read
def b_read : MS := mRet (eCall (noX m_rows_read) (aCons (eIf (mT (e2 fNe (eVar 0) (eC (.str "")))) (eSplit (eVar 0) (eC (.str " "))) (eLst (aNil))) (aCons (eC (.int 0)) (aNil))))
def m_read : List D → Store → Res Rv := runB 1 1 b_read
def e_deed_words_1 : ME := eCB fStr (oCons (eVar 6) (oNil))
def b_deed_words : MS := mSeq (mUnp [1, 2, 3, 4] (eVar 0)) (mSeq (mSet 5 (eLst (aCons (eCB fStr (oCons (eVar 1) (oNil))) (aCons (eCB fStr (oCons (eVar 2) (oNil))) (aCons (eCB fStr (oCons (eVar 3) (oNil))) (aCons (e2 fIx (eVar 4) (eC (.int 0))) (aNil))))))) (mSeq (mIf (mT (e2 fEq (e2 fIx (eVar 4) (eC (.int 0))) (eC (.str "seal")))) (mRet (e2 fAdd (eVar 5) (eCall (noX m_words_of) (aCons (e2 fIx (eVar 4) (eC (.int 1))) (aNil))))) (mNx)) (mRet (e2 fAdd (eVar 5) (eLc (iSeq (eCut (eVar 4) (oSome (eC (.int 1))) (oNone))) (gN 6) [6] (mYes) (e_deed_words_1))))))
def m_deed_words : List D → Store → Res Rv := runB 7 1 b_deed_words
def b_written_deed : MS := mSeq (mDrop (eCall (noX m_need_deeds) (aCons (eLst (aCons (eVar 0) (aNil))) (aNil)))) (mRet (eJoin (eC (.str " ")) (eCall (noX m_deed_words) (aCons (eVar 0) (aNil)))))
def m_written_deed : List D → Store → Res Rv := runB 1 1 b_written_deed
def b_signed_of : MS := mSeq (mIf (mT (e2 fNe (eCut (eVar 0) (oNone) (oSome (eC (.int 1)))) (eC (.str "-")))) (mRet (eCall (noX m_number_of) (aCons (eVar 0) (aNil)))) (mNx)) (mSeq (mSet 1 (eCall (noX m_number_of) (aCons (eCut (eVar 0) (oSome (eC (.int 1))) (oNone)) (aNil)))) (mRet (eIf (mOr (mT (e2 (fIs id) (eVar 1) (eC .non))) (mT (e2 fEq (eVar 1) (eC (.int 0))))) (eC .non) (e2 fSub (eC (.int 0)) (eVar 1)))))
def m_signed_of : List D → Store → Res Rv := runB 2 1 b_signed_of
def b_numbers_read_1 : MS := mSeq (mSet 3 (eIf (mT (e2 fLt (eVar 2) (eCB fLenB (oCons (eVar 0) (oNil))))) (eCall (noX m_number_of) (aCons (e2 fIx (eVar 0) (eVar 2)) (aNil))) (eC .non))) (mSeq (mIf (mT (e2 (fIs id) (eVar 3) (eC .non))) (mStk) (mNx)) (mApp (eVar 1) (eVar 3)))
def b_numbers_read : MS := mSeq (mOwn 1 (eLst (aNil))) (mSeq (mFor (iRange1 (eC (.int 3))) (gN 2) (b_numbers_read_1)) (mRet (eCB fTuple (oCons (eVar 1) (oNil)))))
def m_numbers_read : List D → Store → Res Rv := runB 4 1 b_numbers_read
def b_what_read_1 : MS := mSeq (mSet 3 (eIf (mT (e2 fLt (eVar 2) (eCB fLenB (oCons (eVar 0) (oNil))))) (eCall (noX m_signed_of) (aCons (e2 fIx (eVar 0) (eVar 2)) (aNil))) (eC .non))) (mSeq (mIf (mOr (mT (e2 (fIs id) (eVar 3) (eC .non))) (mAnd (mT (e2 fLt (eVar 3) (eC (.int 0)))) (mOr (mT (e2 fEq (eVar 2) (eC (.int 4)))) (mT (e2 fEq (e2 fIx (eVar 0) (eC (.int 3))) (eC (.str "back"))))))) (mStk) (mNx)) (mApp (eVar 1) (eVar 3)))
def b_what_read : MS := mSeq (mOwn 1 (eLst (aCons (e2 fIx (eVar 0) (eC (.int 3))) (aNil)))) (mSeq (mFor (iSeq (eIf (mT (e2 fNe (e2 fIx (eVar 0) (eC (.int 3))) (eC (.str "bye")))) (eTup (aCons (eC (.int 4)) (aCons (eC (.int 5)) (aNil)))) (eTup (aNil)))) (gN 2) (b_what_read_1)) (mSeq (mIf (mT (e2 fGt (eCB fLenB (oCons (eVar 0) (oNil))) (e2 fAdd (eC (.int 3)) (eCB fLenB (oCons (eVar 1) (oNil)))))) (mStk) (mNx)) (mRet (eCB fTuple (oCons (eVar 1) (oNil))))))
def m_what_read : List D → Store → Res Rv := runB 4 1 b_what_read
def b_read_deed : MS := mSeq (mSet 1 (eIf (mT (e2 fNe (eVar 0) (eC (.str "")))) (eSplit (eVar 0) (eC (.str " "))) (eLst (aNil)))) (mSeq (mSet 2 (eCall (noX m_numbers_read) (aCons (eVar 1) (aNil)))) (mSeq (mIf (mOr (mT (e2 fLt (eCB fLenB (oCons (eVar 1) (oNil))) (eC (.int 4)))) (mT (eInC not (e2 fIx (eVar 1) (eC (.int 3))) (["put", "add", "back", "seal", "bye"] : List Str)))) (mStk) (mNx)) (mSeq (mIf (mT (e2 fEq (e2 fIx (eVar 1) (eC (.int 3))) (eC (.str "seal")))) (mSet 3 (e2 fAdd (eVar 2) (eTup (aCons (eTup (aCons (eC (.str "seal")) (aCons (eCB fTuple (oCons (eCall (noX m_rows_read) (aCons (eCut (eVar 1) (oSome (eC (.int 4))) (oNone)) (aCons (eC (.int 4)) (aNil)))) (oNil))) (aNil)))) (aNil))))) (mSet 3 (e2 fAdd (eVar 2) (eTup (aCons (eCall (noX m_what_read) (aCons (eVar 1) (aNil))) (aNil)))))) (mSeq (mIf (mNot (mT (eCall (noX m_is_deed) (aCons (eVar 3) (aNil))))) (mStk) (mNx)) (mRet (eVar 3))))))
def m_read_deed : List D → Store → Res Rv := runB 4 1 b_read_deed
def b__law_dice_1 : MS := mSet 1 (e2 fMod (e2 fAdd (e2 fAdd (e2 fMul (eVar 1) (eC (.int 48271))) (e2 fMul (e2 fMod (eVar 2) (eC (.int 2147483647))) (eC (.int 69621)))) (eC (.int 11))) (eC (.int 2147483647)))
def b__law_dice : MS := mSeq (mSet 1 (eC (.int 0))) (mSeq (mFor (iSeq (eVar 0)) (gN 2) (b__law_dice_1)) (mRet (eLst (aCons (eVar 0) (aCons (eC (.int 0)) (aCons (e2 fMul (eVar 1) (eCB fIntB (oCons (e2 fGt (eCB fLenB (oCons (eVar 0) (oNil))) (eC (.int 2))) (oNil)))) (aCons (eC (.int 0)) (aNil))))))))
def m__law_dice : List D → Store → Res Rv := runB 3 1 b__law_dice
def b__law_next : MS := mSeq (mIf (mT (e2 fGt (e2 fIx (eVar 0) (eC (.int 3))) (eC (.int 0)))) (mSeq (mSet 2 (e2 fMod (e2 fIx (eVar 0) (eC (.int 3))) (eVar 1))) (mSeq (mSetIt (e2 fDiv (e2 fIx (eVar 0) (eC (.int 3))) (eVar 1)) (eVar 0) (eC (.int 3))) (mRet (eVar 2)))) (mNx)) (mSeq (mSetIt (e2 fAdd (e2 fIx (eVar 0) (eC (.int 1))) (eC (.int 1))) (eVar 0) (eC (.int 1))) (mSeq (mIf (mT (e2 fLe (e2 fIx (eVar 0) (eC (.int 1))) (eCB fLenB (oCons (e2 fIx (eVar 0) (eC (.int 0))) (oNil))))) (mSeq (mSet 3 (e2 fIx (e2 fIx (eVar 0) (eC (.int 0))) (e2 fSub (e2 fIx (eVar 0) (eC (.int 1))) (eC (.int 1))))) (mSeq (mSetIt (eIf (mT (e2 fGe (eVar 3) (e2 fPow (eC (.int 10)) (eC (.int 18))))) (e2 fDiv (eVar 3) (eVar 1)) (eC (.int 0))) (eVar 0) (eC (.int 3))) (mRet (e2 fMod (eVar 3) (eVar 1))))) (mNx)) (mSeq (mSetIt (e2 fMod (e2 fMul (e2 fIx (eVar 0) (eC (.int 2))) (eC (.int 48271))) (eC (.int 2147483647))) (eVar 0) (eC (.int 2))) (mRet (e2 fMod (e2 fDiv (e2 fIx (eVar 0) (eC (.int 2))) (eC (.int 7))) (eVar 1))))))
def m__law_next : List D → Store → Res Rv := runB 4 2 b__law_next
def b__law_like_1 (rec : List D → Store → Res Rv) : MS := mIf (mNot (mT (eCall (noX rec) (aCons (e2 fIx (eVar 0) (eVar 2)) (aCons (e2 fIx (eVar 1) (eVar 2)) (aNil)))))) (mRet (eC (.bl false))) (mNx)
def b__law_like (rec : List D → Store → Res Rv) : MS := mSeq (mIf (mT (eIsi "bool" (eVar 1))) (mRet (eB (mAnd (mT (eIsi "bool" (eVar 0))) (mT (e2 fEq (eVar 0) (eVar 1)))))) (mNx)) (mSeq (mIf (mT (eIsi "str" (eVar 1))) (mRet (eB (mAnd (mT (eIsi "str" (eVar 0))) (mT (e2 fEq (eVar 0) (eVar 1)))))) (mNx)) (mSeq (mIf (mT (eIsi "int" (eVar 1))) (mRet (eB (mAnd (mT (eIsi "int" (eVar 0))) (mAnd (mNot (mT (eIsi "bool" (eVar 0)))) (mT (e2 fEq (eVar 0) (eVar 1))))))) (mNx)) (mSeq (mIf (mT (e2 (fIs id) (eVar 1) (eC .non))) (mRet (e2 (fIs id) (eVar 0) (eC .non))) (mNx)) (mSeq (mIf (mOr (mT (e2 fNe (eIsi "tuple" (eVar 1)) (eIsi "tuple" (eVar 0)))) (mT (e2 fNe (eIsi "list" (eVar 1)) (eIsi "list" (eVar 0))))) (mRet (eC (.bl false))) (mNx)) (mSeq (mIf (mT (e2 fNe (eCB fLenB (oCons (eVar 0) (oNil))) (eCB fLenB (oCons (eVar 1) (oNil))))) (mRet (eC (.bl false))) (mNx)) (mSeq (mFor (iRange1 (eCB fLenB (oCons (eVar 1) (oNil)))) (gN 2) (b__law_like_1 rec)) (mRet (eC (.bl true)))))))))
def m__law_like : Nat → List D → Store → Res Rv
  | 0 => fun _ _ => .stk
  | n + 1 => runB 3 2 (b__law_like (m__law_like n))
def b__law_rows_1 : MS := mSeq (mSet 6 (e2 fAdd (eC (.int 1)) (eCall (noX m__law_next) (aCons (eVar 0) (aCons (eVar 2) (aNil)))))) (mSeq (mSet 7 (e2 fIx (eLst (aCons (eC (.int 0)) (aCons (eCall (noX m__law_next) (aCons (eVar 0) (aCons (eC (.int 3)) (aNil)))) (aCons (eCall (noX m__law_next) (aCons (eVar 0) (aCons (eVar 2) (aNil)))) (aNil))))) (eCall (noX m__law_next) (aCons (eVar 0) (aCons (eC (.int 3)) (aNil)))))) (mApp (eVar 4) (eTup (aCons (eCall (noX m__law_next) (aCons (eVar 0) (aCons (eVar 1) (aNil)))) (aCons (eVar 6) (aCons (eCB fMin2 (oCons (eVar 2) (oCons (e2 fAdd (eVar 6) (eVar 7)) (oNil)))) (aNil)))))))
def b__law_rows : MS := mSeq (mOwn 4 (eLst (aNil))) (mSeq (mFor (iRange1 (eCall (noX m__law_next) (aCons (eVar 0) (aCons (e2 fAdd (eVar 3) (eC (.int 1))) (aNil))))) (gN 5) (b__law_rows_1)) (mRet (eVar 4)))
def m__law_rows : List D → Store → Res Rv := runB 8 4 b__law_rows
def e__law_moved_1 : ME := eTup (aCons (eVar 2) (aCons (e2 fAdd (eVar 3) (eVar 1)) (aCons (e2 fAdd (eVar 4) (eVar 1)) (aNil))))
def b__law_moved : MS := mRet (eLc (iSeq (eVar 0)) (gT [2, 3, 4]) [2, 3, 4] (mYes) (e__law_moved_1))
def m__law_moved : List D → Store → Res Rv := runB 5 2 b__law_moved
def b__law_names_1 : MS := mSetIt (eC (.bl true)) (eVar 1) (eTup (aCons (eVar 2) (aCons (eVar 5) (aNil))))
def b__law_names_2 : MS := mFor (iRange2 (eVar 3) (e2 fAdd (eVar 4) (eC (.int 1)))) (gN 5) (b__law_names_1)
def b__law_names : MS := mSeq (mOwn 1 (eDT)) (mSeq (mFor (iSeq (eVar 0)) (gT [2, 3, 4]) (b__law_names_2)) (mRet (eCB fSrtB (oCons (eVar 1) (oNil)))))
def m__law_names : List D → Store → Res Rv := runB 6 1 b__law_names
def b__law_told_rows_1 : MS := mIf (mAnd (mT (e2 fNe (eVar 1) (eLst (aNil)))) (mAnd (mT (e2 fEq (e2 fIx (e2 fIx (eVar 1) (e1 fNeg (eC (.int 1)))) (eC (.int 0))) (eVar 2))) (mT (e2 fEq (e2 fAdd (e2 fIx (e2 fIx (eVar 1) (e1 fNeg (eC (.int 1)))) (eC (.int 2))) (eC (.int 1))) (eVar 3))))) (mSetIt (eTup (aCons (eVar 2) (aCons (e2 fIx (e2 fIx (eVar 1) (e1 fNeg (eC (.int 1)))) (eC (.int 1))) (aCons (eVar 3) (aNil))))) (eVar 1) (e1 fNeg (eC (.int 1)))) (mApp (eVar 1) (eTup (aCons (eVar 2) (aCons (eVar 3) (aCons (eVar 3) (aNil))))))
def b__law_told_rows : MS := mSeq (mOwn 1 (eLst (aNil))) (mSeq (mFor (iSeq (eVar 0)) (gT [2, 3]) (b__law_told_rows_1)) (mRet (eVar 1)))
def m__law_told_rows : List D → Store → Res Rv := runB 4 1 b__law_told_rows
def b__law_what : MS := mSeq (mSet 2 (eCall (noX m__law_next) (aCons (eVar 0) (aCons (eC (.int 8)) (aNil))))) (mSeq (mIf (mT (e2 fLt (eVar 2) (eC (.int 5)))) (mSeq (mSet 3 (e2 fIx (eLst (aCons (e2 fSub (eCall (noX m__law_next) (aCons (eVar 0) (aCons (eC (.int 9)) (aNil)))) (eC (.int 4))) (aCons (eCall (noX m__law_next) (aCons (eVar 0) (aCons (e2 fPow (eC (.int 10)) (eC (.int 12))) (aNil)))) (aNil)))) (eCall (noX m__law_next) (aCons (eVar 0) (aCons (eC (.int 2)) (aNil)))))) (mRet (eTup (aCons (e2 fIx (eLst (aCons (eC (.str "put")) (aCons (eC (.str "add")) (aNil)))) (e2 fMod (eVar 2) (eC (.int 2)))) (aCons (eCall (noX m__law_next) (aCons (eVar 0) (aCons (eC (.int 6)) (aNil)))) (aCons (eVar 3) (aNil))))))) (mNx)) (mSeq (mIf (mT (e2 fEq (eVar 2) (eC (.int 5)))) (mRet (eTup (aCons (eC (.str "back")) (aCons (eCall (noX m__law_next) (aCons (eVar 0) (aCons (eVar 1) (aNil)))) (aCons (e2 fAdd (eC (.int 1)) (eCall (noX m__law_next) (aCons (eVar 0) (aCons (eC (.int 8)) (aNil))))) (aNil)))))) (mNx)) (mRet (eIf (mT (e2 fEq (eVar 2) (eC (.int 6)))) (eTup (aCons (eC (.str "seal")) (aCons (eCB fTuple (oCons (eCall (noX m__law_told_rows) (aCons (eCall (noX m__law_names) (aCons (eCall (noX m__law_rows) (aCons (eVar 0) (aCons (eVar 1) (aCons (eC (.int 8)) (aCons (eC (.int 4)) (aNil)))))) (aNil))) (aNil))) (oNil))) (aNil)))) (eTup (aCons (eC (.str "bye")) (aNil)))))))
def m__law_what : List D → Store → Res Rv := runB 4 2 b__law_what
def r__law_deeds_1 : MS := mSetIt (eTup (aCons (eVar 5) (aCons (eVar 6) (aCons (e2 fAdd (eVar 6) (eCall (noX m__law_next) (aCons (eVar 0) (aCons (eC (.int 20)) (aNil))))) (aCons (eVar 7) (aNil)))))) (eVar 3) (eTup (aCons (eVar 5) (aCons (eVar 6) (aNil))))
def b__law_deeds_1 : MS := mSeq (mPar [5, 6] (aCons (eCall (noX m__law_next) (aCons (eVar 0) (aCons (eVar 2) (aNil)))) (aCons (e2 fAdd (eC (.int 1)) (eCall (noX m__law_next) (aCons (eVar 0) (aCons (eC (.int 8)) (aNil))))) (aNil)))) (mSeq (mSet 7 (eCall (noX m__law_what) (aCons (eVar 0) (aCons (eVar 2) (aNil))))) (mSeq (mIf (mAnd (mT (e2 fNeB (eVar 3) (eDK))) (mT (e2 fEq (eCall (noX m__law_next) (aCons (eVar 0) (aCons (eC (.int 3)) (aNil)))) (eC (.int 0))))) (mSet 7 (e2 fAdd (eTup (aCons (eC (.str "back")) (aNil))) (e2 fIx (eCB fSrtB (oCons (eVar 3) (oNil))) (eCall (noX m__law_next) (aCons (eVar 0) (aCons (eCB fLenB (oCons (eVar 3) (oNil))) (aNil))))))) (mNx)) (r__law_deeds_1)))
def t__law_deeds_1 : MT := mT (e2 fNe (eVar 8) (eLst (aNil)))
def b__law_deeds_2 : MS := mApp (eVar 9) (e2 fIx (eVar 3) (ePop (eVar 8) (eCall (noX m__law_next) (aCons (eVar 0) (aCons (eCB fLenB (oCons (eVar 8) (oNil))) (aNil))))))
def r__law_deeds_2 : MS := mSeq (mSet 8 (eLoc (eCB fSrtB (oCons (eVar 3) (oNil))))) (mSeq (mOwn 9 (eLst (aNil))) (mSeq (whileL (t__law_deeds_1) (b__law_deeds_2) 1000000000) (mRet (eVar 9))))
def b__law_deeds : MS := mSeq (mSet 2 (e2 fAdd (eC (.int 1)) (eCall (noX m__law_next) (aCons (eVar 0) (aCons (eC (.int 4)) (aNil)))))) (mSeq (mOwn 3 (eDT)) (mSeq (mFor (iRange1 (eCall (noX m__law_next) (aCons (eVar 0) (aCons (e2 fAdd (eVar 1) (eC (.int 1))) (aNil))))) (gN 4) (b__law_deeds_1)) (r__law_deeds_2)))
def m__law_deeds : List D → Store → Res Rv := runB 10 2 b__law_deeds
def b__law_text_1 : MS := mIf (mT (e2 fEq (eVar 4) (eVar 2))) (mApp (eVar 3) (eIf (mT (e2 fEq (eVar 5) (eVar 6))) (eCB fStr (oCons (eVar 5) (oNil))) (e2 fAdd (e2 fAdd (eCB fStr (oCons (eVar 5) (oNil))) (eC (.str "-"))) (eCB fStr (oCons (eVar 6) (oNil)))))) (mNx)
def b__law_text_2 : MS := mSeq (mOwn 3 (eLst (aNil))) (mSeq (mFor (iSeq (eVar 0)) (gT [4, 5, 6]) (b__law_text_1)) (mIf (mT (e2 fNe (eVar 3) (eLst (aNil)))) (mSeq (mFrz 3) (mApp (eVar 1) (e2 fAdd (e2 fAdd (eCB fStr (oCons (eVar 2) (oNil))) (eC (.str ":"))) (eJoin (eC (.str ",")) (eVar 3))))) (mNx)))
def b__law_text : MS := mSeq (mOwn 1 (eLst (aNil))) (mSeq (mFor (iRange1 (eC (.int 8))) (gN 2) (b__law_text_2)) (mSeq (mFrz 1) (mRet (eJoin (eC (.str " ")) (eVar 1)))))
def m__law_text : List D → Store → Res Rv := runB 7 1 b__law_text
def e__law_deed_text_1 : ME := eCB fStr (oCons (eVar 6) (oNil))
def b__law_deed_text : MS := mSeq (mUnp [1, 2, 3, 4] (eVar 0)) (mSeq (mSet 5 (eLst (aCons (eCB fStr (oCons (eVar 1) (oNil))) (aCons (eCB fStr (oCons (eVar 2) (oNil))) (aCons (eCB fStr (oCons (eVar 3) (oNil))) (aCons (e2 fIx (eVar 4) (eC (.int 0))) (aNil))))))) (mSeq (mIf (mT (e2 fEq (e2 fIx (eVar 4) (eC (.int 0))) (eC (.str "seal")))) (mRet (eJoin (eC (.str " ")) (e2 fAdd (eVar 5) (e2 fMul (eLst (aCons (eCall (noX m__law_text) (aCons (e2 fIx (eVar 4) (eC (.int 1))) (aNil))) (aNil))) (eCB fIntB (oCons (e2 fNe (e2 fIx (eVar 4) (eC (.int 1))) (eTup (aNil))) (oNil))))))) (mNx)) (mRet (eJoin (eC (.str " ")) (e2 fAdd (eVar 5) (eLc (iSeq (eCut (eVar 4) (oSome (eC (.int 1))) (oNone))) (gN 6) [6] (mYes) (e__law_deed_text_1)))))))
def m__law_deed_text : List D → Store → Res Rv := runB 7 1 b__law_deed_text
def b_law_1 : MS := mSeq (mSet 6 (eLoc (eCall (noX m_read) (aCons (eVar 4) (aNil))))) (mSeq (mIf (mOr (mNot (mT (eCall (noX (m__law_like 8)) (aCons (eCall (noX m_written) (aCons (e2 fAdd (eRev (eVar 3)) (eCut (eVar 3) (oNone) (oSome (eC (.int 3))))) (aNil))) (aCons (eVar 4) (aNil)))))) (mNot (mT (eCall (noX (m__law_like 8)) (aCons (eVar 6) (aCons (eVar 3) (aNil))))))) (mRet (eC (.bl false))) (mNx)) (mApp (eVar 6) (eC (.int 0))))
def b_law_2 : MS := mSeq (mSet 4 (eCall (noX m__law_deed_text) (aCons (eVar 7) (aNil)))) (mIf (mOr (mNot (mT (eCall (noX (m__law_like 8)) (aCons (eCall (noX m_written_deed) (aCons (eVar 7) (aNil))) (aCons (eVar 4) (aNil)))))) (mNot (mT (eCall (noX (m__law_like 8)) (aCons (eCall (noX m_read_deed) (aCons (eVar 4) (aNil))) (aCons (eVar 7) (aNil))))))) (mRet (eC (.bl false))) (mNx))
def b_law_3 : MS := mSeq (mSet 3 (e2 fIx (eLst (aCons (eCall (noX m__law_rows) (aCons (eVar 1) (aCons (eC (.int 8)) (aCons (eC (.int 40)) (aCons (eC (.int 30)) (aNil)))))) (aCons (eCall (noX m__law_rows) (aCons (eVar 1) (aCons (eC (.int 1)) (aCons (eC (.int 400)) (aCons (eC (.int 120)) (aNil)))))) (aNil)))) (e2 fDiv (eCall (noX m__law_next) (aCons (eVar 1) (aCons (eC (.int 4)) (aNil)))) (eC (.int 3))))) (mSeq (mSet 3 (eCall (noX m__law_told_rows) (aCons (eCall (noX m__law_names) (aCons (eVar 3) (aNil))) (aNil)))) (mSeq (mSet 3 (eCall (noX m__law_moved) (aCons (eVar 3) (aCons (e2 fIx (eLst (aCons (eC (.int 0)) (aCons (e2 fSub (e2 fPow (eC (.int 10)) (eC (.int 12))) (eC (.int 400))) (aCons (eCall (noX m__law_next) (aCons (eVar 1) (aCons (e2 fPow (eC (.int 10)) (eC (.int 9))) (aNil)))) (aNil))))) (eCall (noX m__law_next) (aCons (eVar 1) (aCons (eC (.int 3)) (aNil))))) (aNil))))) (mSeq (mSet 4 (eCall (noX m__law_text) (aCons (eVar 3) (aNil)))) (mSeq (mFor (iRange1 (eC (.int 2))) (gN 5) (b_law_1)) (mFor (iSeq (eCall (noX m__law_deeds) (aCons (eVar 1) (aCons (eC (.int 8)) (aNil))))) (gN 7) (b_law_2))))))
def b_law : MS := mSeq (mSet 1 (eLoc (eCall (noX m__law_dice) (aCons (eVar 0) (aNil))))) (mSeq (mFor (iRange1 (eC (.int 3))) (gN 2) (b_law_3)) (mRet (eB (mAnd (mT (e2 fEq (eCall (noX m_read) (aCons (eC (.str "")) (aNil))) (eLst (aNil)))) (mT (e2 fEq (eCall (noX m_written) (aCons (eLst (aNil)) (aNil))) (eC (.str ""))))))))
def m_law : List D → Store → Res Rv := runB 8 1 b_law
end Law

namespace Law
open PySem PySem.Spec PyProof.Rows L2 DL
def top (i : Nat) : Stmt := PySem.Challenge.pw_doneranges_k05_texts.main.body.getD i (.Pass ⟨0, 0, 0, 0⟩)
structure Glob (mg : Str → Option Value) : Prop where
  bool : mg "bool" = none
  enumerate : mg "enumerate" = none
  int : mg "int" = none
  isinstance : mg "isinstance" = none
  len : mg "len" = none
  list : mg "list" = none
  max : mg "max" = none
  min : mg "min" = none
  range : mg "range" = none
  sorted : mg "sorted" = none
  str : mg "str" = none
  tuple : mg "tuple" = none
  c_MOST_HOUSES : ∃ t, mg "MOST_HOUSES" = some (.int 8 t)
  c_MOST_NUMBER : ∃ t, mg "MOST_NUMBER" = some (.int 1000000000000 t)
  c_MOST_ROWS : ∃ t, mg "MOST_ROWS" = some (.int 200 t)
  c_KEYS : ∃ t, mg "KEYS" = some (.int 6 t)
  c_MOST_WORTH : ∃ t, mg "MOST_WORTH" = some (.int 1000000000000 t)
  c_PUT : ∃ t, mg "PUT" = some (.str "put" t)
  c_ADD : ∃ t, mg "ADD" = some (.str "add" t)
  c_BACK : ∃ t, mg "BACK" = some (.str "back" t)
  c_SEAL : ∃ t, mg "SEAL" = some (.str "seal" t)
  c_BYE : ∃ t, mg "BYE" = some (.str "bye" t)
  c_FIGURES : ∃ t, mg "FIGURES" = some (.str "0123456789" t)
  c_MOST_FIGURES : ∃ t, mg "MOST_FIGURES" = some (.int 13 t)
structure ClsF (K : PySem.W.Frag) (cad : Str → Addr) (mg : Str → Option Value) : Prop where
  t_WORDS : mg "WORDS" = some (.ref (cad "WORDS")) ∧ ∀ H, SqT K H (cad "WORDS") ((["put", "add", "back", "seal", "bye"] : List Str).map V.str)
section
variable {P : Program} {w : World} {K : PySem.W.Frag} {mg : Str → Option Value} {base : Heap} {cad : Str → Addr}
abbrev s_is_row : Stmt := top 9
theorem sc_is_row : FnScope ["row"] ["row"] (defScope s_is_row) := ⟨rfl, rfl, rfl, by decide +kernel, rfl, by decide +kernel, by decide +kernel⟩
theorem ok_is_row {f : Addr} {fd : FuncData} (G : Glob mg) (C : ClsF K cad mg)
    (F : Fun K "is_row" "is_row" s_is_row f fd) (hm : mg "is_row" = some (.ref f)) : Def0 P w K mg base cad "is_row" 1 1 m_is_row := by
  have hb : Binds K fd ["row"] [] := F.binds (ps := ["row"]) fun _ _ _ _ _ _ us hl => match us, hl with | [_], _ => rfl
  exact mk0 (N := ["row"]) (ps := ["row"]) (k := 0) (b := b_is_row) F sc_is_row hm hb (fun cdv A outer s H E E0 hr => by
    have hU := hU_of hr
    unfold b_is_row
    exact dss_one (ds_ret (PB.v (pb_and (pb_val (de_cmp (op_eqA hU) sd_eq (de_callB call_lenB sd_lenB (by rfl) G.len bb_len (do_cons (de_var 0) (do_nil))) (de_int))) (pb_and (pb_val (de_ch2 (op_leA hU) sd_ord (op_ltA hU) sd_ord (de_int) (de_ix (ix_all hU) sd_ix (de_var 0) (de_int)) (de_gint (by rfl) G.c_MOST_HOUSES))) (pb_one (pb_val (de_ch3 (op_leA hU) sd_ord (op_leA hU) sd_ord (op_leA hU) sd_ord (de_int) (de_ix (ix_all hU) sd_ix (de_var 0) (de_int)) (de_ix (ix_all hU) sd_ix (de_var 0) (de_int)) (de_gint (by rfl) G.c_MOST_NUMBER)))))))))
abbrev s_need_rows : Stmt := top 10
theorem sc_need_rows : FnScope ["rows", "at", "row"] ["rows"] (defScope s_need_rows) := ⟨rfl, rfl, rfl, by decide +kernel, rfl, by decide +kernel, by decide +kernel⟩
theorem ok_need_rows {f : Addr} {fd : FuncData} (G : Glob mg) (C : ClsF K cad mg)
    (d_is_row : Def0 P w K mg base cad "is_row" 1 1 m_is_row)
    (F : Fun K "need_rows" "need_rows" s_need_rows f fd) (hm : mg "need_rows" = some (.ref f)) : Def0 P w K mg base cad "need_rows" 2 1 m_need_rows := by
  have hb : Binds K fd ["rows"] [] := F.binds (ps := ["rows"]) fun _ _ _ _ _ _ us hl => match us, hl with | [_], _ => rfl
  exact mk0 (N := ["rows", "at", "row"]) (ps := ["rows"]) (k := 1) (b := b_need_rows) F sc_need_rows hm hb (fun cdv A outer s H E E0 hr => by
    have hU := hU_of hr
    unfold b_need_rows
    unfold b_need_rows_1
    exact dss_one (ds_for PassesOwn.never rfl (di_enum (by rfl) G.enumerate (de_var 0)) (pg_tup rfl (pgs_cons (pg_name (i := 1) sc_need_rows.nd rfl (by first | exact Or.inl rfl | exact Or.inr rfl)) (pgs_cons (pg_name (i := 2) sc_need_rows.nd rfl (by first | exact Or.inl rfl | exact Or.inr rfl)) (pgs_nil)))) (g_tup [1, 2] rfl) (dss_one (ds_if (PW.pt (dw_or (dt_cmp (op_geA hU) sd_ord (de_var 1) (de_gint (by rfl) G.c_MOST_ROWS)) (pw_or1 (dt_not (dt_val (de_callD d_is_row hr (by decide) (by rfl) (da_cons (de_var 2) (da_nil)) (aLenS (aLen0)))))))) (dss_one (ds_never _)) (dss_nil)))))
abbrev s_merged : Stmt := top 11
theorem sc_merged : FnScope ["rows", "found", "house", "first", "last"] ["rows"] (defScope s_merged) := ⟨rfl, rfl, rfl, by decide +kernel, rfl, by decide +kernel, by decide +kernel⟩
theorem ok_merged {f : Addr} {fd : FuncData} (G : Glob mg) (C : ClsF K cad mg)
    (F : Fun K "merged" "merged" s_merged f fd) (hm : mg "merged" = some (.ref f)) : Def0 P w K mg base cad "merged" 1 1 m_merged := by
  have hb : Binds K fd ["rows"] [] := F.binds (ps := ["rows"]) fun _ _ _ _ _ _ us hl => match us, hl with | [_], _ => rfl
  exact mk0 (N := ["rows", "found", "house", "first", "last"]) (ps := ["rows"]) (k := 0) (b := b_merged) F sc_merged hm hb (fun cdv A outer s H E E0 hr => by
    have hU := hU_of hr
    unfold b_merged
    unfold b_merged_1
    exact dss_cons (ds_own 1 sc_merged.nd (de_lst (da_nil))) (dss_cons (ds_for PassesOwn.never rfl (di_seq (de_callB (cr_srtB (by rfl)) sd_srtB (by rfl) G.sorted bb_sorted (do_cons (de_var 0) (do_nil)))) (pg_tup rfl (pgs_cons (pg_name (i := 2) sc_merged.nd rfl (by first | exact Or.inl rfl | exact Or.inr rfl)) (pgs_cons (pg_name (i := 3) sc_merged.nd rfl (by first | exact Or.inl rfl | exact Or.inr rfl)) (pgs_cons (pg_name (i := 4) sc_merged.nd rfl (by first | exact Or.inl rfl | exact Or.inr rfl)) (pgs_nil))))) (g_tup [2, 3, 4] rfl) (dss_one (ds_if (PW.pt (dw_and (dt_cmp (op_neA hU) sd_ne (de_var 1) (de_lst (da_nil))) (dw_and (dt_cmp (op_eqA hU) sd_eq (de_ix (ix_all hU) sd_ix (de_ix (ix_all hU) sd_ix (de_var 1) (de_un un_neg sd_neg (de_int))) (de_int)) (de_var 2)) (pw_and1 (dt_cmp (op_leA hU) sd_ord (de_var 3) (de_bin op_addA sd_add (de_ix (ix_all hU) sd_ix (de_ix (ix_all hU) sd_ix (de_var 1) (de_un un_neg sd_neg (de_int))) (de_int)) (de_int))))))) (dss_one (ds_setit hU (de_tup (da_cons (de_var 2) (da_cons (de_ix (ix_all hU) sd_ix (de_ix (ix_all hU) sd_ix (de_var 1) (de_un un_neg sd_neg (de_int))) (de_int)) (da_cons (de_callB (call_max2 (by rfl)) sd_max2 (by rfl) G.max bb_max (do_cons (de_ix (ix_all hU) sd_ix (de_ix (ix_all hU) sd_ix (de_var 1) (de_un un_neg sd_neg (de_int))) (de_int)) (do_cons (de_var 4) (do_nil)))) (da_nil))))) (de_var 1) (de_un un_neg sd_neg (de_int)))) (dss_one (ds_app (de_var 1) (de_tup (da_cons (de_var 2) (da_cons (de_var 3) (da_cons (de_var 4) (da_nil)))))))))) (dss_one (ds_ret (de_var 1)))))
abbrev s_plain : Stmt := top 12
theorem sc_plain : FnScope ["rows"] ["rows"] (defScope s_plain) := ⟨rfl, rfl, rfl, by decide +kernel, rfl, by decide +kernel, by decide +kernel⟩
theorem ok_plain {f : Addr} {fd : FuncData} (G : Glob mg) (C : ClsF K cad mg)
    (d_merged : Def0 P w K mg base cad "merged" 1 1 m_merged)
    (d_need_rows : Def0 P w K mg base cad "need_rows" 2 1 m_need_rows)
    (F : Fun K "plain" "plain" s_plain f fd) (hm : mg "plain" = some (.ref f)) : Def0 P w K mg base cad "plain" 3 1 m_plain := by
  have hb : Binds K fd ["rows"] [] := F.binds (ps := ["rows"]) fun _ _ _ _ _ _ us hl => match us, hl with | [_], _ => rfl
  exact mk0 (N := ["rows"]) (ps := ["rows"]) (k := 2) (b := b_plain) F sc_plain hm hb (fun cdv A outer s H E E0 hr => by
    have hU := hU_of hr
    unfold b_plain
    exact dss_cons (ds_drop (de_callD d_need_rows hr (by decide) (by rfl) (da_cons (de_var 0) (da_nil)) (aLenS (aLen0)))) (dss_one (ds_ret (de_callD d_merged hr (by decide) (by rfl) (da_cons (de_var 0) (da_nil)) (aLenS (aLen0))))))
abbrev s_is_name : Stmt := top 21
theorem sc_is_name : FnScope ["house", "number"] ["house", "number"] (defScope s_is_name) := ⟨rfl, rfl, rfl, by decide +kernel, rfl, by decide +kernel, by decide +kernel⟩
theorem ok_is_name {f : Addr} {fd : FuncData} (G : Glob mg) (C : ClsF K cad mg)
    (F : Fun K "is_name" "is_name" s_is_name f fd) (hm : mg "is_name" = some (.ref f)) : Def0 P w K mg base cad "is_name" 1 2 m_is_name := by
  have hb : Binds K fd ["house", "number"] [] := F.binds (ps := ["house", "number"]) fun _ _ _ _ _ _ us hl => match us, hl with | [_, _], _ => rfl
  exact mk0 (N := ["house", "number"]) (ps := ["house", "number"]) (k := 0) (b := b_is_name) F sc_is_name hm hb (fun cdv A outer s H E E0 hr => by
    have hU := hU_of hr
    unfold b_is_name
    exact dss_one (ds_ret (PB.v (pb_and (pb_val (de_ch2 (op_leA hU) sd_ord (op_ltA hU) sd_ord (de_int) (de_var 0) (de_gint (by rfl) G.c_MOST_HOUSES))) (pb_one (pb_val (de_ch2 (op_leA hU) sd_ord (op_leA hU) sd_ord (de_int) (de_var 1) (de_gint (by rfl) G.c_MOST_NUMBER))))))))
abbrev s_are_plain : Stmt := top 22
theorem sc_are_plain : FnScope ["rows", "row"] ["rows"] (defScope s_are_plain) := ⟨rfl, rfl, rfl, by decide +kernel, rfl, by decide +kernel, by decide +kernel⟩
theorem ok_are_plain {f : Addr} {fd : FuncData} (G : Glob mg) (C : ClsF K cad mg)
    (d_is_row : Def0 P w K mg base cad "is_row" 1 1 m_is_row)
    (d_merged : Def0 P w K mg base cad "merged" 1 1 m_merged)
    (F : Fun K "are_plain" "are_plain" s_are_plain f fd) (hm : mg "are_plain" = some (.ref f)) : Def0 P w K mg base cad "are_plain" 2 1 m_are_plain := by
  have hb : Binds K fd ["rows"] [] := F.binds (ps := ["rows"]) fun _ _ _ _ _ _ us hl => match us, hl with | [_], _ => rfl
  exact mk0 (N := ["rows", "row"]) (ps := ["rows"]) (k := 1) (b := b_are_plain) F sc_are_plain hm hb (fun cdv A outer s H E E0 hr => by
    have hU := hU_of hr
    unfold b_are_plain
    unfold e_are_plain_1
    unfold t_are_plain_1
    exact dss_cons (ds_if (PW.pt (dw_or (dt_not (dt_val (de_isi (by decide) (by rfl) G.isinstance (by rfl) G.tuple bb_tuple (de_var 0)))) (pw_or1 (dt_cmp (op_neA hU) sd_ne (de_lc (own := [("row", 1)]) rfl sc_are_plain.nd (di_seq (de_var 0)) (blkOk_by (own := [("row", 1)]) (N := ["rows", "row"]) (sc := defScope s_are_plain) (by decide +kernel)) (fun _ _ _ _ _ => pg_name (i := 1) sc_are_plain.nd rfl (by first | exact Or.inl rfl | exact Or.inr rfl)) (g_name 1) (fun _ _ _ _ _ => pts_one (dt_not (dt_val (de_callD d_is_row hr (by decide) (by rfl) (da_cons (de_var 1) (da_nil)) (aLenS (aLen0)))))) (fun _ _ _ _ _ => de_var 1)) (de_lst (da_nil)))))) (dss_one (ds_ret (de_bl))) (dss_nil)) (dss_one (ds_ret (de_cmp (op_eqA hU) sd_eq (de_callTy call_list_of sd_list (by rfl) G.list bb_list (do_cons (de_var 0) (do_nil))) (de_callD d_merged hr (by decide) (by rfl) (da_cons (de_var 0) (da_nil)) (aLenS (aLen0)))))))
abbrev s_is_what : Stmt := top 23
theorem sc_is_what : FnScope ["what"] ["what"] (defScope s_is_what) := ⟨rfl, rfl, rfl, by decide +kernel, rfl, by decide +kernel, by decide +kernel⟩
theorem ok_is_what {f : Addr} {fd : FuncData} (G : Glob mg) (C : ClsF K cad mg)
    (d_are_plain : Def0 P w K mg base cad "are_plain" 2 1 m_are_plain)
    (d_is_name : Def0 P w K mg base cad "is_name" 1 2 m_is_name)
    (F : Fun K "is_what" "is_what" s_is_what f fd) (hm : mg "is_what" = some (.ref f)) : Def0 P w K mg base cad "is_what" 3 1 m_is_what := by
  have hb : Binds K fd ["what"] [] := F.binds (ps := ["what"]) fun _ _ _ _ _ _ us hl => match us, hl with | [_], _ => rfl
  exact mk0 (N := ["what"]) (ps := ["what"]) (k := 2) (b := b_is_what) F sc_is_what hm hb (fun cdv A outer s H E E0 hr => by
    have hU := hU_of hr
    unfold b_is_what
    exact dss_cons (ds_if (dt_cmp (op_eqA hU) sd_eq (de_callB call_lenB sd_lenB (by rfl) G.len bb_len (do_cons (de_var 0) (do_nil))) (de_int)) (dss_one (ds_ret (de_cmp (op_eqA hU) sd_eq (de_ix (ix_all hU) sd_ix (de_var 0) (de_int)) (de_gstr (by rfl) G.c_BYE)))) (dss_nil)) (dss_cons (ds_if (dt_cmp (op_eqA hU) sd_eq (de_callB call_lenB sd_lenB (by rfl) G.len bb_len (do_cons (de_var 0) (do_nil))) (de_int)) (dss_one (ds_ret (PB.v (pb_and (pb_val (de_cmp (op_eqA hU) sd_eq (de_ix (ix_all hU) sd_ix (de_var 0) (de_int)) (de_gstr (by rfl) G.c_SEAL))) (pb_one (pb_val (de_callD d_are_plain hr (by decide) (by rfl) (da_cons (de_ix (ix_all hU) sd_ix (de_var 0) (de_int)) (da_nil)) (aLenS (aLen0))))))))) (dss_nil)) (dss_cons (ds_if (dt_cmp (op_neA hU) sd_ne (de_callB call_lenB sd_lenB (by rfl) G.len bb_len (do_cons (de_var 0) (do_nil))) (de_int)) (dss_one (ds_ret (de_bl))) (dss_nil)) (dss_cons (ds_if (dt_cmp (op_eqA hU) sd_eq (de_ix (ix_all hU) sd_ix (de_var 0) (de_int)) (de_gstr (by rfl) G.c_BACK)) (dss_one (ds_ret (de_callD d_is_name hr (by decide) (by rfl) (da_cons (de_ix (ix_all hU) sd_ix (de_var 0) (de_int)) (da_cons (de_ix (ix_all hU) sd_ix (de_var 0) (de_int)) (da_nil))) (aLenS (aLenS (aLen0)))))) (dss_nil)) (dss_one (ds_ret (PB.v (pb_and (pb_val (de_cmp (op_inA hU) sd_in (de_ix (ix_all hU) sd_ix (de_var 0) (de_int)) (de_tup (da_cons (de_gstr (by rfl) G.c_PUT) (da_cons (de_gstr (by rfl) G.c_ADD) (da_nil)))))) (pb_and (pb_val (de_ch2 (op_leA hU) sd_ord (op_ltA hU) sd_ord (de_int) (de_ix (ix_all hU) sd_ix (de_var 0) (de_int)) (de_gint (by rfl) G.c_KEYS))) (pb_one (pb_val (de_ch2 (op_leA hU) sd_ord (op_leA hU) sd_ord (de_bin op_subA sd_sub (de_int) (de_gint (by rfl) G.c_MOST_WORTH)) (de_ix (ix_all hU) sd_ix (de_var 0) (de_int)) (de_gint (by rfl) G.c_MOST_WORTH)))))))))))))
abbrev s_is_deed : Stmt := top 24
theorem sc_is_deed : FnScope ["deed", "house", "number", "time", "what"] ["deed"] (defScope s_is_deed) := ⟨rfl, rfl, rfl, by decide +kernel, rfl, by decide +kernel, by decide +kernel⟩
theorem ok_is_deed {f : Addr} {fd : FuncData} (G : Glob mg) (C : ClsF K cad mg)
    (d_is_name : Def0 P w K mg base cad "is_name" 1 2 m_is_name)
    (d_is_what : Def0 P w K mg base cad "is_what" 3 1 m_is_what)
    (F : Fun K "is_deed" "is_deed" s_is_deed f fd) (hm : mg "is_deed" = some (.ref f)) : Def0 P w K mg base cad "is_deed" 4 1 m_is_deed := by
  have hb : Binds K fd ["deed"] [] := F.binds (ps := ["deed"]) fun _ _ _ _ _ _ us hl => match us, hl with | [_], _ => rfl
  exact mk0 (N := ["deed", "house", "number", "time", "what"]) (ps := ["deed"]) (k := 3) (b := b_is_deed) F sc_is_deed hm hb (fun cdv A outer s H E E0 hr => by
    have hU := hU_of hr
    unfold b_is_deed
    exact dss_cons (ds_if (dt_cmp (op_neA hU) sd_ne (de_callB call_lenB sd_lenB (by rfl) G.len bb_len (do_cons (de_var 0) (do_nil))) (de_int)) (dss_one (ds_ret (de_bl))) (dss_nil)) (dss_cons (ds_unp (is := [1, 2, 3, 4]) (de_var 0) (pg_tup rfl (pgs_cons (pg_name (i := 1) sc_is_deed.nd rfl (by first | exact Or.inl rfl | exact Or.inr rfl)) (pgs_cons (pg_name (i := 2) sc_is_deed.nd rfl (by first | exact Or.inl rfl | exact Or.inr rfl)) (pgs_cons (pg_name (i := 3) sc_is_deed.nd rfl (by first | exact Or.inl rfl | exact Or.inr rfl)) (pgs_cons (pg_name (i := 4) sc_is_deed.nd rfl (by first | exact Or.inl rfl | exact Or.inr rfl)) (pgs_nil))))))) (dss_one (ds_ret (PB.v (pb_and (pb_val (de_callD d_is_name hr (by decide) (by rfl) (da_cons (de_var 1) (da_cons (de_var 2) (da_nil))) (aLenS (aLenS (aLen0))))) (pb_and (pb_val (de_ch2 (op_leA hU) sd_ord (op_leA hU) sd_ord (de_var 2) (de_var 3) (de_gint (by rfl) G.c_MOST_NUMBER))) (pb_one (pb_val (de_callD d_is_what hr (by decide) (by rfl) (da_cons (de_var 4) (da_nil)) (aLenS (aLen0))))))))))))
abbrev s_need_deeds : Stmt := top 25
theorem sc_need_deeds : FnScope ["deeds", "at", "deed"] ["deeds"] (defScope s_need_deeds) := ⟨rfl, rfl, rfl, by decide +kernel, rfl, by decide +kernel, by decide +kernel⟩
theorem ok_need_deeds {f : Addr} {fd : FuncData} (G : Glob mg) (C : ClsF K cad mg)
    (d_is_deed : Def0 P w K mg base cad "is_deed" 4 1 m_is_deed)
    (F : Fun K "need_deeds" "need_deeds" s_need_deeds f fd) (hm : mg "need_deeds" = some (.ref f)) : Def0 P w K mg base cad "need_deeds" 5 1 m_need_deeds := by
  have hb : Binds K fd ["deeds"] [] := F.binds (ps := ["deeds"]) fun _ _ _ _ _ _ us hl => match us, hl with | [_], _ => rfl
  exact mk0 (N := ["deeds", "at", "deed"]) (ps := ["deeds"]) (k := 4) (b := b_need_deeds) F sc_need_deeds hm hb (fun cdv A outer s H E E0 hr => by
    have hU := hU_of hr
    unfold b_need_deeds
    unfold b_need_deeds_1
    exact dss_one (ds_for PassesOwn.never rfl (di_enum (by rfl) G.enumerate (de_var 0)) (pg_tup rfl (pgs_cons (pg_name (i := 1) sc_need_deeds.nd rfl (by first | exact Or.inl rfl | exact Or.inr rfl)) (pgs_cons (pg_name (i := 2) sc_need_deeds.nd rfl (by first | exact Or.inl rfl | exact Or.inr rfl)) (pgs_nil)))) (g_tup [1, 2] rfl) (dss_one (ds_if (dt_not (dt_val (de_callD d_is_deed hr (by decide) (by rfl) (da_cons (de_var 2) (da_nil)) (aLenS (aLen0))))) (dss_one (ds_never _)) (dss_nil)))))
abbrev s_item_of : Stmt := top 30
theorem sc_item_of : FnScope ["first", "last"] ["first", "last"] (defScope s_item_of) := ⟨rfl, rfl, rfl, by decide +kernel, rfl, by decide +kernel, by decide +kernel⟩
theorem ok_item_of {f : Addr} {fd : FuncData} (G : Glob mg) (C : ClsF K cad mg)
    (F : Fun K "item_of" "item_of" s_item_of f fd) (hm : mg "item_of" = some (.ref f)) : Def0 P w K mg base cad "item_of" 1 2 m_item_of := by
  have hb : Binds K fd ["first", "last"] [] := F.binds (ps := ["first", "last"]) fun _ _ _ _ _ _ us hl => match us, hl with | [_, _], _ => rfl
  exact mk0 (N := ["first", "last"]) (ps := ["first", "last"]) (k := 0) (b := b_item_of) F sc_item_of hm hb (fun cdv A outer s H E E0 hr => by
    have hU := hU_of hr
    unfold b_item_of
    exact dss_one (ds_ret (de_ifx (dt_cmp (op_eqA hU) sd_eq (de_var 0) (de_var 1)) (de_callTy call_str_int sd_str (by rfl) G.str bb_str (do_cons (de_var 0) (do_nil))) (de_bin op_addA sd_add (de_bin op_addA sd_add (de_callTy call_str_int sd_str (by rfl) G.str bb_str (do_cons (de_var 0) (do_nil))) (de_str)) (de_callTy call_str_int sd_str (by rfl) G.str bb_str (do_cons (de_var 1) (do_nil)))))))
abbrev s_words_of : Stmt := top 31
theorem sc_words_of : FnScope ["rows", "items", "house", "first", "last"] ["rows"] (defScope s_words_of) := ⟨rfl, rfl, rfl, by decide +kernel, rfl, by decide +kernel, by decide +kernel⟩
theorem ok_words_of {f : Addr} {fd : FuncData} (G : Glob mg) (C : ClsF K cad mg)
    (d_item_of : Def0 P w K mg base cad "item_of" 1 2 m_item_of)
    (F : Fun K "words_of" "words_of" s_words_of f fd) (hm : mg "words_of" = some (.ref f)) : Def0 P w K mg base cad "words_of" 2 1 m_words_of := by
  have hb : Binds K fd ["rows"] [] := F.binds (ps := ["rows"]) fun _ _ _ _ _ _ us hl => match us, hl with | [_], _ => rfl
  exact mk0 (N := ["rows", "items", "house", "first", "last"]) (ps := ["rows"]) (k := 1) (b := b_words_of) F sc_words_of hm hb (fun cdv A outer s H E E0 hr => by
    have hU := hU_of hr
    unfold b_words_of
    unfold e_words_of_1
    unfold b_words_of_1
    exact dss_cons (ds_own 1 sc_words_of.nd (de_dK)) (dss_cons (ds_for PassesOwn.never rfl (di_seq (de_var 0)) (pg_tup rfl (pgs_cons (pg_name (i := 2) sc_words_of.nd rfl (by first | exact Or.inl rfl | exact Or.inr rfl)) (pgs_cons (pg_name (i := 3) sc_words_of.nd rfl (by first | exact Or.inl rfl | exact Or.inr rfl)) (pgs_cons (pg_name (i := 4) sc_words_of.nd rfl (by first | exact Or.inl rfl | exact Or.inr rfl)) (pgs_nil))))) (g_tup [2, 3, 4] rfl) (dss_one (ds_setit hU (de_bin op_addA sd_add (de_get2 hU (de_var 1) (de_var 2) (de_lst (da_nil))) (de_lst (da_cons (de_callD d_item_of hr (by decide) (by rfl) (da_cons (de_var 3) (da_cons (de_var 4) (da_nil))) (aLenS (aLenS (aLen0)))) (da_nil)))) (de_var 1) (de_var 2)))) (dss_one (ds_ret (de_lc (own := [("house", 2)]) rfl sc_words_of.nd (di_seq (de_callB (cr_srtB (by rfl)) sd_srtB (by rfl) G.sorted bb_sorted (do_cons (de_var 1) (do_nil)))) (blkOk_by (own := [("house", 2)]) (N := ["rows", "items", "house", "first", "last"]) (sc := defScope s_words_of) (by decide +kernel)) (fun _ _ _ _ _ => pg_name (i := 2) sc_words_of.nd rfl (by first | exact Or.inl rfl | exact Or.inr rfl)) (g_name 2) (fun _ _ _ _ _ => dts_nil) (fun _ _ _ _ _ => de_bin op_addA sd_add (de_bin op_addA sd_add (de_callTy call_str_int sd_str (by rfl) G.str bb_str (do_cons (de_var 2) (do_nil))) (de_str)) (de_join (de_str) (de_ix (ix_all hU) sd_ix (de_var 1) (de_var 2)))))))))
abbrev s_written : Stmt := top 32
theorem sc_written : FnScope ["rows"] ["rows"] (defScope s_written) := ⟨rfl, rfl, rfl, by decide +kernel, rfl, by decide +kernel, by decide +kernel⟩
theorem ok_written {f : Addr} {fd : FuncData} (G : Glob mg) (C : ClsF K cad mg)
    (d_plain : Def0 P w K mg base cad "plain" 3 1 m_plain)
    (d_words_of : Def0 P w K mg base cad "words_of" 2 1 m_words_of)
    (F : Fun K "written" "written" s_written f fd) (hm : mg "written" = some (.ref f)) : Def0 P w K mg base cad "written" 4 1 m_written := by
  have hb : Binds K fd ["rows"] [] := F.binds (ps := ["rows"]) fun _ _ _ _ _ _ us hl => match us, hl with | [_], _ => rfl
  exact mk0 (N := ["rows"]) (ps := ["rows"]) (k := 3) (b := b_written) F sc_written hm hb (fun cdv A outer s H E E0 hr => by
    have hU := hU_of hr
    unfold b_written
    exact dss_one (ds_ret (de_join (de_str) (de_callD d_words_of hr (by decide) (by rfl) (da_cons (de_callD d_plain hr (by decide) (by rfl) (da_cons (de_var 0) (da_nil)) (aLenS (aLen0))) (da_nil)) (aLenS (aLen0))))))
abbrev s_number_of : Stmt := top 33
theorem sc_number_of : FnScope ["word", "sign"] ["word"] (defScope s_number_of) := ⟨rfl, rfl, rfl, by decide +kernel, rfl, by decide +kernel, by decide +kernel⟩
theorem ok_number_of {f : Addr} {fd : FuncData} (G : Glob mg) (C : ClsF K cad mg)
    (F : Fun K "number_of" "number_of" s_number_of f fd) (hm : mg "number_of" = some (.ref f)) : Def0 P w K mg base cad "number_of" 1 1 m_number_of := by
  have hb : Binds K fd ["word"] [] := F.binds (ps := ["word"]) fun _ _ _ _ _ _ us hl => match us, hl with | [_], _ => rfl
  exact mk0 (N := ["word", "sign"]) (ps := ["word"]) (k := 0) (b := b_number_of) F sc_number_of hm hb (fun cdv A outer s H E E0 hr => by
    have hU := hU_of hr
    unfold b_number_of
    unfold e_number_of_1
    unfold t_number_of_1
    exact dss_cons (ds_if (PW.pt (dw_or (dt_not (dt_ch2 (op_leA hU) sd_ord (op_leA hU) sd_ord (de_int) (de_callB call_lenB sd_lenB (by rfl) G.len bb_len (do_cons (de_var 0) (do_nil))) (de_gint (by rfl) G.c_MOST_FIGURES))) (pw_or1 (dt_cmp (op_neA hU) sd_ne (de_lc (own := [("sign", 1)]) rfl sc_number_of.nd (di_txt (de_var 0)) (blkOk_by (own := [("sign", 1)]) (N := ["word", "sign"]) (sc := defScope s_number_of) (by decide +kernel)) (fun _ _ _ _ _ => pg_name (i := 1) sc_number_of.nd rfl (by first | exact Or.inl rfl | exact Or.inr rfl)) (g_name 1) (fun _ _ _ _ _ => pts_one (dt_cmp (op_notInA hU) sd_notIn (de_var 1) (de_gstr (by rfl) G.c_FIGURES))) (fun _ _ _ _ _ => de_var 1)) (de_lst (da_nil)))))) (dss_one (ds_ret (de_non))) (dss_nil)) (dss_one (ds_ret (de_ifx (PW.pt (dw_or (dt_cmp (op_eqA hU) sd_eq (de_var 0) (de_str)) (pw_or1 (dt_cmp (op_neA hU) sd_ne (de_ix (ix_all hU) sd_ix (de_var 0) (de_int)) (de_str))))) (de_callTy call_intB sd_intB (by rfl) G.int bb_int (do_cons (de_var 0) (do_nil))) (de_non)))))
abbrev s_stretch_of : Stmt := top 34
theorem sc_stretch_of : FnScope ["word", "parts", "part"] ["word"] (defScope s_stretch_of) := ⟨rfl, rfl, rfl, by decide +kernel, rfl, by decide +kernel, by decide +kernel⟩
theorem ok_stretch_of {f : Addr} {fd : FuncData} (G : Glob mg) (C : ClsF K cad mg)
    (d_number_of : Def0 P w K mg base cad "number_of" 1 1 m_number_of)
    (F : Fun K "stretch_of" "stretch_of" s_stretch_of f fd) (hm : mg "stretch_of" = some (.ref f)) : Def0 P w K mg base cad "stretch_of" 2 1 m_stretch_of := by
  have hb : Binds K fd ["word"] [] := F.binds (ps := ["word"]) fun _ _ _ _ _ _ us hl => match us, hl with | [_], _ => rfl
  exact mk0 (N := ["word", "parts", "part"]) (ps := ["word"]) (k := 1) (b := b_stretch_of) F sc_stretch_of hm hb (fun cdv A outer s H E E0 hr => by
    have hU := hU_of hr
    unfold b_stretch_of
    unfold e_stretch_of_2
    unfold t_stretch_of_1
    unfold e_stretch_of_1
    exact dss_cons (ds_setLc 1 (own := [("part", 2)]) rfl sc_stretch_of.nd rfl (sw_true rfl rfl rfl (by decide +kernel)) (di_seq (de_split (de_var 0) (de_str))) (blkOk_by (own := [("part", 2)]) (N := ["word", "parts", "part"]) (sc := defScope s_stretch_of) (by decide +kernel)) (fun _ _ _ _ _ => pg_name (i := 2) sc_stretch_of.nd rfl (by first | exact Or.inl rfl | exact Or.inr rfl)) (g_name 2) (fun _ _ _ _ _ => dts_nil) (fun _ _ _ _ _ => de_callD d_number_of hr (by decide) (by rfl) (da_cons (de_var 2) (da_nil)) (aLenS (aLen0)))) (dss_cons (ds_if (PW.pt (dw_or (dt_cmp (op_gtA hU) sd_ord (de_callB call_lenB sd_lenB (by rfl) G.len bb_len (do_cons (de_var 1) (do_nil))) (de_int)) (pw_or1 (dt_cmp (op_neA hU) sd_ne (de_lc (own := [("part", 2)]) rfl sc_stretch_of.nd (di_seq (de_var 1)) (blkOk_by (own := [("part", 2)]) (N := ["word", "parts", "part"]) (sc := defScope s_stretch_of) (by decide +kernel)) (fun _ _ _ _ _ => pg_name (i := 2) sc_stretch_of.nd rfl (by first | exact Or.inl rfl | exact Or.inr rfl)) (g_name 2) (fun _ _ _ _ _ => pts_one (PW.pt (dw_or (dt_cmp op_isN sd_is (de_var 2) (de_non)) (pw_or1 (dt_not (dt_ch2 (op_leA hU) sd_ord (op_leA hU) sd_ord (de_int) (de_var 2) (de_gint (by rfl) G.c_MOST_NUMBER))))))) (fun _ _ _ _ _ => de_var 2)) (de_lst (da_nil)))))) (dss_one (ds_ret (de_non))) (dss_nil)) (dss_cons (ds_if (PW.pt (dw_and (dt_cmp (op_eqA hU) sd_eq (de_callB call_lenB sd_lenB (by rfl) G.len bb_len (do_cons (de_var 1) (do_nil))) (de_int)) (pw_and1 (dt_cmp (op_geA hU) sd_ord (de_ix (ix_all hU) sd_ix (de_var 1) (de_int)) (de_ix (ix_all hU) sd_ix (de_var 1) (de_int)))))) (dss_one (ds_ret (de_non))) (dss_nil)) (dss_one (ds_ret (de_tup (da_cons (de_ix (ix_all hU) sd_ix (de_var 1) (de_int)) (da_cons (de_ix (ix_all hU) sd_ix (de_var 1) (de_un un_neg sd_neg (de_int))) (da_nil)))))))))
abbrev s_rows_of_word : Stmt := top 35
theorem sc_rows_of_word : FnScope ["word", "parts", "house", "found", "item", "pair"] ["word"] (defScope s_rows_of_word) := ⟨rfl, rfl, rfl, by decide +kernel, rfl, by decide +kernel, by decide +kernel⟩
theorem ok_rows_of_word {f : Addr} {fd : FuncData} (G : Glob mg) (C : ClsF K cad mg)
    (d_number_of : Def0 P w K mg base cad "number_of" 1 1 m_number_of)
    (d_stretch_of : Def0 P w K mg base cad "stretch_of" 2 1 m_stretch_of)
    (F : Fun K "rows_of_word" "rows_of_word" s_rows_of_word f fd) (hm : mg "rows_of_word" = some (.ref f)) : Def0 P w K mg base cad "rows_of_word" 3 1 m_rows_of_word := by
  have hb : Binds K fd ["word"] [] := F.binds (ps := ["word"]) fun _ _ _ _ _ _ us hl => match us, hl with | [_], _ => rfl
  exact mk0 (N := ["word", "parts", "house", "found", "item", "pair"]) (ps := ["word"]) (k := 2) (b := b_rows_of_word) F sc_rows_of_word hm hb (fun cdv A outer s H E E0 hr => by
    have hU := hU_of hr
    unfold b_rows_of_word
    unfold b_rows_of_word_1
    exact dss_cons (ds_set 1 sc_rows_of_word.nd (de_split (de_var 0) (de_str))) (dss_cons (ds_set 2 sc_rows_of_word.nd (de_callD d_number_of hr (by decide) (by rfl) (da_cons (de_ix (ix_all hU) sd_ix (de_var 1) (de_int)) (da_nil)) (aLenS (aLen0)))) (dss_cons (ds_if (PW.pt (dw_or (dt_cmp (op_neA hU) sd_ne (de_callB call_lenB sd_lenB (by rfl) G.len bb_len (do_cons (de_var 1) (do_nil))) (de_int)) (dw_or (dt_cmp op_isN sd_is (de_var 2) (de_non)) (pw_or1 (dt_cmp (op_geA hU) sd_ord (de_var 2) (de_gint (by rfl) G.c_MOST_HOUSES)))))) (dss_one (ds_ret (de_non))) (dss_nil)) (dss_cons (ds_own 3 sc_rows_of_word.nd (de_lst (da_nil))) (dss_cons (ds_for PassesOwn.never rfl (di_seq (de_split (de_ix (ix_all hU) sd_ix (de_var 1) (de_int)) (de_str))) (pg_name (i := 4) sc_rows_of_word.nd rfl (by first | exact Or.inl rfl | exact Or.inr rfl)) (g_name 4) (dss_cons (ds_set 5 sc_rows_of_word.nd (de_callD d_stretch_of hr (by decide) (by rfl) (da_cons (de_var 4) (da_nil)) (aLenS (aLen0)))) (dss_cons (ds_if (PW.pt (dw_or (dt_cmp op_isN sd_is (de_var 5) (de_non)) (pw_or1 (PW.pt (dw_and (dt_cmp (op_neA hU) sd_ne (de_var 3) (de_lst (da_nil))) (pw_and1 (dt_cmp (op_leA hU) sd_ord (de_ix (ix_all hU) sd_ix (de_var 5) (de_int)) (de_bin op_addA sd_add (de_ix (ix_all hU) sd_ix (de_ix (ix_all hU) sd_ix (de_var 3) (de_un un_neg sd_neg (de_int))) (de_int)) (de_int))))))))) (dss_one (ds_ret (de_non))) (dss_nil)) (dss_one (ds_app (de_var 3) (de_bin op_addA sd_add (de_tup (da_cons (de_var 2) (da_nil))) (de_var 5))))))) (dss_one (ds_ret (de_var 3))))))))
abbrev s_rows_read : Stmt := top 36
theorem sc_rows_read : FnScope ["words", "first", "found", "at", "word", "some"] ["words", "first"] (defScope s_rows_read) := ⟨rfl, rfl, rfl, by decide +kernel, rfl, by decide +kernel, by decide +kernel⟩
theorem ok_rows_read {f : Addr} {fd : FuncData} (G : Glob mg) (C : ClsF K cad mg)
    (d_rows_of_word : Def0 P w K mg base cad "rows_of_word" 3 1 m_rows_of_word)
    (F : Fun K "rows_read" "rows_read" s_rows_read f fd) (hm : mg "rows_read" = some (.ref f)) : Def0 P w K mg base cad "rows_read" 4 2 m_rows_read := by
  have hb : Binds K fd ["words", "first"] [] := F.binds (ps := ["words", "first"]) fun _ _ _ _ _ _ us hl => match us, hl with | [_, _], _ => rfl
  exact mk0 (N := ["words", "first", "found", "at", "word", "some"]) (ps := ["words", "first"]) (k := 3) (b := b_rows_read) F sc_rows_read hm hb (fun cdv A outer s H E E0 hr => by
    have hU := hU_of hr
    unfold b_rows_read
    unfold b_rows_read_1
    exact dss_cons (ds_own 2 sc_rows_read.nd (de_lst (da_nil))) (dss_cons (ds_for PassesOwn.never rfl (di_enum (by rfl) G.enumerate (de_var 0)) (pg_tup rfl (pgs_cons (pg_name (i := 3) sc_rows_read.nd rfl (by first | exact Or.inl rfl | exact Or.inr rfl)) (pgs_cons (pg_name (i := 4) sc_rows_read.nd rfl (by first | exact Or.inl rfl | exact Or.inr rfl)) (pgs_nil)))) (g_tup [3, 4] rfl) (dss_cons (ds_set 5 sc_rows_read.nd (de_callD d_rows_of_word hr (by decide) (by rfl) (da_cons (de_var 4) (da_nil)) (aLenS (aLen0)))) (dss_cons (ds_if (PW.pt (dw_or (dt_cmp op_isN sd_is (de_var 5) (de_non)) (pw_or1 (PW.pt (dw_and (dt_cmp (op_neA hU) sd_ne (de_var 2) (de_lst (da_nil))) (pw_and1 (dt_cmp (op_leA hU) sd_ord (de_ix (ix_all hU) sd_ix (de_ix (ix_all hU) sd_ix (de_var 5) (de_int)) (de_int)) (de_ix (ix_all hU) sd_ix (de_ix (ix_all hU) sd_ix (de_var 2) (de_un un_neg sd_neg (de_int))) (de_int))))))))) (dss_one (ds_never _)) (dss_nil)) (dss_one (ds_ext (de_var 2) (de_var 5)))))) (dss_one (ds_ret (de_var 2)))))
abbrev s_read : Stmt := top 37
theorem sc_read : FnScope ["text"] ["text"] (defScope s_read) := ⟨rfl, rfl, rfl, by decide +kernel, rfl, by decide +kernel, by decide +kernel⟩
theorem ok_read {f : Addr} {fd : FuncData} (G : Glob mg) (C : ClsF K cad mg)
    (d_rows_read : Def0 P w K mg base cad "rows_read" 4 2 m_rows_read)
    (F : Fun K "read" "read" s_read f fd) (hm : mg "read" = some (.ref f)) : Def0 P w K mg base cad "read" 5 1 m_read := by
  have hb : Binds K fd ["text"] [] := F.binds (ps := ["text"]) fun _ _ _ _ _ _ us hl => match us, hl with | [_], _ => rfl
  exact mk0 (N := ["text"]) (ps := ["text"]) (k := 4) (b := b_read) F sc_read hm hb (fun cdv A outer s H E E0 hr => by
    have hU := hU_of hr
    unfold b_read
    exact dss_one (ds_ret (de_callD d_rows_read hr (by decide) (by rfl) (da_cons (de_ifx (dt_cmp (op_neA hU) sd_ne (de_var 0) (de_str)) (de_split (de_var 0) (de_str)) (de_lst (da_nil))) (da_cons (de_int) (da_nil))) (aLenS (aLenS (aLen0))))))
abbrev s_deed_words : Stmt := top 38
theorem sc_deed_words : FnScope ["deed", "house", "number", "time", "what", "found", "part"] ["deed"] (defScope s_deed_words) := ⟨rfl, rfl, rfl, by decide +kernel, rfl, by decide +kernel, by decide +kernel⟩
theorem ok_deed_words {f : Addr} {fd : FuncData} (G : Glob mg) (C : ClsF K cad mg)
    (d_words_of : Def0 P w K mg base cad "words_of" 2 1 m_words_of)
    (F : Fun K "deed_words" "deed_words" s_deed_words f fd) (hm : mg "deed_words" = some (.ref f)) : Def0 P w K mg base cad "deed_words" 3 1 m_deed_words := by
  have hb : Binds K fd ["deed"] [] := F.binds (ps := ["deed"]) fun _ _ _ _ _ _ us hl => match us, hl with | [_], _ => rfl
  exact mk0 (N := ["deed", "house", "number", "time", "what", "found", "part"]) (ps := ["deed"]) (k := 2) (b := b_deed_words) F sc_deed_words hm hb (fun cdv A outer s H E E0 hr => by
    have hU := hU_of hr
    unfold b_deed_words
    unfold e_deed_words_1
    exact dss_cons (ds_unp (is := [1, 2, 3, 4]) (de_var 0) (pg_tup rfl (pgs_cons (pg_name (i := 1) sc_deed_words.nd rfl (by first | exact Or.inl rfl | exact Or.inr rfl)) (pgs_cons (pg_name (i := 2) sc_deed_words.nd rfl (by first | exact Or.inl rfl | exact Or.inr rfl)) (pgs_cons (pg_name (i := 3) sc_deed_words.nd rfl (by first | exact Or.inl rfl | exact Or.inr rfl)) (pgs_cons (pg_name (i := 4) sc_deed_words.nd rfl (by first | exact Or.inl rfl | exact Or.inr rfl)) (pgs_nil))))))) (dss_cons (ds_set 5 sc_deed_words.nd (de_lst (da_cons (de_callTy call_str_int sd_str (by rfl) G.str bb_str (do_cons (de_var 1) (do_nil))) (da_cons (de_callTy call_str_int sd_str (by rfl) G.str bb_str (do_cons (de_var 2) (do_nil))) (da_cons (de_callTy call_str_int sd_str (by rfl) G.str bb_str (do_cons (de_var 3) (do_nil))) (da_cons (de_ix (ix_all hU) sd_ix (de_var 4) (de_int)) (da_nil))))))) (dss_cons (ds_if (dt_cmp (op_eqA hU) sd_eq (de_ix (ix_all hU) sd_ix (de_var 4) (de_int)) (de_gstr (by rfl) G.c_SEAL)) (dss_one (ds_ret (de_bin op_addA sd_add (de_var 5) (de_callD d_words_of hr (by decide) (by rfl) (da_cons (de_ix (ix_all hU) sd_ix (de_var 4) (de_int)) (da_nil)) (aLenS (aLen0)))))) (dss_nil)) (dss_one (ds_ret (de_bin op_addA sd_add (de_var 5) (de_lc (own := [("part", 6)]) rfl sc_deed_words.nd (di_seq (de_cut (de_var 4) (do_some (de_int)) (do_none))) (blkOk_by (own := [("part", 6)]) (N := ["deed", "house", "number", "time", "what", "found", "part"]) (sc := defScope s_deed_words) (by decide +kernel)) (fun _ _ _ _ _ => pg_name (i := 6) sc_deed_words.nd rfl (by first | exact Or.inl rfl | exact Or.inr rfl)) (g_name 6) (fun _ _ _ _ _ => dts_nil) (fun _ _ _ _ _ => de_callTy call_str_int sd_str (by rfl) G.str bb_str (do_cons (de_var 6) (do_nil))))))))))
abbrev s_written_deed : Stmt := top 39
theorem sc_written_deed : FnScope ["deed"] ["deed"] (defScope s_written_deed) := ⟨rfl, rfl, rfl, by decide +kernel, rfl, by decide +kernel, by decide +kernel⟩
theorem ok_written_deed {f : Addr} {fd : FuncData} (G : Glob mg) (C : ClsF K cad mg)
    (d_deed_words : Def0 P w K mg base cad "deed_words" 3 1 m_deed_words)
    (d_need_deeds : Def0 P w K mg base cad "need_deeds" 5 1 m_need_deeds)
    (F : Fun K "written_deed" "written_deed" s_written_deed f fd) (hm : mg "written_deed" = some (.ref f)) : Def0 P w K mg base cad "written_deed" 6 1 m_written_deed := by
  have hb : Binds K fd ["deed"] [] := F.binds (ps := ["deed"]) fun _ _ _ _ _ _ us hl => match us, hl with | [_], _ => rfl
  exact mk0 (N := ["deed"]) (ps := ["deed"]) (k := 5) (b := b_written_deed) F sc_written_deed hm hb (fun cdv A outer s H E E0 hr => by
    have hU := hU_of hr
    unfold b_written_deed
    exact dss_cons (ds_drop (de_callD d_need_deeds hr (by decide) (by rfl) (da_cons (de_lst (da_cons (de_var 0) (da_nil))) (da_nil)) (aLenS (aLen0)))) (dss_one (ds_ret (de_join (de_str) (de_callD d_deed_words hr (by decide) (by rfl) (da_cons (de_var 0) (da_nil)) (aLenS (aLen0)))))))
abbrev s_signed_of : Stmt := top 40
theorem sc_signed_of : FnScope ["word", "found"] ["word"] (defScope s_signed_of) := ⟨rfl, rfl, rfl, by decide +kernel, rfl, by decide +kernel, by decide +kernel⟩
theorem ok_signed_of {f : Addr} {fd : FuncData} (G : Glob mg) (C : ClsF K cad mg)
    (d_number_of : Def0 P w K mg base cad "number_of" 1 1 m_number_of)
    (F : Fun K "signed_of" "signed_of" s_signed_of f fd) (hm : mg "signed_of" = some (.ref f)) : Def0 P w K mg base cad "signed_of" 2 1 m_signed_of := by
  have hb : Binds K fd ["word"] [] := F.binds (ps := ["word"]) fun _ _ _ _ _ _ us hl => match us, hl with | [_], _ => rfl
  exact mk0 (N := ["word", "found"]) (ps := ["word"]) (k := 1) (b := b_signed_of) F sc_signed_of hm hb (fun cdv A outer s H E E0 hr => by
    have hU := hU_of hr
    unfold b_signed_of
    exact dss_cons (ds_if (dt_cmp (op_neA hU) sd_ne (de_cut (de_var 0) (do_none) (do_some (de_int))) (de_str)) (dss_one (ds_ret (de_callD d_number_of hr (by decide) (by rfl) (da_cons (de_var 0) (da_nil)) (aLenS (aLen0))))) (dss_nil)) (dss_cons (ds_set 1 sc_signed_of.nd (de_callD d_number_of hr (by decide) (by rfl) (da_cons (de_cut (de_var 0) (do_some (de_int)) (do_none)) (da_nil)) (aLenS (aLen0)))) (dss_one (ds_ret (de_ifx (PW.pt (dw_or (dt_cmp op_isN sd_is (de_var 1) (de_non)) (pw_or1 (dt_cmp (op_eqA hU) sd_eq (de_var 1) (de_int))))) (de_non) (de_bin op_subA sd_sub (de_int) (de_var 1)))))))
abbrev s_numbers_read : Stmt := top 41
theorem sc_numbers_read : FnScope ["words", "found", "at", "number"] ["words"] (defScope s_numbers_read) := ⟨rfl, rfl, rfl, by decide +kernel, rfl, by decide +kernel, by decide +kernel⟩
theorem ok_numbers_read {f : Addr} {fd : FuncData} (G : Glob mg) (C : ClsF K cad mg)
    (d_number_of : Def0 P w K mg base cad "number_of" 1 1 m_number_of)
    (F : Fun K "numbers_read" "numbers_read" s_numbers_read f fd) (hm : mg "numbers_read" = some (.ref f)) : Def0 P w K mg base cad "numbers_read" 2 1 m_numbers_read := by
  have hb : Binds K fd ["words"] [] := F.binds (ps := ["words"]) fun _ _ _ _ _ _ us hl => match us, hl with | [_], _ => rfl
  exact mk0 (N := ["words", "found", "at", "number"]) (ps := ["words"]) (k := 1) (b := b_numbers_read) F sc_numbers_read hm hb (fun cdv A outer s H E E0 hr => by
    have hU := hU_of hr
    unfold b_numbers_read
    unfold b_numbers_read_1
    exact dss_cons (ds_own 1 sc_numbers_read.nd (de_lst (da_nil))) (dss_cons (ds_for PassesOwn.never rfl (di_range1 (by rfl) G.range (de_int)) (pg_name (i := 2) sc_numbers_read.nd rfl (by first | exact Or.inl rfl | exact Or.inr rfl)) (g_name 2) (dss_cons (ds_set 3 sc_numbers_read.nd (de_ifx (dt_cmp (op_ltA hU) sd_ord (de_var 2) (de_callB call_lenB sd_lenB (by rfl) G.len bb_len (do_cons (de_var 0) (do_nil)))) (de_callD d_number_of hr (by decide) (by rfl) (da_cons (de_ix (ix_all hU) sd_ix (de_var 0) (de_var 2)) (da_nil)) (aLenS (aLen0))) (de_non))) (dss_cons (ds_if (dt_cmp op_isN sd_is (de_var 3) (de_non)) (dss_one (ds_never _)) (dss_nil)) (dss_one (ds_app (de_var 1) (de_var 3)))))) (dss_one (ds_ret (de_callTy call_tuple_of sd_tuple (by rfl) G.tuple bb_tuple (do_cons (de_var 1) (do_nil)))))))
abbrev s_what_read : Stmt := top 43
theorem sc_what_read : FnScope ["words", "found", "at", "number"] ["words"] (defScope s_what_read) := ⟨rfl, rfl, rfl, by decide +kernel, rfl, by decide +kernel, by decide +kernel⟩
theorem ok_what_read {f : Addr} {fd : FuncData} (G : Glob mg) (C : ClsF K cad mg)
    (d_signed_of : Def0 P w K mg base cad "signed_of" 2 1 m_signed_of)
    (F : Fun K "what_read" "what_read" s_what_read f fd) (hm : mg "what_read" = some (.ref f)) : Def0 P w K mg base cad "what_read" 3 1 m_what_read := by
  have hb : Binds K fd ["words"] [] := F.binds (ps := ["words"]) fun _ _ _ _ _ _ us hl => match us, hl with | [_], _ => rfl
  exact mk0 (N := ["words", "found", "at", "number"]) (ps := ["words"]) (k := 2) (b := b_what_read) F sc_what_read hm hb (fun cdv A outer s H E E0 hr => by
    have hU := hU_of hr
    unfold b_what_read
    unfold b_what_read_1
    exact dss_cons (ds_own 1 sc_what_read.nd (de_lst (da_cons (de_ix (ix_all hU) sd_ix (de_var 0) (de_int)) (da_nil)))) (dss_cons (ds_for PassesOwn.never rfl (di_seq (de_ifx (dt_cmp (op_neA hU) sd_ne (de_ix (ix_all hU) sd_ix (de_var 0) (de_int)) (de_gstr (by rfl) G.c_BYE)) (de_tup (da_cons (de_int) (da_cons (de_int) (da_nil)))) (de_tup (da_nil)))) (pg_name (i := 2) sc_what_read.nd rfl (by first | exact Or.inl rfl | exact Or.inr rfl)) (g_name 2) (dss_cons (ds_set 3 sc_what_read.nd (de_ifx (dt_cmp (op_ltA hU) sd_ord (de_var 2) (de_callB call_lenB sd_lenB (by rfl) G.len bb_len (do_cons (de_var 0) (do_nil)))) (de_callD d_signed_of hr (by decide) (by rfl) (da_cons (de_ix (ix_all hU) sd_ix (de_var 0) (de_var 2)) (da_nil)) (aLenS (aLen0))) (de_non))) (dss_cons (ds_if (PW.pt (dw_or (dt_cmp op_isN sd_is (de_var 3) (de_non)) (pw_or1 (PW.pt (dw_and (dt_cmp (op_ltA hU) sd_ord (de_var 3) (de_int)) (pw_and1 (PW.pt (dw_or (dt_cmp (op_eqA hU) sd_eq (de_var 2) (de_int)) (pw_or1 (dt_cmp (op_eqA hU) sd_eq (de_ix (ix_all hU) sd_ix (de_var 0) (de_int)) (de_gstr (by rfl) G.c_BACK))))))))))) (dss_one (ds_never _)) (dss_nil)) (dss_one (ds_app (de_var 1) (de_var 3)))))) (dss_cons (ds_if (dt_cmp (op_gtA hU) sd_ord (de_callB call_lenB sd_lenB (by rfl) G.len bb_len (do_cons (de_var 0) (do_nil))) (de_bin op_addA sd_add (de_int) (de_callB call_lenB sd_lenB (by rfl) G.len bb_len (do_cons (de_var 1) (do_nil))))) (dss_one (ds_never _)) (dss_nil)) (dss_one (ds_ret (de_callTy call_tuple_of sd_tuple (by rfl) G.tuple bb_tuple (do_cons (de_var 1) (do_nil))))))))
abbrev s_read_deed : Stmt := top 42
theorem sc_read_deed : FnScope ["text", "words", "head", "found"] ["text"] (defScope s_read_deed) := ⟨rfl, rfl, rfl, by decide +kernel, rfl, by decide +kernel, by decide +kernel⟩
theorem ok_read_deed {f : Addr} {fd : FuncData} (G : Glob mg) (C : ClsF K cad mg)
    (d_is_deed : Def0 P w K mg base cad "is_deed" 4 1 m_is_deed)
    (d_numbers_read : Def0 P w K mg base cad "numbers_read" 2 1 m_numbers_read)
    (d_rows_read : Def0 P w K mg base cad "rows_read" 4 2 m_rows_read)
    (d_what_read : Def0 P w K mg base cad "what_read" 3 1 m_what_read)
    (F : Fun K "read_deed" "read_deed" s_read_deed f fd) (hm : mg "read_deed" = some (.ref f)) : Def0 P w K mg base cad "read_deed" 5 1 m_read_deed := by
  have hb : Binds K fd ["text"] [] := F.binds (ps := ["text"]) fun _ _ _ _ _ _ us hl => match us, hl with | [_], _ => rfl
  exact mk0 (N := ["text", "words", "head", "found"]) (ps := ["text"]) (k := 4) (b := b_read_deed) F sc_read_deed hm hb (fun cdv A outer s H E E0 hr => by
    have hU := hU_of hr
    unfold b_read_deed
    exact dss_cons (ds_set 1 sc_read_deed.nd (de_ifx (dt_cmp (op_neA hU) sd_ne (de_var 0) (de_str)) (de_split (de_var 0) (de_str)) (de_lst (da_nil)))) (dss_cons (ds_set 2 sc_read_deed.nd (de_callD d_numbers_read hr (by decide) (by rfl) (da_cons (de_var 1) (da_nil)) (aLenS (aLen0)))) (dss_cons (ds_if (PW.pt (dw_or (dt_cmp (op_ltA hU) sd_ord (de_callB call_lenB sd_lenB (by rfl) G.len bb_len (do_cons (de_var 1) (do_nil))) (de_int)) (pw_or1 (dt_notInC (by rfl) C.t_WORDS (de_ix (ix_all hU) sd_ix (de_var 1) (de_int)))))) (dss_one (ds_never _)) (dss_nil)) (dss_cons (ds_if (dt_cmp (op_eqA hU) sd_eq (de_ix (ix_all hU) sd_ix (de_var 1) (de_int)) (de_gstr (by rfl) G.c_SEAL)) (dss_one (ds_set 3 sc_read_deed.nd (de_bin op_addA sd_add (de_var 2) (de_tup (da_cons (de_tup (da_cons (de_gstr (by rfl) G.c_SEAL) (da_cons (de_callTy call_tuple_of sd_tuple (by rfl) G.tuple bb_tuple (do_cons (de_callD d_rows_read hr (by decide) (by rfl) (da_cons (de_cut (de_var 1) (do_some (de_int)) (do_none)) (da_cons (de_int) (da_nil))) (aLenS (aLenS (aLen0)))) (do_nil))) (da_nil)))) (da_nil)))))) (dss_one (ds_set 3 sc_read_deed.nd (de_bin op_addA sd_add (de_var 2) (de_tup (da_cons (de_callD d_what_read hr (by decide) (by rfl) (da_cons (de_var 1) (da_nil)) (aLenS (aLen0))) (da_nil))))))) (dss_cons (ds_if (dt_not (dt_val (de_callD d_is_deed hr (by decide) (by rfl) (da_cons (de_var 3) (da_nil)) (aLenS (aLen0))))) (dss_one (ds_never _)) (dss_nil)) (dss_one (ds_ret (de_var 3))))))))
abbrev s__law_dice : Stmt := top 45
theorem sc__law_dice : FnScope ["_law_script", "_law_mixed", "_law_cell"] ["_law_script"] (defScope s__law_dice) := ⟨rfl, rfl, rfl, by decide +kernel, rfl, by decide +kernel, by decide +kernel⟩
theorem ok__law_dice {f : Addr} {fd : FuncData} (G : Glob mg) (C : ClsF K cad mg)
    (F : Fun K "_law_dice" "_law_dice" s__law_dice f fd) (hm : mg "_law_dice" = some (.ref f)) : Def0 P w K mg base cad "_law_dice" 1 1 m__law_dice := by
  have hb : Binds K fd ["_law_script"] [] := F.binds (ps := ["_law_script"]) fun _ _ _ _ _ _ us hl => match us, hl with | [_], _ => rfl
  exact mk0 (N := ["_law_script", "_law_mixed", "_law_cell"]) (ps := ["_law_script"]) (k := 0) (b := b__law_dice) F sc__law_dice hm hb (fun cdv A outer s H E E0 hr => by
    have hU := hU_of hr
    unfold b__law_dice
    unfold b__law_dice_1
    exact dss_cons (ds_set 1 sc__law_dice.nd (de_int)) (dss_cons (ds_for PassesOwn.never rfl (di_seq (de_var 0)) (pg_name (i := 2) sc__law_dice.nd rfl (by first | exact Or.inl rfl | exact Or.inr rfl)) (g_name 2) (dss_one (ds_set 1 sc__law_dice.nd (de_bin op_mod sd_mod (de_bin op_addA sd_add (de_bin op_addA sd_add (de_bin op_mulA sd_mul (de_var 1) (de_int)) (de_bin op_mulA sd_mul (de_bin op_mod sd_mod (de_var 2) (de_int)) (de_int))) (de_int)) (de_int))))) (dss_one (ds_ret (de_lst (da_cons (de_var 0) (da_cons (de_int) (da_cons (de_bin op_mulA sd_mul (de_var 1) (de_callTy call_intB sd_intB (by rfl) G.int bb_int (do_cons (de_cmp (op_gtA hU) sd_ord (de_callB call_lenB sd_lenB (by rfl) G.len bb_len (do_cons (de_var 0) (do_nil))) (de_int)) (do_nil)))) (da_cons (de_int) (da_nil))))))))))
abbrev s__law_next : Stmt := top 46
theorem sc__law_next : FnScope ["_law_dice_here", "_law_many", "_law_found", "_law_cell"] ["_law_dice_here", "_law_many"] (defScope s__law_next) := ⟨rfl, rfl, rfl, by decide +kernel, rfl, by decide +kernel, by decide +kernel⟩
theorem ok__law_next {f : Addr} {fd : FuncData} (G : Glob mg) (C : ClsF K cad mg)
    (F : Fun K "_law_next" "_law_next" s__law_next f fd) (hm : mg "_law_next" = some (.ref f)) : Def0 P w K mg base cad "_law_next" 1 2 m__law_next := by
  have hb : Binds K fd ["_law_dice_here", "_law_many"] [] := F.binds (ps := ["_law_dice_here", "_law_many"]) fun _ _ _ _ _ _ us hl => match us, hl with | [_, _], _ => rfl
  exact mk0 (N := ["_law_dice_here", "_law_many", "_law_found", "_law_cell"]) (ps := ["_law_dice_here", "_law_many"]) (k := 0) (b := b__law_next) F sc__law_next hm hb (fun cdv A outer s H E E0 hr => by
    have hU := hU_of hr
    unfold b__law_next
    exact dss_cons (ds_if (dt_cmp (op_gtA hU) sd_ord (de_ix (ix_all hU) sd_ix (de_var 0) (de_int)) (de_int)) (dss_cons (ds_set 2 sc__law_next.nd (de_bin op_mod sd_mod (de_ix (ix_all hU) sd_ix (de_var 0) (de_int)) (de_var 1))) (dss_cons (ds_setit hU (de_bin op_fdivW sd_div (de_ix (ix_all hU) sd_ix (de_var 0) (de_int)) (de_var 1)) (de_var 0) (de_int)) (dss_one (ds_ret (de_var 2))))) (dss_nil)) (dss_cons (ds_setit hU (de_bin op_addA sd_add (de_ix (ix_all hU) sd_ix (de_var 0) (de_int)) (de_int)) (de_var 0) (de_int)) (dss_cons (ds_if (dt_cmp (op_leA hU) sd_ord (de_ix (ix_all hU) sd_ix (de_var 0) (de_int)) (de_callB call_lenB sd_lenB (by rfl) G.len bb_len (do_cons (de_ix (ix_all hU) sd_ix (de_var 0) (de_int)) (do_nil)))) (dss_cons (ds_set 3 sc__law_next.nd (de_ix (ix_all hU) sd_ix (de_ix (ix_all hU) sd_ix (de_var 0) (de_int)) (de_bin op_subA sd_sub (de_ix (ix_all hU) sd_ix (de_var 0) (de_int)) (de_int)))) (dss_cons (ds_setit hU (de_ifx (dt_cmp (op_geA hU) sd_ord (de_var 3) (de_bin op_pow sd_pow (de_int) (de_int))) (de_bin op_fdivW sd_div (de_var 3) (de_var 1)) (de_int)) (de_var 0) (de_int)) (dss_one (ds_ret (de_bin op_mod sd_mod (de_var 3) (de_var 1)))))) (dss_nil)) (dss_cons (ds_setit hU (de_bin op_mod sd_mod (de_bin op_mulA sd_mul (de_ix (ix_all hU) sd_ix (de_var 0) (de_int)) (de_int)) (de_int)) (de_var 0) (de_int)) (dss_one (ds_ret (de_bin op_mod sd_mod (de_bin op_fdivW sd_div (de_ix (ix_all hU) sd_ix (de_var 0) (de_int)) (de_int)) (de_var 1))))))))
abbrev s__law_like : Stmt := top 47
theorem sc__law_like : FnScope ["_law_found", "_law_due", "_law_k"] ["_law_found", "_law_due"] (defScope s__law_like) := ⟨rfl, rfl, rfl, by decide +kernel, rfl, by decide +kernel, by decide +kernel⟩
theorem ok__law_like {f : Addr} {fd : FuncData} (G : Glob mg) (C : ClsF K cad mg)
    (F : Fun K "_law_like" "_law_like" s__law_like f fd) (hm : mg "_law_like" = some (.ref f)) : ∀ n, Def0 P w K mg base cad "_law_like" (n + 1) 2 (m__law_like n)
  | 0 => rec0 F sc__law_like hm (F.binds (ps := ["_law_found", "_law_due"]) fun _ _ _ _ _ _ us hl => match us, hl with | [_, _], _ => rfl)
  | n + 1 => by
    have hb : Binds K fd ["_law_found", "_law_due"] [] := F.binds (ps := ["_law_found", "_law_due"]) fun _ _ _ _ _ _ us hl => match us, hl with | [_, _], _ => rfl
    have d__law_like := ok__law_like G C  F hm n
    exact mk0 (k := n + 1) (b := b__law_like (m__law_like n)) F sc__law_like hm hb (fun cdv A outer s H E E0 hr => by
    have hU := hU_of hr
    unfold b__law_like
    unfold b__law_like_1
    exact dss_cons (ds_if (dt_val (de_isi (by decide) (by rfl) G.isinstance (by rfl) G.bool bb_bool (de_var 1))) (dss_one (ds_ret (PB.v (pb_and (pb_val (de_isi (by decide) (by rfl) G.isinstance (by rfl) G.bool bb_bool (de_var 0))) (pb_one (pb_val (de_cmp (op_eqA hU) sd_eq (de_var 0) (de_var 1)))))))) (dss_nil)) (dss_cons (ds_if (dt_val (de_isi (by decide) (by rfl) G.isinstance (by rfl) G.str bb_str (de_var 1))) (dss_one (ds_ret (PB.v (pb_and (pb_val (de_isi (by decide) (by rfl) G.isinstance (by rfl) G.str bb_str (de_var 0))) (pb_one (pb_val (de_cmp (op_eqA hU) sd_eq (de_var 0) (de_var 1)))))))) (dss_nil)) (dss_cons (ds_if (dt_val (de_isi (by decide) (by rfl) G.isinstance (by rfl) G.int bb_int (de_var 1))) (dss_one (ds_ret (PB.v (pb_and (pb_val (de_isi (by decide) (by rfl) G.isinstance (by rfl) G.int bb_int (de_var 0))) (pb_and (pb_not (pb_val (de_isi (by decide) (by rfl) G.isinstance (by rfl) G.bool bb_bool (de_var 0)))) (pb_one (pb_val (de_cmp (op_eqA hU) sd_eq (de_var 0) (de_var 1))))))))) (dss_nil)) (dss_cons (ds_if (dt_cmp op_isN sd_is (de_var 1) (de_non)) (dss_one (ds_ret (de_cmp op_isN sd_is (de_var 0) (de_non)))) (dss_nil)) (dss_cons (ds_if (PW.pt (dw_or (dt_cmp (op_neA hU) sd_ne (de_isi (by decide) (by rfl) G.isinstance (by rfl) G.tuple bb_tuple (de_var 1)) (de_isi (by decide) (by rfl) G.isinstance (by rfl) G.tuple bb_tuple (de_var 0))) (pw_or1 (dt_cmp (op_neA hU) sd_ne (de_isi (by decide) (by rfl) G.isinstance (by rfl) G.list bb_list (de_var 1)) (de_isi (by decide) (by rfl) G.isinstance (by rfl) G.list bb_list (de_var 0)))))) (dss_one (ds_ret (de_bl))) (dss_nil)) (dss_cons (ds_if (dt_cmp (op_neA hU) sd_ne (de_callB call_lenB sd_lenB (by rfl) G.len bb_len (do_cons (de_var 0) (do_nil))) (de_callB call_lenB sd_lenB (by rfl) G.len bb_len (do_cons (de_var 1) (do_nil)))) (dss_one (ds_ret (de_bl))) (dss_nil)) (dss_cons (ds_for PassesOwn.never rfl (di_range1 (by rfl) G.range (de_callB call_lenB sd_lenB (by rfl) G.len bb_len (do_cons (de_var 1) (do_nil)))) (pg_name (i := 2) sc__law_like.nd rfl (by first | exact Or.inl rfl | exact Or.inr rfl)) (g_name 2) (dss_one (ds_if (dt_not (dt_val (de_callD d__law_like hr (by omega) (by rfl) (da_cons (de_ix (ix_all hU) sd_ix (de_var 0) (de_var 2)) (da_cons (de_ix (ix_all hU) sd_ix (de_var 1) (de_var 2)) (da_nil))) (aLenS (aLenS (aLen0)))))) (dss_one (ds_ret (de_bl))) (dss_nil)))) (dss_one (ds_ret (de_bl))))))))))
abbrev s__law_rows : Stmt := top 48
theorem sc__law_rows : FnScope ["_law_d", "_law_houses", "_law_far", "_law_most", "_law_found", "_law_k", "_law_first", "_law_wide"] ["_law_d", "_law_houses", "_law_far", "_law_most"] (defScope s__law_rows) := ⟨rfl, rfl, rfl, by decide +kernel, rfl, by decide +kernel, by decide +kernel⟩
theorem ok__law_rows {f : Addr} {fd : FuncData} (G : Glob mg) (C : ClsF K cad mg)
    (d__law_next : Def0 P w K mg base cad "_law_next" 1 2 m__law_next)
    (F : Fun K "_law_rows" "_law_rows" s__law_rows f fd) (hm : mg "_law_rows" = some (.ref f)) : Def0 P w K mg base cad "_law_rows" 2 4 m__law_rows := by
  have hb : Binds K fd ["_law_d", "_law_houses", "_law_far", "_law_most"] [] := F.binds (ps := ["_law_d", "_law_houses", "_law_far", "_law_most"]) fun _ _ _ _ _ _ us hl => match us, hl with | [_, _, _, _], _ => rfl
  exact mk0 (N := ["_law_d", "_law_houses", "_law_far", "_law_most", "_law_found", "_law_k", "_law_first", "_law_wide"]) (ps := ["_law_d", "_law_houses", "_law_far", "_law_most"]) (k := 1) (b := b__law_rows) F sc__law_rows hm hb (fun cdv A outer s H E E0 hr => by
    have hU := hU_of hr
    unfold b__law_rows
    unfold b__law_rows_1
    exact dss_cons (ds_own 4 sc__law_rows.nd (de_lst (da_nil))) (dss_cons (ds_for PassesOwn.never rfl (di_range1 (by rfl) G.range (de_callD d__law_next hr (by decide) (by rfl) (da_cons (de_var 0) (da_cons (de_bin op_addA sd_add (de_var 3) (de_int)) (da_nil))) (aLenS (aLenS (aLen0))))) (pg_name (i := 5) sc__law_rows.nd rfl (by first | exact Or.inl rfl | exact Or.inr rfl)) (g_name 5) (dss_cons (ds_set 6 sc__law_rows.nd (de_bin op_addA sd_add (de_int) (de_callD d__law_next hr (by decide) (by rfl) (da_cons (de_var 0) (da_cons (de_var 2) (da_nil))) (aLenS (aLenS (aLen0)))))) (dss_cons (ds_set 7 sc__law_rows.nd (de_ix (ix_all hU) sd_ix (de_lst (da_cons (de_int) (da_cons (de_callD d__law_next hr (by decide) (by rfl) (da_cons (de_var 0) (da_cons (de_int) (da_nil))) (aLenS (aLenS (aLen0)))) (da_cons (de_callD d__law_next hr (by decide) (by rfl) (da_cons (de_var 0) (da_cons (de_var 2) (da_nil))) (aLenS (aLenS (aLen0)))) (da_nil))))) (de_callD d__law_next hr (by decide) (by rfl) (da_cons (de_var 0) (da_cons (de_int) (da_nil))) (aLenS (aLenS (aLen0)))))) (dss_one (ds_app (de_var 4) (de_tup (da_cons (de_callD d__law_next hr (by decide) (by rfl) (da_cons (de_var 0) (da_cons (de_var 1) (da_nil))) (aLenS (aLenS (aLen0)))) (da_cons (de_var 6) (da_cons (de_callB (call_min2 (by rfl)) sd_min2 (by rfl) G.min bb_min (do_cons (de_var 2) (do_cons (de_bin op_addA sd_add (de_var 6) (de_var 7)) (do_nil)))) (da_nil)))))))))) (dss_one (ds_ret (de_var 4)))))
abbrev s__law_moved : Stmt := top 49
theorem sc__law_moved : FnScope ["_law_rows_here", "_law_by", "_law_house", "_law_first", "_law_last"] ["_law_rows_here", "_law_by"] (defScope s__law_moved) := ⟨rfl, rfl, rfl, by decide +kernel, rfl, by decide +kernel, by decide +kernel⟩
theorem ok__law_moved {f : Addr} {fd : FuncData} (G : Glob mg) (C : ClsF K cad mg)
    (F : Fun K "_law_moved" "_law_moved" s__law_moved f fd) (hm : mg "_law_moved" = some (.ref f)) : Def0 P w K mg base cad "_law_moved" 1 2 m__law_moved := by
  have hb : Binds K fd ["_law_rows_here", "_law_by"] [] := F.binds (ps := ["_law_rows_here", "_law_by"]) fun _ _ _ _ _ _ us hl => match us, hl with | [_, _], _ => rfl
  exact mk0 (N := ["_law_rows_here", "_law_by", "_law_house", "_law_first", "_law_last"]) (ps := ["_law_rows_here", "_law_by"]) (k := 0) (b := b__law_moved) F sc__law_moved hm hb (fun cdv A outer s H E E0 hr => by
    have hU := hU_of hr
    unfold b__law_moved
    unfold e__law_moved_1
    exact dss_one (ds_ret (de_lc (own := [("_law_house", 2), ("_law_first", 3), ("_law_last", 4)]) rfl sc__law_moved.nd (di_seq (de_var 0)) (blkOk_by (own := [("_law_house", 2), ("_law_first", 3), ("_law_last", 4)]) (N := ["_law_rows_here", "_law_by", "_law_house", "_law_first", "_law_last"]) (sc := defScope s__law_moved) (by decide +kernel)) (fun _ _ _ _ _ => pg_tup rfl (pgs_cons (pg_name (i := 2) sc__law_moved.nd rfl (by first | exact Or.inl rfl | exact Or.inr rfl)) (pgs_cons (pg_name (i := 3) sc__law_moved.nd rfl (by first | exact Or.inl rfl | exact Or.inr rfl)) (pgs_cons (pg_name (i := 4) sc__law_moved.nd rfl (by first | exact Or.inl rfl | exact Or.inr rfl)) (pgs_nil))))) (g_tup [2, 3, 4] rfl) (fun _ _ _ _ _ => dts_nil) (fun _ _ _ _ _ => de_tup (da_cons (de_var 2) (da_cons (de_bin op_addA sd_add (de_var 3) (de_var 1)) (da_cons (de_bin op_addA sd_add (de_var 4) (de_var 1)) (da_nil))))))))
abbrev s__law_names : Stmt := top 50
theorem sc__law_names : FnScope ["_law_rows_here", "_law_found", "_law_house", "_law_first", "_law_last", "_law_number"] ["_law_rows_here"] (defScope s__law_names) := ⟨rfl, rfl, rfl, by decide +kernel, rfl, by decide +kernel, by decide +kernel⟩
theorem ok__law_names {f : Addr} {fd : FuncData} (G : Glob mg) (C : ClsF K cad mg)
    (F : Fun K "_law_names" "_law_names" s__law_names f fd) (hm : mg "_law_names" = some (.ref f)) : Def0 P w K mg base cad "_law_names" 1 1 m__law_names := by
  have hb : Binds K fd ["_law_rows_here"] [] := F.binds (ps := ["_law_rows_here"]) fun _ _ _ _ _ _ us hl => match us, hl with | [_], _ => rfl
  exact mk0 (N := ["_law_rows_here", "_law_found", "_law_house", "_law_first", "_law_last", "_law_number"]) (ps := ["_law_rows_here"]) (k := 0) (b := b__law_names) F sc__law_names hm hb (fun cdv A outer s H E E0 hr => by
    have hU := hU_of hr
    unfold b__law_names
    unfold b__law_names_2
    unfold b__law_names_1
    exact dss_cons (ds_own 1 sc__law_names.nd (de_dT)) (dss_cons (ds_for PassesOwn.never rfl (di_seq (de_var 0)) (pg_tup rfl (pgs_cons (pg_name (i := 2) sc__law_names.nd rfl (by first | exact Or.inl rfl | exact Or.inr rfl)) (pgs_cons (pg_name (i := 3) sc__law_names.nd rfl (by first | exact Or.inl rfl | exact Or.inr rfl)) (pgs_cons (pg_name (i := 4) sc__law_names.nd rfl (by first | exact Or.inl rfl | exact Or.inr rfl)) (pgs_nil))))) (g_tup [2, 3, 4] rfl) (dss_one (ds_for PassesOwn.never rfl (di_range2 (by rfl) G.range (de_var 3) (de_bin op_addA sd_add (de_var 4) (de_int))) (pg_name (i := 5) sc__law_names.nd rfl (by first | exact Or.inl rfl | exact Or.inr rfl)) (g_name 5) (dss_one (ds_setit hU (de_bl) (de_var 1) (de_tup (da_cons (de_var 2) (da_cons (de_var 5) (da_nil))))))))) (dss_one (ds_ret (de_callB (cr_srtB (by rfl)) sd_srtB (by rfl) G.sorted bb_sorted (do_cons (de_var 1) (do_nil)))))))
abbrev s__law_told_rows : Stmt := top 51
theorem sc__law_told_rows : FnScope ["_law_names_here", "_law_found", "_law_house", "_law_number"] ["_law_names_here"] (defScope s__law_told_rows) := ⟨rfl, rfl, rfl, by decide +kernel, rfl, by decide +kernel, by decide +kernel⟩
theorem ok__law_told_rows {f : Addr} {fd : FuncData} (G : Glob mg) (C : ClsF K cad mg)
    (F : Fun K "_law_told_rows" "_law_told_rows" s__law_told_rows f fd) (hm : mg "_law_told_rows" = some (.ref f)) : Def0 P w K mg base cad "_law_told_rows" 1 1 m__law_told_rows := by
  have hb : Binds K fd ["_law_names_here"] [] := F.binds (ps := ["_law_names_here"]) fun _ _ _ _ _ _ us hl => match us, hl with | [_], _ => rfl
  exact mk0 (N := ["_law_names_here", "_law_found", "_law_house", "_law_number"]) (ps := ["_law_names_here"]) (k := 0) (b := b__law_told_rows) F sc__law_told_rows hm hb (fun cdv A outer s H E E0 hr => by
    have hU := hU_of hr
    unfold b__law_told_rows
    unfold b__law_told_rows_1
    exact dss_cons (ds_own 1 sc__law_told_rows.nd (de_lst (da_nil))) (dss_cons (ds_for PassesOwn.never rfl (di_seq (de_var 0)) (pg_tup rfl (pgs_cons (pg_name (i := 2) sc__law_told_rows.nd rfl (by first | exact Or.inl rfl | exact Or.inr rfl)) (pgs_cons (pg_name (i := 3) sc__law_told_rows.nd rfl (by first | exact Or.inl rfl | exact Or.inr rfl)) (pgs_nil)))) (g_tup [2, 3] rfl) (dss_one (ds_if (PW.pt (dw_and (dt_cmp (op_neA hU) sd_ne (de_var 1) (de_lst (da_nil))) (dw_and (dt_cmp (op_eqA hU) sd_eq (de_ix (ix_all hU) sd_ix (de_ix (ix_all hU) sd_ix (de_var 1) (de_un un_neg sd_neg (de_int))) (de_int)) (de_var 2)) (pw_and1 (dt_cmp (op_eqA hU) sd_eq (de_bin op_addA sd_add (de_ix (ix_all hU) sd_ix (de_ix (ix_all hU) sd_ix (de_var 1) (de_un un_neg sd_neg (de_int))) (de_int)) (de_int)) (de_var 3)))))) (dss_one (ds_setit hU (de_tup (da_cons (de_var 2) (da_cons (de_ix (ix_all hU) sd_ix (de_ix (ix_all hU) sd_ix (de_var 1) (de_un un_neg sd_neg (de_int))) (de_int)) (da_cons (de_var 3) (da_nil))))) (de_var 1) (de_un un_neg sd_neg (de_int)))) (dss_one (ds_app (de_var 1) (de_tup (da_cons (de_var 2) (da_cons (de_var 3) (da_cons (de_var 3) (da_nil)))))))))) (dss_one (ds_ret (de_var 1)))))
abbrev s__law_what : Stmt := top 52
theorem sc__law_what : FnScope ["_law_d", "_law_houses", "_law_kind", "_law_worth"] ["_law_d", "_law_houses"] (defScope s__law_what) := ⟨rfl, rfl, rfl, by decide +kernel, rfl, by decide +kernel, by decide +kernel⟩
theorem ok__law_what {f : Addr} {fd : FuncData} (G : Glob mg) (C : ClsF K cad mg)
    (d__law_names : Def0 P w K mg base cad "_law_names" 1 1 m__law_names)
    (d__law_next : Def0 P w K mg base cad "_law_next" 1 2 m__law_next)
    (d__law_rows : Def0 P w K mg base cad "_law_rows" 2 4 m__law_rows)
    (d__law_told_rows : Def0 P w K mg base cad "_law_told_rows" 1 1 m__law_told_rows)
    (F : Fun K "_law_what" "_law_what" s__law_what f fd) (hm : mg "_law_what" = some (.ref f)) : Def0 P w K mg base cad "_law_what" 3 2 m__law_what := by
  have hb : Binds K fd ["_law_d", "_law_houses"] [] := F.binds (ps := ["_law_d", "_law_houses"]) fun _ _ _ _ _ _ us hl => match us, hl with | [_, _], _ => rfl
  exact mk0 (N := ["_law_d", "_law_houses", "_law_kind", "_law_worth"]) (ps := ["_law_d", "_law_houses"]) (k := 2) (b := b__law_what) F sc__law_what hm hb (fun cdv A outer s H E E0 hr => by
    have hU := hU_of hr
    unfold b__law_what
    exact dss_cons (ds_set 2 sc__law_what.nd (de_callD d__law_next hr (by decide) (by rfl) (da_cons (de_var 0) (da_cons (de_int) (da_nil))) (aLenS (aLenS (aLen0))))) (dss_cons (ds_if (dt_cmp (op_ltA hU) sd_ord (de_var 2) (de_int)) (dss_cons (ds_set 3 sc__law_what.nd (de_ix (ix_all hU) sd_ix (de_lst (da_cons (de_bin op_subA sd_sub (de_callD d__law_next hr (by decide) (by rfl) (da_cons (de_var 0) (da_cons (de_int) (da_nil))) (aLenS (aLenS (aLen0)))) (de_int)) (da_cons (de_callD d__law_next hr (by decide) (by rfl) (da_cons (de_var 0) (da_cons (de_bin op_pow sd_pow (de_int) (de_int)) (da_nil))) (aLenS (aLenS (aLen0)))) (da_nil)))) (de_callD d__law_next hr (by decide) (by rfl) (da_cons (de_var 0) (da_cons (de_int) (da_nil))) (aLenS (aLenS (aLen0)))))) (dss_one (ds_ret (de_tup (da_cons (de_ix (ix_all hU) sd_ix (de_lst (da_cons (de_str) (da_cons (de_str) (da_nil)))) (de_bin op_mod sd_mod (de_var 2) (de_int))) (da_cons (de_callD d__law_next hr (by decide) (by rfl) (da_cons (de_var 0) (da_cons (de_int) (da_nil))) (aLenS (aLenS (aLen0)))) (da_cons (de_var 3) (da_nil)))))))) (dss_nil)) (dss_cons (ds_if (dt_cmp (op_eqA hU) sd_eq (de_var 2) (de_int)) (dss_one (ds_ret (de_tup (da_cons (de_str) (da_cons (de_callD d__law_next hr (by decide) (by rfl) (da_cons (de_var 0) (da_cons (de_var 1) (da_nil))) (aLenS (aLenS (aLen0)))) (da_cons (de_bin op_addA sd_add (de_int) (de_callD d__law_next hr (by decide) (by rfl) (da_cons (de_var 0) (da_cons (de_int) (da_nil))) (aLenS (aLenS (aLen0))))) (da_nil))))))) (dss_nil)) (dss_one (ds_ret (de_ifx (dt_cmp (op_eqA hU) sd_eq (de_var 2) (de_int)) (de_tup (da_cons (de_str) (da_cons (de_callTy call_tuple_of sd_tuple (by rfl) G.tuple bb_tuple (do_cons (de_callD d__law_told_rows hr (by decide) (by rfl) (da_cons (de_callD d__law_names hr (by decide) (by rfl) (da_cons (de_callD d__law_rows hr (by decide) (by rfl) (da_cons (de_var 0) (da_cons (de_var 1) (da_cons (de_int) (da_cons (de_int) (da_nil))))) (aLenS (aLenS (aLenS (aLenS (aLen0)))))) (da_nil)) (aLenS (aLen0))) (da_nil)) (aLenS (aLen0))) (do_nil))) (da_nil)))) (de_tup (da_cons (de_str) (da_nil)))))))))
abbrev s__law_deeds : Stmt := top 53
theorem sc__law_deeds : FnScope ["_law_d", "_law_most", "_law_houses", "_law_known", "_law_k", "_law_house", "_law_number", "_law_what_here", "_law_left", "_law_found"] ["_law_d", "_law_most"] (defScope s__law_deeds) := ⟨rfl, rfl, rfl, by decide +kernel, rfl, by decide +kernel, by decide +kernel⟩
theorem ok__law_deeds {f : Addr} {fd : FuncData} (G : Glob mg) (C : ClsF K cad mg)
    (d__law_next : Def0 P w K mg base cad "_law_next" 1 2 m__law_next)
    (d__law_what : Def0 P w K mg base cad "_law_what" 3 2 m__law_what)
    (F : Fun K "_law_deeds" "_law_deeds" s__law_deeds f fd) (hm : mg "_law_deeds" = some (.ref f)) : Def0 P w K mg base cad "_law_deeds" 4 2 m__law_deeds := by
  have hb : Binds K fd ["_law_d", "_law_most"] [] := F.binds (ps := ["_law_d", "_law_most"]) fun _ _ _ _ _ _ us hl => match us, hl with | [_, _], _ => rfl
  exact mk0 (N := ["_law_d", "_law_most", "_law_houses", "_law_known", "_law_k", "_law_house", "_law_number", "_law_what_here", "_law_left", "_law_found"]) (ps := ["_law_d", "_law_most"]) (k := 3) (b := b__law_deeds) F sc__law_deeds hm hb (fun cdv A outer s H E E0 hr => by
    have hU := hU_of hr
    unfold b__law_deeds
    unfold r__law_deeds_2
    unfold b__law_deeds_2
    unfold t__law_deeds_1
    unfold b__law_deeds_1
    unfold r__law_deeds_1
    exact dss_cons (ds_set 2 sc__law_deeds.nd (de_bin op_addA sd_add (de_int) (de_callD d__law_next hr (by decide) (by rfl) (da_cons (de_var 0) (da_cons (de_int) (da_nil))) (aLenS (aLenS (aLen0)))))) (dss_cons (ds_own 3 sc__law_deeds.nd (de_dT)) (dss_cons (ds_for PassesOwn.never rfl (di_range1 (by rfl) G.range (de_callD d__law_next hr (by decide) (by rfl) (da_cons (de_var 0) (da_cons (de_bin op_addA sd_add (de_var 1) (de_int)) (da_nil))) (aLenS (aLenS (aLen0))))) (pg_name (i := 4) sc__law_deeds.nd rfl (by first | exact Or.inl rfl | exact Or.inr rfl)) (g_name 4) (dss_cons (ds_par2 5 6 rfl sc__law_deeds.nd (da_cons (de_callD d__law_next hr (by decide) (by rfl) (da_cons (de_var 0) (da_cons (de_var 2) (da_nil))) (aLenS (aLenS (aLen0)))) (da_cons (de_bin op_addA sd_add (de_int) (de_callD d__law_next hr (by decide) (by rfl) (da_cons (de_var 0) (da_cons (de_int) (da_nil))) (aLenS (aLenS (aLen0))))) (da_nil))) (by decide) rfl rfl (by rfl)) (dss_cons (ds_set 7 sc__law_deeds.nd (de_callD d__law_what hr (by decide) (by rfl) (da_cons (de_var 0) (da_cons (de_var 2) (da_nil))) (aLenS (aLenS (aLen0))))) (dss_cons (ds_if (PW.pt (dw_and (dt_cmp (op_neB hU) sd_neB (de_var 3) (de_dK)) (pw_and1 (dt_cmp (op_eqA hU) sd_eq (de_callD d__law_next hr (by decide) (by rfl) (da_cons (de_var 0) (da_cons (de_int) (da_nil))) (aLenS (aLenS (aLen0)))) (de_int))))) (dss_one (ds_set 7 sc__law_deeds.nd (de_bin op_addA sd_add (de_tup (da_cons (de_str) (da_nil))) (de_ix (ix_all hU) sd_ix (de_callB (cr_srtB (by rfl)) sd_srtB (by rfl) G.sorted bb_sorted (do_cons (de_var 3) (do_nil))) (de_callD d__law_next hr (by decide) (by rfl) (da_cons (de_var 0) (da_cons (de_callB call_lenB sd_lenB (by rfl) G.len bb_len (do_cons (de_var 3) (do_nil))) (da_nil))) (aLenS (aLenS (aLen0)))))))) (dss_nil)) (dss_one (ds_setit hU (de_tup (da_cons (de_var 5) (da_cons (de_var 6) (da_cons (de_bin op_addA sd_add (de_var 6) (de_callD d__law_next hr (by decide) (by rfl) (da_cons (de_var 0) (da_cons (de_int) (da_nil))) (aLenS (aLenS (aLen0))))) (da_cons (de_var 7) (da_nil)))))) (de_var 3) (de_tup (da_cons (de_var 5) (da_cons (de_var 6) (da_nil)))))))))) (dss_cons (ds_set 8 sc__law_deeds.nd (de_loc (de_callB (cr_srtB (by rfl)) sd_srtB (by rfl) G.sorted bb_sorted (do_cons (de_var 3) (do_nil))))) (dss_cons (ds_own 9 sc__law_deeds.nd (de_lst (da_nil))) (dss_cons (ds_while (n := 1000000000) PassesOwn.never (dt_cmp (op_neA hU) sd_ne (de_var 8) (de_lst (da_nil))) (dss_one (ds_app (de_var 9) (de_ix (ix_all hU) sd_ix (de_var 3) (de_pop (de_var 8) (de_callD d__law_next hr (by decide) (by rfl) (da_cons (de_var 0) (da_cons (de_callB call_lenB sd_lenB (by rfl) G.len bb_len (do_cons (de_var 8) (do_nil))) (da_nil))) (aLenS (aLenS (aLen0))))))))) (dss_one (ds_ret (de_var 9)))))))))
abbrev s__law_text : Stmt := top 54
theorem sc__law_text : FnScope ["_law_rows_here", "_law_words", "_law_house", "_law_items", "_law_other", "_law_first", "_law_last"] ["_law_rows_here"] (defScope s__law_text) := ⟨rfl, rfl, rfl, by decide +kernel, rfl, by decide +kernel, by decide +kernel⟩
theorem ok__law_text {f : Addr} {fd : FuncData} (G : Glob mg) (C : ClsF K cad mg)
    (F : Fun K "_law_text" "_law_text" s__law_text f fd) (hm : mg "_law_text" = some (.ref f)) : Def0 P w K mg base cad "_law_text" 1 1 m__law_text := by
  have hb : Binds K fd ["_law_rows_here"] [] := F.binds (ps := ["_law_rows_here"]) fun _ _ _ _ _ _ us hl => match us, hl with | [_], _ => rfl
  exact mk0 (N := ["_law_rows_here", "_law_words", "_law_house", "_law_items", "_law_other", "_law_first", "_law_last"]) (ps := ["_law_rows_here"]) (k := 0) (b := b__law_text) F sc__law_text hm hb (fun cdv A outer s H E E0 hr => by
    have hU := hU_of hr
    unfold b__law_text
    unfold b__law_text_2
    unfold b__law_text_1
    exact dss_cons (ds_own 1 sc__law_text.nd (de_lst (da_nil))) (dss_cons (ds_for PassesOwn.never rfl (di_range1 (by rfl) G.range (de_int)) (pg_name (i := 2) sc__law_text.nd rfl (by first | exact Or.inl rfl | exact Or.inr rfl)) (g_name 2) (dss_cons (ds_own 3 sc__law_text.nd (de_lst (da_nil))) (dss_cons (ds_for PassesOwn.never rfl (di_seq (de_var 0)) (pg_tup rfl (pgs_cons (pg_name (i := 4) sc__law_text.nd rfl (by first | exact Or.inl rfl | exact Or.inr rfl)) (pgs_cons (pg_name (i := 5) sc__law_text.nd rfl (by first | exact Or.inl rfl | exact Or.inr rfl)) (pgs_cons (pg_name (i := 6) sc__law_text.nd rfl (by first | exact Or.inl rfl | exact Or.inr rfl)) (pgs_nil))))) (g_tup [4, 5, 6] rfl) (dss_one (ds_if (dt_cmp (op_eqA hU) sd_eq (de_var 4) (de_var 2)) (dss_one (ds_app (de_var 3) (de_ifx (dt_cmp (op_eqA hU) sd_eq (de_var 5) (de_var 6)) (de_callTy call_str_int sd_str (by rfl) G.str bb_str (do_cons (de_var 5) (do_nil))) (de_bin op_addA sd_add (de_bin op_addA sd_add (de_callTy call_str_int sd_str (by rfl) G.str bb_str (do_cons (de_var 5) (do_nil))) (de_str)) (de_callTy call_str_int sd_str (by rfl) G.str bb_str (do_cons (de_var 6) (do_nil))))))) (dss_nil)))) (dss_one (ds_if (dt_cmp (op_neA hU) sd_ne (de_var 3) (de_lst (da_nil))) (dss_frz 3 (dss_one (ds_app (de_var 1) (de_bin op_addA sd_add (de_bin op_addA sd_add (de_callTy call_str_int sd_str (by rfl) G.str bb_str (do_cons (de_var 2) (do_nil))) (de_str)) (de_join (de_str) (de_var 3)))))) (dss_nil)))))) (dss_frz 1 (dss_one (ds_ret (de_join (de_str) (de_var 1)))))))
abbrev s__law_deed_text : Stmt := top 55
theorem sc__law_deed_text : FnScope ["_law_deed", "_law_house", "_law_number", "_law_time", "_law_what_here", "_law_words", "_law_part"] ["_law_deed"] (defScope s__law_deed_text) := ⟨rfl, rfl, rfl, by decide +kernel, rfl, by decide +kernel, by decide +kernel⟩
theorem ok__law_deed_text {f : Addr} {fd : FuncData} (G : Glob mg) (C : ClsF K cad mg)
    (d__law_text : Def0 P w K mg base cad "_law_text" 1 1 m__law_text)
    (F : Fun K "_law_deed_text" "_law_deed_text" s__law_deed_text f fd) (hm : mg "_law_deed_text" = some (.ref f)) : Def0 P w K mg base cad "_law_deed_text" 2 1 m__law_deed_text := by
  have hb : Binds K fd ["_law_deed"] [] := F.binds (ps := ["_law_deed"]) fun _ _ _ _ _ _ us hl => match us, hl with | [_], _ => rfl
  exact mk0 (N := ["_law_deed", "_law_house", "_law_number", "_law_time", "_law_what_here", "_law_words", "_law_part"]) (ps := ["_law_deed"]) (k := 1) (b := b__law_deed_text) F sc__law_deed_text hm hb (fun cdv A outer s H E E0 hr => by
    have hU := hU_of hr
    unfold b__law_deed_text
    unfold e__law_deed_text_1
    exact dss_cons (ds_unp (is := [1, 2, 3, 4]) (de_var 0) (pg_tup rfl (pgs_cons (pg_name (i := 1) sc__law_deed_text.nd rfl (by first | exact Or.inl rfl | exact Or.inr rfl)) (pgs_cons (pg_name (i := 2) sc__law_deed_text.nd rfl (by first | exact Or.inl rfl | exact Or.inr rfl)) (pgs_cons (pg_name (i := 3) sc__law_deed_text.nd rfl (by first | exact Or.inl rfl | exact Or.inr rfl)) (pgs_cons (pg_name (i := 4) sc__law_deed_text.nd rfl (by first | exact Or.inl rfl | exact Or.inr rfl)) (pgs_nil))))))) (dss_cons (ds_set 5 sc__law_deed_text.nd (de_lst (da_cons (de_callTy call_str_int sd_str (by rfl) G.str bb_str (do_cons (de_var 1) (do_nil))) (da_cons (de_callTy call_str_int sd_str (by rfl) G.str bb_str (do_cons (de_var 2) (do_nil))) (da_cons (de_callTy call_str_int sd_str (by rfl) G.str bb_str (do_cons (de_var 3) (do_nil))) (da_cons (de_ix (ix_all hU) sd_ix (de_var 4) (de_int)) (da_nil))))))) (dss_cons (ds_if (dt_cmp (op_eqA hU) sd_eq (de_ix (ix_all hU) sd_ix (de_var 4) (de_int)) (de_str)) (dss_one (ds_ret (de_join (de_str) (de_bin op_addA sd_add (de_var 5) (de_bin op_mulA sd_mul (de_lst (da_cons (de_callD d__law_text hr (by decide) (by rfl) (da_cons (de_ix (ix_all hU) sd_ix (de_var 4) (de_int)) (da_nil)) (aLenS (aLen0))) (da_nil))) (de_callTy call_intB sd_intB (by rfl) G.int bb_int (do_cons (de_cmp (op_neA hU) sd_ne (de_ix (ix_all hU) sd_ix (de_var 4) (de_int)) (de_tup (da_nil))) (do_nil)))))))) (dss_nil)) (dss_one (ds_ret (de_join (de_str) (de_bin op_addA sd_add (de_var 5) (de_lc (own := [("_law_part", 6)]) rfl sc__law_deed_text.nd (di_seq (de_cut (de_var 4) (do_some (de_int)) (do_none))) (blkOk_by (own := [("_law_part", 6)]) (N := ["_law_deed", "_law_house", "_law_number", "_law_time", "_law_what_here", "_law_words", "_law_part"]) (sc := defScope s__law_deed_text) (by decide +kernel)) (fun _ _ _ _ _ => pg_name (i := 6) sc__law_deed_text.nd rfl (by first | exact Or.inl rfl | exact Or.inr rfl)) (g_name 6) (fun _ _ _ _ _ => dts_nil) (fun _ _ _ _ _ => de_callTy call_str_int sd_str (by rfl) G.str bb_str (do_cons (de_var 6) (do_nil)))))))))))
abbrev s_law : Stmt := top 56
theorem sc_law : FnScope ["_law_script", "_law_d", "_law_turn", "_law_rows_here", "_law_text_here", "_law_again", "_law_found", "_law_deed"] ["_law_script"] (defScope s_law) := ⟨rfl, rfl, rfl, by decide +kernel, rfl, by decide +kernel, by decide +kernel⟩
theorem ok_law {f : Addr} {fd : FuncData} (G : Glob mg) (C : ClsF K cad mg)
    (d__law_deed_text : Def0 P w K mg base cad "_law_deed_text" 2 1 m__law_deed_text)
    (d__law_deeds : Def0 P w K mg base cad "_law_deeds" 4 2 m__law_deeds)
    (d__law_dice : Def0 P w K mg base cad "_law_dice" 1 1 m__law_dice)
    (d__law_like : Def0 P w K mg base cad "_law_like" 9 2 (m__law_like 8))
    (d__law_moved : Def0 P w K mg base cad "_law_moved" 1 2 m__law_moved)
    (d__law_names : Def0 P w K mg base cad "_law_names" 1 1 m__law_names)
    (d__law_next : Def0 P w K mg base cad "_law_next" 1 2 m__law_next)
    (d__law_rows : Def0 P w K mg base cad "_law_rows" 2 4 m__law_rows)
    (d__law_text : Def0 P w K mg base cad "_law_text" 1 1 m__law_text)
    (d__law_told_rows : Def0 P w K mg base cad "_law_told_rows" 1 1 m__law_told_rows)
    (d_read : Def0 P w K mg base cad "read" 5 1 m_read)
    (d_read_deed : Def0 P w K mg base cad "read_deed" 5 1 m_read_deed)
    (d_written : Def0 P w K mg base cad "written" 4 1 m_written)
    (d_written_deed : Def0 P w K mg base cad "written_deed" 6 1 m_written_deed)
    (F : Fun K "law" "law" s_law f fd) (hm : mg "law" = some (.ref f)) : Def0 P w K mg base cad "law" 10 1 m_law := by
  have hb : Binds K fd ["_law_script"] [] := F.binds (ps := ["_law_script"]) fun _ _ _ _ _ _ us hl => match us, hl with | [_], _ => rfl
  exact mk0 (N := ["_law_script", "_law_d", "_law_turn", "_law_rows_here", "_law_text_here", "_law_again", "_law_found", "_law_deed"]) (ps := ["_law_script"]) (k := 9) (b := b_law) F sc_law hm hb (fun cdv A outer s H E E0 hr => by
    have hU := hU_of hr
    unfold b_law
    unfold b_law_3
    unfold b_law_2
    unfold b_law_1
    exact dss_cons (ds_set 1 sc_law.nd (de_loc (de_callD d__law_dice hr (by decide) (by rfl) (da_cons (de_var 0) (da_nil)) (aLenS (aLen0))))) (dss_cons (ds_for PassesOwn.never rfl (di_range1 (by rfl) G.range (de_int)) (pg_name (i := 2) sc_law.nd rfl (by first | exact Or.inl rfl | exact Or.inr rfl)) (g_name 2) (dss_cons (ds_set 3 sc_law.nd (de_ix (ix_all hU) sd_ix (de_lst (da_cons (de_callD d__law_rows hr (by decide) (by rfl) (da_cons (de_var 1) (da_cons (de_int) (da_cons (de_int) (da_cons (de_int) (da_nil))))) (aLenS (aLenS (aLenS (aLenS (aLen0)))))) (da_cons (de_callD d__law_rows hr (by decide) (by rfl) (da_cons (de_var 1) (da_cons (de_int) (da_cons (de_int) (da_cons (de_int) (da_nil))))) (aLenS (aLenS (aLenS (aLenS (aLen0)))))) (da_nil)))) (de_bin op_fdivW sd_div (de_callD d__law_next hr (by decide) (by rfl) (da_cons (de_var 1) (da_cons (de_int) (da_nil))) (aLenS (aLenS (aLen0)))) (de_int)))) (dss_cons (ds_set 3 sc_law.nd (de_callD d__law_told_rows hr (by decide) (by rfl) (da_cons (de_callD d__law_names hr (by decide) (by rfl) (da_cons (de_var 3) (da_nil)) (aLenS (aLen0))) (da_nil)) (aLenS (aLen0)))) (dss_cons (ds_set 3 sc_law.nd (de_callD d__law_moved hr (by decide) (by rfl) (da_cons (de_var 3) (da_cons (de_ix (ix_all hU) sd_ix (de_lst (da_cons (de_int) (da_cons (de_bin op_subA sd_sub (de_bin op_pow sd_pow (de_int) (de_int)) (de_int)) (da_cons (de_callD d__law_next hr (by decide) (by rfl) (da_cons (de_var 1) (da_cons (de_bin op_pow sd_pow (de_int) (de_int)) (da_nil))) (aLenS (aLenS (aLen0)))) (da_nil))))) (de_callD d__law_next hr (by decide) (by rfl) (da_cons (de_var 1) (da_cons (de_int) (da_nil))) (aLenS (aLenS (aLen0))))) (da_nil))) (aLenS (aLenS (aLen0))))) (dss_cons (ds_set 4 sc_law.nd (de_callD d__law_text hr (by decide) (by rfl) (da_cons (de_var 3) (da_nil)) (aLenS (aLen0)))) (dss_cons (ds_for PassesOwn.never rfl (di_range1 (by rfl) G.range (de_int)) (pg_name (i := 5) sc_law.nd rfl (by first | exact Or.inl rfl | exact Or.inr rfl)) (g_name 5) (dss_cons (ds_set 6 sc_law.nd (de_loc (de_callD d_read hr (by decide) (by rfl) (da_cons (de_var 4) (da_nil)) (aLenS (aLen0))))) (dss_cons (ds_if (PW.pt (dw_or (dt_not (dt_val (de_callD d__law_like hr (by decide) (by rfl) (da_cons (de_callD d_written hr (by decide) (by rfl) (da_cons (de_bin op_addA sd_add (de_rev (de_var 3)) (de_cut (de_var 3) (do_none) (do_some (de_int)))) (da_nil)) (aLenS (aLen0))) (da_cons (de_var 4) (da_nil))) (aLenS (aLenS (aLen0)))))) (pw_or1 (dt_not (dt_val (de_callD d__law_like hr (by decide) (by rfl) (da_cons (de_var 6) (da_cons (de_var 3) (da_nil))) (aLenS (aLenS (aLen0))))))))) (dss_one (ds_ret (de_bl))) (dss_nil)) (dss_one (ds_app (de_var 6) (de_int)))))) (dss_one (ds_for PassesOwn.never rfl (di_seq (de_callD d__law_deeds hr (by decide) (by rfl) (da_cons (de_var 1) (da_cons (de_int) (da_nil))) (aLenS (aLenS (aLen0))))) (pg_name (i := 7) sc_law.nd rfl (by first | exact Or.inl rfl | exact Or.inr rfl)) (g_name 7) (dss_cons (ds_set 4 sc_law.nd (de_callD d__law_deed_text hr (by decide) (by rfl) (da_cons (de_var 7) (da_nil)) (aLenS (aLen0)))) (dss_one (ds_if (PW.pt (dw_or (dt_not (dt_val (de_callD d__law_like hr (by decide) (by rfl) (da_cons (de_callD d_written_deed hr (by decide) (by rfl) (da_cons (de_var 7) (da_nil)) (aLenS (aLen0))) (da_cons (de_var 4) (da_nil))) (aLenS (aLenS (aLen0)))))) (pw_or1 (dt_not (dt_val (de_callD d__law_like hr (by decide) (by rfl) (da_cons (de_callD d_read_deed hr (by decide) (by rfl) (da_cons (de_var 4) (da_nil)) (aLenS (aLen0))) (da_cons (de_var 7) (da_nil))) (aLenS (aLenS (aLen0))))))))) (dss_one (ds_ret (de_bl))) (dss_nil)))))))))))) (dss_one (ds_ret (PB.v (pb_and (pb_val (de_cmp (op_eqA hU) sd_eq (de_callD d_read hr (by decide) (by rfl) (da_cons (de_str) (da_nil)) (aLenS (aLen0))) (de_lst (da_nil)))) (pb_one (pb_val (de_cmp (op_eqA hU) sd_eq (de_callD d_written hr (by decide) (by rfl) (da_cons (de_lst (da_nil)) (da_nil)) (aLenS (aLen0))) (de_str))))))))))
theorem ok_law_fn {f : Addr} {fd : FuncData} (G : Glob mg) (C : ClsF K cad mg)
    (d__law_deed_text : Def0 P w K mg base cad "_law_deed_text" 2 1 m__law_deed_text)
    (d__law_deeds : Def0 P w K mg base cad "_law_deeds" 4 2 m__law_deeds)
    (d__law_dice : Def0 P w K mg base cad "_law_dice" 1 1 m__law_dice)
    (d__law_like : Def0 P w K mg base cad "_law_like" 9 2 (m__law_like 8))
    (d__law_moved : Def0 P w K mg base cad "_law_moved" 1 2 m__law_moved)
    (d__law_names : Def0 P w K mg base cad "_law_names" 1 1 m__law_names)
    (d__law_next : Def0 P w K mg base cad "_law_next" 1 2 m__law_next)
    (d__law_rows : Def0 P w K mg base cad "_law_rows" 2 4 m__law_rows)
    (d__law_text : Def0 P w K mg base cad "_law_text" 1 1 m__law_text)
    (d__law_told_rows : Def0 P w K mg base cad "_law_told_rows" 1 1 m__law_told_rows)
    (d_read : Def0 P w K mg base cad "read" 5 1 m_read)
    (d_read_deed : Def0 P w K mg base cad "read_deed" 5 1 m_read_deed)
    (d_written : Def0 P w K mg base cad "written" 4 1 m_written)
    (d_written_deed : Def0 P w K mg base cad "written_deed" 6 1 m_written_deed)
    (F : Fun K "law" "law" s_law f fd) : FnOk P w K mg base CX0 10 f fd ["_law_script"] (spM K cad 1 (noX m_law)) := by
  have h := fn0 (P := P) (w := w) (mg := mg) (base := base) (cad := cad) (k := 9) (b := b_law) F sc_law (fun cdv A outer s H E E0 hr => by
    have hU := hU_of hr
    unfold b_law
    unfold b_law_3
    unfold b_law_2
    unfold b_law_1
    exact dss_cons (ds_set 1 sc_law.nd (de_loc (de_callD d__law_dice hr (by decide) (by rfl) (da_cons (de_var 0) (da_nil)) (aLenS (aLen0))))) (dss_cons (ds_for PassesOwn.never rfl (di_range1 (by rfl) G.range (de_int)) (pg_name (i := 2) sc_law.nd rfl (by first | exact Or.inl rfl | exact Or.inr rfl)) (g_name 2) (dss_cons (ds_set 3 sc_law.nd (de_ix (ix_all hU) sd_ix (de_lst (da_cons (de_callD d__law_rows hr (by decide) (by rfl) (da_cons (de_var 1) (da_cons (de_int) (da_cons (de_int) (da_cons (de_int) (da_nil))))) (aLenS (aLenS (aLenS (aLenS (aLen0)))))) (da_cons (de_callD d__law_rows hr (by decide) (by rfl) (da_cons (de_var 1) (da_cons (de_int) (da_cons (de_int) (da_cons (de_int) (da_nil))))) (aLenS (aLenS (aLenS (aLenS (aLen0)))))) (da_nil)))) (de_bin op_fdivW sd_div (de_callD d__law_next hr (by decide) (by rfl) (da_cons (de_var 1) (da_cons (de_int) (da_nil))) (aLenS (aLenS (aLen0)))) (de_int)))) (dss_cons (ds_set 3 sc_law.nd (de_callD d__law_told_rows hr (by decide) (by rfl) (da_cons (de_callD d__law_names hr (by decide) (by rfl) (da_cons (de_var 3) (da_nil)) (aLenS (aLen0))) (da_nil)) (aLenS (aLen0)))) (dss_cons (ds_set 3 sc_law.nd (de_callD d__law_moved hr (by decide) (by rfl) (da_cons (de_var 3) (da_cons (de_ix (ix_all hU) sd_ix (de_lst (da_cons (de_int) (da_cons (de_bin op_subA sd_sub (de_bin op_pow sd_pow (de_int) (de_int)) (de_int)) (da_cons (de_callD d__law_next hr (by decide) (by rfl) (da_cons (de_var 1) (da_cons (de_bin op_pow sd_pow (de_int) (de_int)) (da_nil))) (aLenS (aLenS (aLen0)))) (da_nil))))) (de_callD d__law_next hr (by decide) (by rfl) (da_cons (de_var 1) (da_cons (de_int) (da_nil))) (aLenS (aLenS (aLen0))))) (da_nil))) (aLenS (aLenS (aLen0))))) (dss_cons (ds_set 4 sc_law.nd (de_callD d__law_text hr (by decide) (by rfl) (da_cons (de_var 3) (da_nil)) (aLenS (aLen0)))) (dss_cons (ds_for PassesOwn.never rfl (di_range1 (by rfl) G.range (de_int)) (pg_name (i := 5) sc_law.nd rfl (by first | exact Or.inl rfl | exact Or.inr rfl)) (g_name 5) (dss_cons (ds_set 6 sc_law.nd (de_loc (de_callD d_read hr (by decide) (by rfl) (da_cons (de_var 4) (da_nil)) (aLenS (aLen0))))) (dss_cons (ds_if (PW.pt (dw_or (dt_not (dt_val (de_callD d__law_like hr (by decide) (by rfl) (da_cons (de_callD d_written hr (by decide) (by rfl) (da_cons (de_bin op_addA sd_add (de_rev (de_var 3)) (de_cut (de_var 3) (do_none) (do_some (de_int)))) (da_nil)) (aLenS (aLen0))) (da_cons (de_var 4) (da_nil))) (aLenS (aLenS (aLen0)))))) (pw_or1 (dt_not (dt_val (de_callD d__law_like hr (by decide) (by rfl) (da_cons (de_var 6) (da_cons (de_var 3) (da_nil))) (aLenS (aLenS (aLen0))))))))) (dss_one (ds_ret (de_bl))) (dss_nil)) (dss_one (ds_app (de_var 6) (de_int)))))) (dss_one (ds_for PassesOwn.never rfl (di_seq (de_callD d__law_deeds hr (by decide) (by rfl) (da_cons (de_var 1) (da_cons (de_int) (da_nil))) (aLenS (aLenS (aLen0))))) (pg_name (i := 7) sc_law.nd rfl (by first | exact Or.inl rfl | exact Or.inr rfl)) (g_name 7) (dss_cons (ds_set 4 sc_law.nd (de_callD d__law_deed_text hr (by decide) (by rfl) (da_cons (de_var 7) (da_nil)) (aLenS (aLen0)))) (dss_one (ds_if (PW.pt (dw_or (dt_not (dt_val (de_callD d__law_like hr (by decide) (by rfl) (da_cons (de_callD d_written_deed hr (by decide) (by rfl) (da_cons (de_var 7) (da_nil)) (aLenS (aLen0))) (da_cons (de_var 4) (da_nil))) (aLenS (aLenS (aLen0)))))) (pw_or1 (dt_not (dt_val (de_callD d__law_like hr (by decide) (by rfl) (da_cons (de_callD d_read_deed hr (by decide) (by rfl) (da_cons (de_var 4) (da_nil)) (aLenS (aLen0))) (da_cons (de_var 7) (da_nil))) (aLenS (aLenS (aLen0))))))))) (dss_one (ds_ret (de_bl))) (dss_nil)))))))))))) (dss_one (ds_ret (PB.v (pb_and (pb_val (de_cmp (op_eqA hU) sd_eq (de_callD d_read hr (by decide) (by rfl) (da_cons (de_str) (da_nil)) (aLenS (aLen0))) (de_lst (da_nil)))) (pb_one (pb_val (de_cmp (op_eqA hU) sd_eq (de_callD d_written hr (by decide) (by rfl) (da_cons (de_lst (da_nil)) (da_nil)) (aLenS (aLen0))) (de_str))))))))))
  exact h
end
end Law

/-! ### reckoning with the functions over data -/
namespace DL
open PySem L2
section
variable {α β : Type} {c : Prop} [Decidable c]
@[simp] theorem bind_ok' (a : α) (μ : Store) (f : α → Store → Res β) : (Res.ok a μ).bind f = f a μ := (rfl)
@[simp] theorem bind_ite (a b : Res α) (f : α → Store → Res β) : (if c then a else b).bind f = if c then a.bind f else b.bind f := by split <;> rfl
@[simp] theorem of_some (a : α) (μ : Store) : Res.of (some a) μ = .ok a μ := (rfl)
@[simp] theorem of_ite (a b : Option α) (μ : Store) : Res.of (if c then a else b) μ = if c then Res.of a μ else Res.of b μ := by split <;> rfl
@[simp] theorem seqR_nx (ρ : Ev) (μ : Store) (n : MS) : seqR (.ok (.nx, ρ) μ) n = n ρ μ := (rfl)
@[simp] theorem seqR_rt (rv : Rv) (ρ : Ev) (μ : Store) (n : MS) : seqR (.ok (.rt rv, ρ) μ) n = .ok (.rt rv, ρ) μ := (rfl)
@[simp] theorem seqR_ct (ρ : Ev) (μ : Store) (n : MS) : seqR (.ok (.ct, ρ) μ) n = .ok (.ct, ρ) μ := (rfl)
@[simp] theorem seqR_ite (a b : Res (Fl × Ev)) (n : MS) : seqR (if c then a else b) n = if c then seqR a n else seqR b n := by split <;> rfl
@[simp] theorem loopR_nx (ρ : Ev) (μ : Store) (n : MS) : loopR (.ok (.nx, ρ) μ) n = n ρ μ := (rfl)
@[simp] theorem loopR_rt (rv : Rv) (ρ : Ev) (μ : Store) (n : MS) : loopR (.ok (.rt rv, ρ) μ) n = .ok (.rt rv, ρ) μ := (rfl)
@[simp] theorem loopR_ite (a b : Res (Fl × Ev)) (n : MS) : loopR (if c then a else b) n = if c then loopR a n else loopR b n := by split <;> rfl
@[simp] theorem endR_rt (rv : Rv) (ρ : Ev) (μ : Store) : endR (.ok (.rt rv, ρ) μ) = .ok rv μ := (rfl)
@[simp] theorem endR_nx (ρ : Ev) (μ : Store) : endR (.ok (.nx, ρ) μ) = .ok (.sh .non) μ := (rfl)
@[simp] theorem endR_ite (a b : Res (Fl × Ev)) : endR (if c then a else b) = if c then endR a else endR b := by split <;> rfl
@[simp] theorem noXR_ok (rv : Rv) (μ : Store) : noXR (.ok rv μ) = .ok rv μ := (rfl)
end
/-! ### rows -/
abbrev Row := Int × Int × Int
def rowD (r : Row) : D := .tup [.int r.1, .int r.2.1, .int r.2.2]
@[simp] theorem rowD_mk (h a b : Int) : rowD (h, a, b) = .tup [.int h, .int a, .int b] := (rfl)
def rowP (r : Row) : PyData := .tuple [.int r.1, .int r.2.1, .int r.2.2]
theorem rowD_py (r : Row) : (rowD r).py = some (rowP r) := rfl
theorem rowsD_pys : ∀ rs : List Row, D.pys (rs.map rowD) = some (rs.map rowP)
  | [] => rfl
  | r :: rs => by
    show (D.py (rowD r)).bind (fun p => (D.pys (rs.map rowD)).map (p :: ·)) = _
    rw [rowD_py, rowsD_pys rs]
    rfl
theorem rowP_lay (r : Row) : (rowP r).canLay0 = true := rfl
theorem rowsP_lay : ∀ rs : List Row, PyData.canLayAll0 (rs.map rowP) = true
  | [] => rfl
  | r :: rs => by
    show ((rowP r).canLay0 && PyData.canLayAll0 (rs.map rowP)) = true
    rw [rowP_lay, rowsP_lay rs]
    rfl
theorem rowsP_depth : ∀ rs : List Row, PyData.depthAll (rs.map rowP) ≤ 1
  | [] => Nat.zero_le _
  | r :: rs => by
    show max (PyData.depth (rowP r)) (PyData.depthAll (rs.map rowP)) ≤ 1
    have h1 : PyData.depth (rowP r) = 1 := rfl
    have := rowsP_depth rs
    omega
theorem rowsP_shaped (rs : List Row) : SeqAt.shaped (.list (rs.map rowP)) = true := by
  unfold SeqAt.shaped
  rw [Bool.and_eq_true]
  refine ⟨rowsP_lay rs, decide_eq_true ?_⟩
  show PyData.depthAll (rs.map rowP) + 1 ≤ 64
  have := rowsP_depth rs
  omega
theorem rowP_eqv (r q : Row) : PyData.eqv (rowP r) (rowP q) = decide (r = q) := by
  obtain ⟨h, a, b⟩ := r
  obtain ⟨h', a', b'⟩ := q
  show ((h == h') && ((a == a') && ((b == b') && true))) = _
  rw [Bool.and_true]
  by_cases e1 : h = h' <;> by_cases e2 : a = a' <;> by_cases e3 : b = b' <;> simp [e1, e2, e3]
theorem rowsP_eqv : ∀ rs qs : List Row, PyData.eqvAll (rs.map rowP) (qs.map rowP) = decide (rs = qs)
  | [], [] => rfl
  | [], _ :: _ => rfl
  | _ :: _, [] => rfl
  | r :: rs, q :: qs => by
    show (PyData.eqv (rowP r) (rowP q) && PyData.eqvAll (rs.map rowP) (qs.map rowP)) = _
    rw [rowP_eqv, rowsP_eqv rs qs]
    by_cases e1 : r = q <;> by_cases e2 : rs = qs <;> simp [e1, e2]
theorem fEq_rows (rs qs : List Row) : fEq (.ob (.lst (rs.map rowD))) (.ob (.lst (qs.map rowD))) = some (.sh (.bl (decide (rs = qs)))) := by
  show (Option.bind ((D.pys (rs.map rowD)).map PyData.list) fun p => Option.bind ((D.pys (qs.map rowD)).map PyData.list) fun q => if SeqAt.shaped p = true ∧ SeqAt.shaped q = true then some (Rv.sh (.bl (id (PyData.eqv p q)))) else none) = _
  rw [rowsD_pys, rowsD_pys]
  show (if SeqAt.shaped (.list (rs.map rowP)) = true ∧ SeqAt.shaped (.list (qs.map rowP)) = true then some (Rv.sh (.bl (PyData.eqvAll (rs.map rowP) (qs.map rowP)))) else none) = _
  rw [if_pos ⟨rowsP_shaped rs, rowsP_shaped qs⟩, rowsP_eqv]
theorem fNe_rows (rs qs : List Row) : fNe (.ob (.lst (rs.map rowD))) (.ob (.lst (qs.map rowD))) = some (.sh (.bl (!decide (rs = qs)))) := by
  show (Option.bind ((D.pys (rs.map rowD)).map PyData.list) fun p => Option.bind ((D.pys (qs.map rowD)).map PyData.list) fun q => if SeqAt.shaped p = true ∧ SeqAt.shaped q = true then some (Rv.sh (.bl (not (PyData.eqv p q)))) else none) = _
  rw [rowsD_pys, rowsD_pys]
  show (if SeqAt.shaped (.list (rs.map rowP)) = true ∧ SeqAt.shaped (.list (qs.map rowP)) = true then some (Rv.sh (.bl (!(PyData.eqvAll (rs.map rowP) (qs.map rowP))))) else none) = _
  rw [if_pos ⟨rowsP_shaped rs, rowsP_shaped qs⟩, rowsP_eqv]
@[simp] theorem fEq_int (i j : Int) : fEq (.d (.int i)) (.d (.int j)) = some (.sh (.bl (decide (i = j)))) := by
  show some (Rv.sh (.bl (i == j))) = _
  rw [show (i == j) = decide (i = j) from rfl]
@[simp] theorem fNe_int (i j : Int) : fNe (.d (.int i)) (.d (.int j)) = some (.sh (.bl (!decide (i = j)))) := by
  show some (Rv.sh (.bl (!(i == j)))) = _
  rw [show (i == j) = decide (i = j) from rfl]
theorem fNe_rows_nil (rs : List Row) : fNe (.ob (.lst (rs.map rowD))) (.ob (.lst [])) = some (.sh (.bl (!decide (rs = [])))) := fNe_rows rs []
theorem fEq_rows_nil (rs : List Row) : fEq (.ob (.lst (rs.map rowD))) (.ob (.lst [])) = some (.sh (.bl (decide (rs = [])))) := fEq_rows rs []
/-- sorted rows -/
def rowL (r : Row) : List Int := [r.1, r.2.1, r.2.2]
def rowLt (r q : Row) : Bool := HT.lexLt (rowL r) (rowL q)
def insR (x : Row) : List Row → List Row
  | [] => [x]
  | y :: ys => if rowLt y x = true then y :: insR x ys else x :: y :: ys
def sortR : List Row → List Row
  | [] => []
  | x :: xs => insR x (sortR xs)
theorem insR_L (x : Row) : ∀ l : List Row, (insR x l).map rowL = insL (rowL x) (l.map rowL)
  | [] => rfl
  | y :: ys => by
    unfold insR
    rw [List.map_cons, insL]
    show List.map rowL (if HT.lexLt (rowL y) (rowL x) = true then y :: insR x ys else x :: y :: ys) = _
    split
    · rw [List.map_cons, insR_L x ys]
    · rfl
theorem sortR_L : ∀ l : List Row, (sortR l).map rowL = sortL (l.map rowL)
  | [] => rfl
  | x :: xs => by
    show (insR x (sortR xs)).map rowL = insL (rowL x) (sortL (xs.map rowL))
    rw [insR_L, sortR_L xs]
theorem rows_intss : ∀ rs : List Row, D.intss (rs.map rowD) = some (rs.map rowL)
  | [] => rfl
  | r :: rs => by
    show ((D.ints [.int r.1, .int r.2.1, .int r.2.2]).bind fun ns => if ns = [] then none else (D.intss (rs.map rowD)).map (ns :: ·)) = _
    rw [rows_intss rs]
    rfl
theorem intsD_rowL (r : Row) : intsD (rowL r) = rowD r := rfl
theorem fSorted_rows (rs : List Row) : fSorted [.ob (.lst (rs.map rowD))] = some (.own (.lst ((sortR rs).map rowD))) := by
  cases rs with
  | nil => rfl
  | cons r rs =>
    show (match D.ints ((r :: rs).map rowD) with | some ns => some (Rv.own (.lst ((sortI ns).map .int))) | none => (D.intss ((r :: rs).map rowD)).map fun nss => .own (.lst ((sortL nss).map intsD))) = _
    have e : D.ints ((r :: rs).map rowD) = none := rfl
    rw [e, rows_intss]
    show some (Rv.own (.lst ((sortL ((r :: rs).map rowL)).map intsD))) = _
    rw [← sortR_L, List.map_map]
    rfl
end DL

/-! ### what the pieces do, for simp -/
namespace DL
open PySem L2
section
variable {ρ : Ev} {μ : Store} {a b c d m : ME} {t u : MT} {s n : MS} {as : MA} {os : Ev → Store → Res (List Op)} {i : Nat}
@[simp] theorem x_mIf : mIf t s n ρ μ = (t ρ μ).bind fun c μ1 => if c = true then s ρ μ1 else n ρ μ1 := (rfl)
@[simp] theorem x_mAnd : mAnd t u ρ μ = (t ρ μ).bind fun c μ1 => if c = true then u ρ μ1 else .ok false μ1 := (rfl)
@[simp] theorem x_mOr : mOr t u ρ μ = (t ρ μ).bind fun c μ1 => if c = true then .ok true μ1 else u ρ μ1 := (rfl)
@[simp] theorem x_mNot : mNot t ρ μ = (t ρ μ).bind fun c μ1 => .ok (!c) μ1 := (rfl)
def mTR (o : Op) (μ : Store) : Res Bool := match o with
  | .sh (.bl b) => .ok b μ
  | _ => .stk
@[simp] theorem x_mT : mT m ρ μ = (m ρ μ).bind mTR := (rfl)
@[simp] theorem x_mTR {k : Bool} : mTR (.sh (.bl k)) μ = .ok k μ := (rfl)
@[simp] theorem x_eB : eB t ρ μ = (t ρ μ).bind fun b μ1 => .ok (.sh (.bl b)) μ1 := (rfl)
@[simp] theorem x_eIf : eIf t a b ρ μ = (t ρ μ).bind fun c μ1 => if c = true then a ρ μ1 else b ρ μ1 := (rfl)
@[simp] theorem x_e2 {f} : e2 f a b ρ μ = (a ρ μ).bind fun x μ1 => (b ρ μ1).bind fun y μ2 => Res.of (fin2 f ρ μ2 x y) μ2 := (rfl)
@[simp] theorem x_e1 {f} : e1 f a ρ μ = (a ρ μ).bind fun x μ1 => Res.of ((deref ρ μ1 x).bind fun wx => (f wx).map Rv.op) μ1 := (rfl)
@[simp] theorem x_eC {d : D} : eC d ρ μ = .ok (.sh d) μ := (rfl)
def eVarR (i : Nat) (μ : Store) : Option Sl → Res Op
  | some (.sh d) => .ok (.sh d) μ
  | some (.own _) => .ok (.slot i) μ
  | _ => .stk
@[simp] theorem x_eVar : eVar i ρ μ = eVarR i μ ρ[i]? := by
  unfold eVar eVarR
  cases ρ[i]? with
  | none => rfl
  | some s => cases s <;> rfl
@[simp] theorem x_eVarR1 {d : D} : eVarR i μ (some (.sh d)) = .ok (.sh d) μ := (rfl)
@[simp] theorem x_eVarR2 {o : Ob} : eVarR i μ (some (.own o)) = .ok (.slot i) μ := (rfl)
@[simp] theorem x_fin2 {f x y} : fin2 f ρ μ x y = (deref ρ μ x).bind fun wx => (deref ρ μ y).bind fun wy => (f wx wy).map Rv.op := (rfl)
@[simp] theorem x_der1 {d : D} : deref ρ μ (.sh d) = d.vw μ := (rfl)
@[simp] theorem x_der2 {o : Ob} : deref ρ μ (.own o) = o.rd.map .ob := (rfl)
def slotR : Option Sl → Option Ob
  | some (.own o) => some o
  | _ => none
@[simp] theorem x_slotR {o : Ob} : slotR (some (.own o)) = some o := (rfl)
@[simp] theorem x_der3 : deref ρ μ (.slot i) = (slotR ρ[i]?).bind fun o => o.rd.map .ob := by
  show (match ρ[i]? with | some (.own o) => o.rd.map Vw.ob | _ => none) = _
  cases ρ[i]? with
  | none => rfl
  | some s => cases s <;> rfl
@[simp] theorem x_rd1 {xs : List D} : Ob.rd (.lst xs) = some (.lst xs) := (rfl)
@[simp] theorem x_rd2 {kvs} : Ob.rd (.dK kvs) = some (.dK kvs) := (rfl)
@[simp] theorem x_rd3 {kvs} : Ob.rd (.dT kvs) = some (.dT kvs) := (rfl)
@[simp] theorem x_vw1 {i : Int} : D.vw μ (.int i) = some (.d (.int i)) := (rfl)
@[simp] theorem x_vw2 {k : Bool} : D.vw μ (.bl k) = some (.d (.bl k)) := (rfl)
@[simp] theorem x_vw3 {k} : D.vw μ (.tup k) = some (.d (.tup k)) := (rfl)
@[simp] theorem x_vw4 {k} : D.vw μ (.lst k) = some (.ob (.lst k)) := (rfl)
@[simp] theorem x_vw5 {k} : D.vw μ (.str k) = some (.d (.str k)) := (rfl)
@[simp] theorem x_vw6 {k} : D.vw μ (.scr k) = some (.d (.scr k)) := (rfl)
@[simp] theorem x_vw7 {k} : D.vw μ (.loc k) = (μ[k]?).bind fun o => o.rd.map .ob := (rfl)
@[simp] theorem x_vw8 : D.vw μ .non = some (.d .non) := (rfl)
@[simp] theorem x_op1 {d : D} : Rv.op (.sh d) = .sh d := (rfl)
@[simp] theorem x_op2 {o : Ob} : Rv.op (.own o) = .own o := (rfl)
@[simp] theorem x_toD : toD m ρ μ = (m ρ μ).bind fun o μ' => Res.of o.toD μ' := (rfl)
@[simp] theorem x_toD1 {d : D} : Op.toD (.sh d) = some d := (rfl)
@[simp] theorem x_toD2 {d} : Op.toD (.own (.lst d)) = some (.lst d) := (rfl)
@[simp] theorem x_aNil : aNil ρ μ = .ok [] μ := (rfl)
@[simp] theorem x_oNil : oNil ρ μ = .ok [] μ := (rfl)
@[simp] theorem x_aCons : aCons m as ρ μ = (toD m ρ μ).bind fun d μ1 => (as ρ μ1).bind fun ds μ2 => .ok (d :: ds) μ2 := (rfl)
@[simp] theorem x_oCons : oCons m os ρ μ = (m ρ μ).bind fun d μ1 => (os ρ μ1).bind fun ds μ2 => .ok (d :: ds) μ2 := (rfl)
@[simp] theorem x_eTup : eTup as ρ μ = (as ρ μ).bind fun ds μ1 => if ds.length ≤ 16777216 then .ok (.sh (.tup ds)) μ1 else .stk := (rfl)
@[simp] theorem x_eLst : eLst as ρ μ = (as ρ μ).bind fun ds μ1 => if ds.length ≤ 16777216 then .ok (.own (.lst ds)) μ1 else .stk := (rfl)
@[simp] theorem x_eCB {f} : eCB f os ρ μ = (os ρ μ).bind fun os μ1 => Res.of ((derefs ρ μ1 os).bind fun ws => (f ws).map Rv.op) μ1 := (rfl)
@[simp] theorem x_derefs1 : derefs ρ μ [] = some [] := (rfl)
@[simp] theorem x_derefs2 {o os} : derefs ρ μ (o :: os) = (deref ρ μ o).bind fun w => (derefs ρ μ os).map (w :: ·) := (rfl)
def setItR (ρ : Ev) (μ : Store) (oo : Op) : Option Ob → Res (Fl × Ev)
  | some ob' => putRes ρ μ oo ob'
  | none => .stk
@[simp] theorem x_setItR {oo ob} : setItR ρ μ oo (some ob) = putRes ρ μ oo ob := (rfl)
@[simp] theorem x_mSetIt : mSetIt a b c ρ μ = (toD a ρ μ).bind fun d μ1 => (b ρ μ1).bind fun oo μ2 => (toD c ρ μ2).bind fun k μ3 => setItR ρ μ3 oo ((getOb ρ μ3 oo).bind fun ob => fSet ob k d) := (rfl)
@[simp] theorem x_putRes {o ob} : putRes ρ μ o ob = .ok (.nx, (putOb ρ μ o ob).1) (putOb ρ μ o ob).2 := (rfl)
@[simp] theorem x_putOb1 {ob} : putOb ρ μ (.slot i) ob = (ρ.set i (.own ob), μ) := (rfl)
@[simp] theorem x_putOb2 {ob} : putOb ρ μ (.sh (.loc i)) ob = (ρ, μ.set i ob) := (rfl)
@[simp] theorem x_getOb1 : getOb ρ μ (.slot i) = slotR ρ[i]? := by
  show (match ρ[i]? with | some (.own o) => some o | _ => none) = _
  cases ρ[i]? with
  | none => rfl
  | some s => cases s <;> rfl
@[simp] theorem x_getOb2 : getOb ρ μ (.sh (.loc i)) = μ[i]? := (rfl)
def lstR : Option Ob → Option (List D)
  | some (.lst xs) => some xs
  | _ => none
@[simp] theorem x_lstR {xs} : lstR (some (.lst xs)) = some xs := (rfl)
@[simp] theorem x_lstAt {o} : lstAt ρ μ o = lstR (getOb ρ μ o) := by
  unfold lstAt lstR
  cases getOb ρ μ o with
  | none => rfl
  | some s => cases s <;> rfl
def appR2 (ρ : Ev) (μ : Store) (o : Op) (d : D) : Option (List D) → Res (Fl × Ev)
  | none => .stk
  | some xs => if xs.length < 16777216 then putRes ρ μ o (.lst (xs ++ [d])) else .stk
@[simp] theorem x_appR2 {o d xs} : appR2 ρ μ o d (some xs) = if xs.length < 16777216 then putRes ρ μ o (.lst (xs ++ [d])) else .stk := (rfl)
def appR (a : ME) (ρ : Ev) (μ : Store) (o : Op) : Option (List D) → Res (Fl × Ev)
  | none => .stk
  | some _ => (toD a ρ μ).bind fun d μ2 => appR2 ρ μ2 o d (lstAt ρ μ2 o)
@[simp] theorem x_appR {o xs} : appR a ρ μ o (some xs) = (toD a ρ μ).bind fun d μ2 => appR2 ρ μ2 o d (lstAt ρ μ2 o) := (rfl)
@[simp] theorem x_mApp : mApp b a ρ μ = (b ρ μ).bind fun o μ1 => appR a ρ μ1 o (lstAt ρ μ1 o) := (rfl)
@[simp] theorem x_mSeq : mSeq s n ρ μ = seqR (s ρ μ) n := (rfl)
@[simp] theorem x_mNx : mNx ρ μ = .ok (.nx, ρ) μ := (rfl)
@[simp] theorem x_mSet : mSet i a ρ μ = (toD a ρ μ).bind fun d μ1 => .ok (.nx, ρ.set i (.sh d)) μ1 := (rfl)
def ownR (ρ : Ev) (i : Nat) (o : Op) (μ : Store) : Res (Fl × Ev) := match o with
  | .own ob => .ok (.nx, ρ.set i (.own ob)) μ
  | _ => .stk
@[simp] theorem x_ownR {ob} : ownR ρ i (.own ob) μ = .ok (.nx, ρ.set i (.own ob)) μ := (rfl)
@[simp] theorem x_mOwn : mOwn i a ρ μ = (a ρ μ).bind (ownR ρ i) := (rfl)
def retR (ρ : Ev) (μ : Store) : Option Rv → Res (Fl × Ev)
  | some rv => .ok (.rt rv, ρ) μ
  | none => .stk
@[simp] theorem x_retR {rv} : retR ρ μ (some rv) = .ok (.rt rv, ρ) μ := (rfl)
@[simp] theorem x_mRet : mRet a ρ μ = (a ρ μ).bind fun o μ1 => retR ρ μ1 (opRv ρ o) := (rfl)
@[simp] theorem x_opRv1 {d} : opRv ρ (.sh d) = some (.sh d) := (rfl)
@[simp] theorem x_opRv2 {d} : opRv ρ (.own d) = some (.own d) := (rfl)
@[simp] theorem x_opRv3 : opRv ρ (.slot i) = (slotR ρ[i]?).map .own := by
  show (match ρ[i]? with | some (.own o) => some (Rv.own o) | _ => none) = _
  cases ρ[i]? with
  | none => rfl
  | some s => cases s <;> rfl
@[simp] theorem x_mDrop : mDrop a ρ μ = (a ρ μ).bind fun _ μ1 => .ok (.nx, ρ) μ1 := (rfl)
@[simp] theorem x_mFor {it g} : mFor it g s ρ μ = (it ρ μ).bind fun xs μ1 => forL g s xs ρ μ1 := (rfl)
@[simp] theorem x_iSeq : iSeq m ρ μ = (toD m ρ μ).bind fun d μ1 => Res.of d.items μ1 := (rfl)
@[simp] theorem x_items1 {ds} : D.items (.lst ds) = some ds := (rfl)
@[simp] theorem x_items2 {ds} : D.items (.tup ds) = some ds := (rfl)
@[simp] theorem x_items3 {ns} : D.items (.scr ns) = some (ns.map .int) := (rfl)
def range1R (d : D) (μ : Store) : Res (List D) := match d with
  | .int n => Res.of (rangeD 0 n) μ
  | _ => .stk
@[simp] theorem x_range1R {n} : range1R (.int n) μ = Res.of (rangeD 0 n) μ := (rfl)
@[simp] theorem x_iRange1 : iRange1 m ρ μ = (toD m ρ μ).bind range1R := (rfl)
def enumR (d : D) (μ : Store) : Res (List D) := match d with
  | .lst ds => .ok (enumD ds) μ
  | _ => .stk
@[simp] theorem x_enumR {ds} : enumR (.lst ds) μ = .ok (enumD ds) μ := (rfl)
@[simp] theorem x_iEnumD : iEnumD m ρ μ = (toD m ρ μ).bind enumR := (rfl)
@[simp] theorem x_gT {is ds} : gT is (.tup ds) ρ = if ds.length = is.length then some (setsE is ds ρ) else none := (rfl)
@[simp] theorem x_gN {d} : gN i d ρ = some (ρ.set i (.sh d)) := (rfl)
@[simp] theorem x_setsE1 {is d ds} : setsE (i :: is) (d :: ds) ρ = setsE is ds (ρ.set i (.sh d)) := (rfl)
@[simp] theorem x_setsE2 : setsE [] [] ρ = ρ := (rfl)
@[simp] theorem x_eCall {f} : eCall f as ρ μ = (as ρ μ).bind fun ds μ1 => (f ds μ1).bind fun rv μ2 => .ok rv.op μ2 := (rfl)
@[simp] theorem x_noX {f ds} : noX f ds μ = noXR (f ds μ) := (rfl)
@[simp] theorem x_eLc {it g ws} : eLc it g ws t a ρ μ = (it ρ μ).bind fun xs μ1 => (lcL g t a (wipeE ρ ws) xs μ1 []).bind fun ds μ2 => .ok (.own (.lst ds)) μ2 := (rfl)
@[simp] theorem x_mYes : mYes ρ μ = .ok true μ := (rfl)
def frzR (ρ : Ev) (i : Nat) (μ : Store) : Option Ob → Res (Fl × Ev)
  | some o => (match frzD o with
    | some d => .ok (.nx, ρ.set i (.sh d)) μ
    | none => .stk)
  | none => .stk
@[simp] theorem x_frzR {xs} : frzR ρ i μ (some (.lst xs)) = .ok (.nx, ρ.set i (.sh (.lst xs))) μ := (rfl)
def frzS (ρ : Ev) (i : Nat) (μ : Store) : Option Sl → Res (Fl × Ev)
  | some (.own o) => frzR ρ i μ (some o)
  | some (.sh _) => .ok (.nx, ρ) μ
  | _ => .stk
@[simp] theorem x_frzS1 {o} : frzS ρ i μ (some (.own o)) = frzR ρ i μ (some o) := (rfl)
@[simp] theorem x_frzS2 {d} : frzS ρ i μ (some (.sh d)) = .ok (.nx, ρ) μ := (rfl)
@[simp] theorem x_mFrz : mFrz i ρ μ = frzS ρ i μ ρ[i]? := by
  unfold mFrz
  cases ρ[i]? with
  | none => rfl
  | some s => cases s <;> rfl
@[simp] theorem x_runB {n p ds} : runB n p s ds μ = if ds.length = p then endR (s (startE n ds) μ) else .stk := (rfl)
@[simp] theorem x_startE {n ds} : startE n ds = ds.map .sh ++ List.replicate (n - ds.length) .no := (rfl)
@[simp] theorem x_eCh2 {f g} : eCh2 f g a b c ρ μ = (a ρ μ).bind fun x μ1 => (b ρ μ1).bind fun y μ2 => chainE f ρ μ2 x y fun μ2 => (c ρ μ2).bind fun z μ3 => Res.of (fin2 g ρ μ3 y z) μ3 := (rfl)
@[simp] theorem x_eCh3 {f g h} : eCh3 f g h a b c d ρ μ = (a ρ μ).bind fun x μ1 => (b ρ μ1).bind fun y μ2 => chainE f ρ μ2 x y fun μ2 => (c ρ μ2).bind fun z μ3 => chainE g ρ μ3 y z fun μ3 => (d ρ μ3).bind fun u μ4 => Res.of (fin2 h ρ μ4 z u) μ4 := (rfl)
def chR (μ : Store) (k : Store → Res Op) : Option Op → Res Op
  | some (.sh (.bl c)) => if c = true then k μ else .ok (.sh (.bl false)) μ
  | _ => .stk
@[simp] theorem x_chR {k} {c : Bool} : chR μ k (some (.sh (.bl c))) = if c = true then k μ else .ok (.sh (.bl false)) μ := (rfl)
@[simp] theorem x_chainE {f x y k} : chainE f ρ μ x y k = chR μ k (fin2 f ρ μ x y) := (rfl)
@[simp] theorem x_mPar {is} : mPar is as ρ μ = (as ρ μ).bind fun ds μ1 => if ds.length = is.length then .ok (.nx, setsE is ds ρ) μ1 else .stk := (rfl)
@[simp] theorem x_wipe1 : wipeE ρ [] = ρ := (rfl)
@[simp] theorem x_wipe2 {vs} : wipeE ρ (i :: vs) = (wipeE ρ vs).set i .no := (rfl)
@[simp] theorem x_eDK : eDK ρ μ = .ok (.own (.dK [])) μ := (rfl)
@[simp] theorem x_eDT : eDT ρ μ = .ok (.own (.dT [])) μ := (rfl)
@[simp] theorem x_eIsi {T} : eIsi T a ρ μ = (a ρ μ).bind fun x μ1 => Res.of ((deref ρ μ1 x).bind fun wx => (fIsi T wx).map Rv.op) μ1 := (rfl)
@[simp] theorem x_eRev : eRev a ρ μ = (a ρ μ).bind fun x μ1 => Res.of ((deref ρ μ1 x).bind fun wx => (fRev wx).map Rv.op) μ1 := (rfl)
@[simp] theorem x_eFld {k f} : eFld k f a ρ μ = (a ρ μ).bind fun x μ1 => Res.of ((deref ρ μ1 x).bind fun wx => (fFld k f wx).map Rv.op) μ1 := (rfl)
def locR (o : Op) (μ : Store) : Res Op := match o with
  | .own ob => .ok (.sh (.loc μ.length)) (μ ++ [ob])
  | _ => .stk
@[simp] theorem x_locR {ob} : locR (.own ob) μ = .ok (.sh (.loc μ.length)) (μ ++ [ob]) := (rfl)
@[simp] theorem x_eLoc : eLoc a ρ μ = (a ρ μ).bind locR := (rfl)
def forLocR (g : D → Ev → Option Ev) (s : MS) (ρ : Ev) (d : D) (μ : Store) : Res (Fl × Ev) := match d with
  | .loc n => if isLst μ n = true then forLoc g s n 16777300 0 ρ μ else .stk
  | _ => .stk
@[simp] theorem x_forLocR {g n} : forLocR g s ρ (.loc n) μ = if isLst μ n = true then forLoc g s n 16777300 0 ρ μ else .stk := (rfl)
@[simp] theorem x_mForLoc {g} : mForLoc a g s ρ μ = (toD a ρ μ).bind (forLocR g s ρ) := (rfl)
@[simp] theorem x_eGet1 : eGet1 a b ρ μ = (a ρ μ).bind fun oo μ1 => if isDat ρ μ1 oo = true then (toD b ρ μ1).bind fun dk μ2 => getR μ2 .non (getAt ρ μ2 oo dk) else .stk := (rfl)
@[simp] theorem x_eGet2 : eGet2 a b c ρ μ = (a ρ μ).bind fun oo μ1 => if isDat ρ μ1 oo = true then (toD b ρ μ1).bind fun dk μ2 => (toD c ρ μ2).bind fun dx μ3 => getR μ3 dx (getAt ρ μ3 oo dk) else .stk := (rfl)
def isDatR : Option Vw → Bool
  | some w => w.isD
  | none => false
@[simp] theorem x_isDat {o} : isDat ρ μ o = isDatR (deref ρ μ o) := (rfl)
@[simp] theorem x_isDatR1 {kvs} : isDatR (some (.ob (.dK kvs))) = true := (rfl)
@[simp] theorem x_isDatR2 {kvs} : isDatR (some (.ob (.dT kvs))) = true := (rfl)
@[simp] theorem x_getAt {o k} : getAt ρ μ o k = (deref ρ μ o).bind fun w => (k.vw μ).bind fun wk => fGet w wk := (rfl)
@[simp] theorem x_getR {dx r} : getR μ dx (some r) = .ok (.sh (r.getD dx)) μ := (rfl)
@[simp] theorem x_eMeth {k x f} : eMeth k x f a as ρ μ = (a ρ μ).bind fun oo μ1 => if insAt k x ρ μ1 oo = true then (as ρ μ1).bind fun ds μ2 => methR f (selfD oo) ds μ2 else .stk := (rfl)
def insR' (k x : Str) : Option Vw → Bool
  | some (.ob (.ins c' fs)) => decide (c' = k) && (fs.lookup x).isNone
  | _ => false
@[simp] theorem x_insAt {k x o} : insAt k x ρ μ o = insR' k x (deref ρ μ o) := by
  unfold insAt insR'
  cases deref ρ μ o with
  | none => rfl
  | some w => cases w with
    | d _ => rfl
    | ob o => cases o <;> rfl
@[simp] theorem x_insR {k x fs} : insR' k x (some (.ob (.ins k fs))) = (fs.lookup x).isNone := by
  show (decide (k = k) && (fs.lookup x).isNone) = _
  rw [decide_eq_true rfl, Bool.true_and]
@[simp] theorem x_selfD {d} : selfD (.sh d) = some d := (rfl)
@[simp] theorem x_methR {f d ds} : methR f (some d) ds μ = (f (d :: ds) μ).bind fun rv μ2 => .ok rv.op μ2 := (rfl)
@[simp] theorem x_eMake {k f} : eMake k f as ρ μ = (as ρ μ).bind fun ds μ1 => makeR μ1.length (f (.loc μ1.length :: ds) (μ1 ++ [.ins k []])) := (rfl)
@[simp] theorem x_makeR {n} : makeR n (.ok (.sh .non) μ) = .ok (.sh (.loc n)) μ := (rfl)
def fldR (ρ : Ev) (μ : Store) (oo : Op) : Option Ob → Res (Fl × Ev)
  | some ob' => putRes ρ μ oo ob'
  | none => .stk
@[simp] theorem x_fldR {oo ob} : fldR ρ μ oo (some ob) = putRes ρ μ oo ob := (rfl)
@[simp] theorem x_mFld {k f} : mFld k f a b ρ μ = (toD b ρ μ).bind fun d μ1 => (a ρ μ1).bind fun oo μ2 => fldR ρ μ2 oo (fldSet k f d (getOb ρ μ2 oo)) := (rfl)
@[simp] theorem x_rd4 {k fs} : Ob.rd (.ins k fs) = some (.ins k fs) := (rfl)
def range2R (d d' : D) (μ : Store) : Res (List D) := match d, d' with
  | .int i, .int j => Res.of (rangeD i j) μ
  | _, _ => .stk
@[simp] theorem x_range2R {i j : Int} : range2R (.int i) (.int j) μ = Res.of (rangeD i j) μ := (rfl)
@[simp] theorem x_iRange2 : iRange2 a b ρ μ = (toD a ρ μ).bind fun d μ1 => (toD b ρ μ1).bind fun d' μ2 => range2R d d' μ2 := (rfl)
def revR (d : D) (μ : Store) : Res (List D) := match d with
  | .lst ds => .ok ds.reverse μ
  | _ => .stk
@[simp] theorem x_revR {ds} : revR (.lst ds) μ = .ok ds.reverse μ := (rfl)
@[simp] theorem x_iRevD : iRevD m ρ μ = (toD m ρ μ).bind revR := (rfl)
@[simp] theorem x_oNone : oNone ρ μ = .ok none μ := (rfl)
def oSomeR (o : Op) (μ : Store) : Res (Option Int) := match o with
  | .sh (.int i) => .ok (some i) μ
  | _ => .stk
@[simp] theorem x_oSomeR {i : Int} : oSomeR (.sh (.int i)) μ = .ok (some i) μ := (rfl)
@[simp] theorem x_oSome : oSome a ρ μ = (a ρ μ).bind oSomeR := (rfl)
@[simp] theorem x_eCut {lo hi} : eCut a lo hi ρ μ = (a ρ μ).bind fun x μ1 => (lo ρ μ1).bind fun l μ2 => (hi ρ μ2).bind fun h μ3 => Res.of ((deref ρ μ3 x).bind fun w => (fCut w l h).map Rv.op) μ3 := (rfl)
@[simp] theorem x_fCut1 {ds lo hi} : fCut (.ob (.lst ds)) lo hi = some (.own (.lst (cutD ds lo hi))) := (rfl)
@[simp] theorem x_fCut2 {ds lo hi} : fCut (.d (.tup ds)) lo hi = some (.sh (.tup (cutD ds lo hi))) := (rfl)
def unpR (μ : Store) : Option Ev → Res (Fl × Ev)
  | some ρ' => .ok (.nx, ρ') μ
  | none => .stk
@[simp] theorem x_unpR {ρ'} : unpR μ (some ρ') = .ok (.nx, ρ') μ := (rfl)
@[simp] theorem x_mUnp {is} : mUnp is a ρ μ = (toD a ρ μ).bind fun d μ1 => unpR μ1 (gT is d ρ) := (rfl)
@[simp] theorem x_frzR2 {kvs} : frzR ρ i μ (some (.dT kvs)) = .ok (.nx, ρ.set i (.sh (.dT (kvs.map (·.1)) (kvs.map (·.2))))) μ := (rfl)
@[simp] theorem x_frzR3 {kvs} : frzR ρ i μ (some (.dK kvs)) = .ok (.nx, ρ.set i (.sh (.dK (kvs.map (·.1)) (kvs.map (·.2))))) μ := (rfl)
@[simp] theorem x_vw9 {ks vs} : D.vw μ (.dT ks vs) = some (.ob (.dT (ks.zip vs))) := (rfl)
@[simp] theorem x_vw10 {ks vs} : D.vw μ (.dK ks vs) = some (.ob (.dK (ks.zip vs))) := (rfl)
def popR2 (n : Nat) (d : D) (μ : Store) : Res Op := match d with
  | .int i => popR μ n i
  | _ => .stk
@[simp] theorem x_popR2 {n} {i : Int} : popR2 n (.int i) μ = popR μ n i := (rfl)
def popR1 (b : ME) (ρ : Ev) (o : Op) (μ : Store) : Res Op := match o with
  | .sh (.loc n) => if isLst μ n = true then (toD b ρ μ).bind (popR2 n) else .stk
  | _ => .stk
@[simp] theorem x_popR1 {n} : popR1 b ρ (.sh (.loc n)) μ = if isLst μ n = true then (toD b ρ μ).bind (popR2 n) else .stk := (rfl)
@[simp] theorem x_ePop : ePop a b ρ μ = (a ρ μ).bind (popR1 b ρ) := (rfl)
def isLstR : Option Ob → Bool
  | some (.lst _) => true
  | _ => false
@[simp] theorem x_isLst {n} : isLst μ n = isLstR μ[n]? := by
  unfold isLst isLstR
  cases μ[n]? with
  | none => rfl
  | some o => cases o <;> rfl
@[simp] theorem x_isLstR {xs} : isLstR (some (.lst xs)) = true := (rfl)
end
/-! ### numbers -/
@[simp] theorem fAdd_int (i j : Int) : fAdd (.d (.int i)) (.d (.int j)) = some (.sh (.int (i + j))) := (rfl)
@[simp] theorem fAdd_lst (xs ys : List D) : fAdd (.ob (.lst xs)) (.ob (.lst ys)) = if xs.length + ys.length ≤ 16777216 then some (.own (.lst (xs ++ ys))) else none := (rfl)
@[simp] theorem fSub_int (i j : Int) : fSub (.d (.int i)) (.d (.int j)) = some (.sh (.int (i - j))) := (rfl)
@[simp] theorem fLe_int (i j : Int) : fLe (.d (.int i)) (.d (.int j)) = some (.sh (.bl (decide (i ≤ j)))) := (rfl)
@[simp] theorem fLt_int (i j : Int) : fLt (.d (.int i)) (.d (.int j)) = some (.sh (.bl (decide (i < j)))) := (rfl)
@[simp] theorem fGe_int (i j : Int) : fGe (.d (.int i)) (.d (.int j)) = some (.sh (.bl (decide (j ≤ i)))) := (rfl)
@[simp] theorem fGt_int (i j : Int) : fGt (.d (.int i)) (.d (.int j)) = some (.sh (.bl (decide (j < i)))) := (rfl)
@[simp] theorem fNeg_int (i : Int) : fNeg (.d (.int i)) = some (.sh (.int (-i))) := (rfl)
@[simp] theorem fMax2_int (i j : Int) : fMax2 [.d (.int i), .d (.int j)] = some (.sh (.int (max i j))) := (rfl)
@[simp] theorem fMin2_int (i j : Int) : fMin2 [.d (.int i), .d (.int j)] = some (.sh (.int (min i j))) := (rfl)
@[simp] theorem fLen_tup (ds : List D) : fLen [.d (.tup ds)] = some (.sh (.int ds.length)) := (rfl)
@[simp] theorem fLen_lst (ds : List D) : fLen [.ob (.lst ds)] = some (.sh (.int ds.length)) := (rfl)
@[simp] theorem fLen_scr (ds : List Int) : fLen [.d (.scr ds)] = some (.sh (.int ds.length)) := (rfl)
@[simp] theorem fIx_row0 (a b c : D) : fIx (.d (.tup [a, b, c])) (.d (.int 0)) = some (.sh a) := (rfl)
@[simp] theorem fIx_row1 (a b c : D) : fIx (.d (.tup [a, b, c])) (.d (.int 1)) = some (.sh b) := (rfl)
@[simp] theorem fIx_row2 (a b c : D) : fIx (.d (.tup [a, b, c])) (.d (.int 2)) = some (.sh c) := (rfl)
theorem ixN_snoc {α : Type} (xs : List α) (d : α) : ixN (xs ++ [d]).length (-1) = some xs.length := by
  unfold ixN
  rw [if_neg (by omega), if_pos (by simp only [List.length_append, List.length_singleton]; omega)]
  congr 1
  simp only [List.length_append, List.length_singleton]
  omega
theorem set_snoc {α : Type} (xs : List α) (d e : α) : (xs ++ [d]).set xs.length e = xs ++ [e] := by
  rw [List.set_append_right _ _ (Nat.le_refl _), Nat.sub_self]
  rfl
@[simp] theorem fSet_snoc (xs : List D) (d e : D) : fSet (.lst (xs ++ [d])) (.int (-1)) e = some (.lst (xs ++ [e])) := by
  show (ixN (xs ++ [d]).length (-1)).map (fun j => Ob.lst ((xs ++ [d]).set j e)) = _
  rw [ixN_snoc]
  show some (Ob.lst ((xs ++ [d]).set xs.length e)) = _
  rw [set_snoc]
@[simp] theorem fIx_snoc (xs : List D) (d : D) : fIx (.ob (.lst (xs ++ [d]))) (.d (.int (-1))) = some (.sh d) := by
  show (atI (xs ++ [d]) (-1)).map Rv.sh = _
  rw [atI_last]
  rfl
@[simp] theorem fLenB_lst (ds : List D) : fLenB [.ob (.lst ds)] = some (.sh (.int ds.length)) := (rfl)
@[simp] theorem fLenB_tup (ds : List D) : fLenB [.d (.tup ds)] = some (.sh (.int ds.length)) := (rfl)
@[simp] theorem fLenB_scr (ds : List Int) : fLenB [.d (.scr ds)] = some (.sh (.int ds.length)) := (rfl)
@[simp] theorem fLenB_dT (kvs : List (List Key × D)) : fLenB [.ob (.dT kvs)] = some (.sh (.int kvs.length)) := (rfl)
@[simp] theorem fLenB_dK (kvs : List (Key × D)) : fLenB [.ob (.dK kvs)] = some (.sh (.int kvs.length)) := (rfl)
@[simp] theorem fSrt_lst (ds : List D) : fSrt [.ob (.lst ds)] = fSorted [.ob (.lst ds)] := (rfl)
@[simp] theorem fList_lst (ds : List D) : fList [.ob (.lst ds)] = some (.own (.lst ds)) := (rfl)
@[simp] theorem fList_tup (ds : List D) : fList [.d (.tup ds)] = some (.own (.lst ds)) := (rfl)
@[simp] theorem fTuple_lst (ds : List D) : fTuple [.ob (.lst ds)] = some (.sh (.tup ds)) := (rfl)
@[simp] theorem fInt_bl (b : Bool) : fInt [.d (.bl b)] = some (.sh (.int (if b then 1 else 0))) := (rfl)
@[simp] theorem fRev_lst (ds : List D) : fRev (.ob (.lst ds)) = some (.own (.lst ds.reverse)) := (rfl)
@[simp] theorem fIs_non : fIs id (.d .non) (.d .non) = some (.sh (.bl true)) := (rfl)
@[simp] theorem fIx_p0 (a b : D) : fIx (.d (.tup [a, b])) (.d (.int 0)) = some (.sh a) := (rfl)
@[simp] theorem fIx_p1 (a b : D) : fIx (.d (.tup [a, b])) (.d (.int 1)) = some (.sh b) := (rfl)
@[simp] theorem fIx_q0 (a b c d : D) : fIx (.d (.tup [a, b, c, d])) (.d (.int 0)) = some (.sh a) := (rfl)
@[simp] theorem fIx_q1 (a b c d : D) : fIx (.d (.tup [a, b, c, d])) (.d (.int 1)) = some (.sh b) := (rfl)
@[simp] theorem fIx_q2 (a b c d : D) : fIx (.d (.tup [a, b, c, d])) (.d (.int 2)) = some (.sh c) := (rfl)
@[simp] theorem fIx_q3 (a b c d : D) : fIx (.d (.tup [a, b, c, d])) (.d (.int 3)) = some (.sh d) := (rfl)
@[simp] theorem fIx_o0 (a : D) : fIx (.d (.tup [a])) (.d (.int 0)) = some (.sh a) := (rfl)
end DL

/-! ### what holds behind a piece that ends well -/
namespace DL
open PySem L2
class KO (α : Type) where
  run : α → Store → Prop
class KN where
  run : Ev → Store → Prop
class KT where
  run : Rv → Store → Prop
/-- what follows stands where simp does not look -/
def OkI {α : Type} (r : Res α) [K : KO α] : Prop := match r with
  | .ok a μ => K.run a μ
  | _ => False
def OkSI (r : Res (Fl × Ev)) [N : KN] [T : KT] : Prop := match r with
  | .ok (.nx, ρ) μ => N.run ρ μ
  | .ok (.rt rv, _) μ => T.run rv μ
  | _ => False
abbrev Ok {α : Type} (r : Res α) (Q : α → Store → Prop) : Prop := @OkI α r ⟨Q⟩
abbrev OkS (r : Res (Fl × Ev)) (N : Ev → Store → Prop) (T : Rv → Store → Prop) : Prop := @OkSI r ⟨N⟩ ⟨T⟩
section
variable {α β : Type} {r r' : Res α} {f : α → Store → Res β} {μ : Store} {a : α} {s s' : Res (Fl × Ev)} {n : MS} {c : Prop} [Decidable c]
@[simp] theorem run_O {q : α → Store → Prop} : (KO.mk q).run a μ = q a μ := (rfl)
@[simp] theorem run_N {q : Ev → Store → Prop} {ρ} : (KN.mk q).run ρ μ = q ρ μ := (rfl)
@[simp] theorem run_T {q : Rv → Store → Prop} {ρ} : (KT.mk q).run ρ μ = q ρ μ := (rfl)
@[simp] theorem ok_ok {K : KO α} : @OkI α (.ok a μ) K = K.run a μ := (rfl)
@[simp ↓] theorem ok_bind {K : KO β} : @OkI β (r.bind f) K = @OkI α r ⟨fun a μ => @OkI β (f a μ) K⟩ := by cases r <;> rfl
@[simp] theorem okS_nx {N : KN} {T : KT} {ρ} : @OkSI (.ok (.nx, ρ) μ) N T = N.run ρ μ := (rfl)
@[simp] theorem okS_rt {N : KN} {T : KT} {rv ρ} : @OkSI (.ok (.rt rv, ρ) μ) N T = T.run rv μ := (rfl)
@[simp ↓] theorem okS_bind {N : KN} {T : KT} {f : α → Store → Res (Fl × Ev)} : @OkSI (r.bind f) N T = @OkI α r ⟨fun a μ => @OkSI (f a μ) N T⟩ := by cases r <;> rfl
@[simp ↓] theorem okS_seq {N : KN} {T : KT} : @OkSI (seqR s n) N T = @OkSI s ⟨fun ρ μ => @OkSI (n ρ μ) N T⟩ T := by
  cases s with
  | ok p μ => obtain ⟨f, ρ⟩ := p; cases f <;> rfl
  | _ => rfl
@[simp ↓] theorem okS_end {K : KO Rv} : @OkI Rv (endR s) K = @OkSI s ⟨fun _ μ => K.run (.sh .non) μ⟩ ⟨K.run⟩ := by
  cases s with
  | ok p μ => obtain ⟨f, ρ⟩ := p; cases f <;> rfl
  | _ => rfl
@[simp ↓] theorem ok_noX {r : Res Rv} {K : KO Rv} : @OkI Rv (noXR r) K = @OkI Rv r K := by cases r <;> rfl
@[simp ↓] theorem ok_make {r : Res Rv} {k : Nat} {K : KO Op} : @OkI Op (makeR k r) K = @OkI Rv r ⟨fun rv μ => rv = .sh .non ∧ K.run (.sh (.loc k)) μ⟩ := by
  cases r with
  | ok rv μ =>
    cases rv with
    | sh d => cases d <;> first | (show K.run _ μ = (_ ∧ K.run _ μ); simp) | (show False = (_ ∧ _); simp)
    | own _ => show False = (_ ∧ _); simp
  | _ => rfl
end
section
variable {α β : Type} {r r' : Res α} {f : α → Store → Res β} {Q Q' : α → Store → Prop} {P : β → Store → Prop} {μ : Store} {a : α} {N N' : Ev → Store → Prop} {T T' : Rv → Store → Prop} {s s' : Res (Fl × Ev)} {n : MS}
theorem Ok.mono (h : Ok r Q) (k : ∀ a μ, Q a μ → Q' a μ) : Ok r Q' := by
  cases r with
  | ok a μ => exact k a μ h
  | _ => exact h
theorem OkS.mono (h : OkS s N T) (k : ∀ ρ μ, N ρ μ → N' ρ μ) (k2 : ∀ rv μ, T rv μ → T' rv μ) : OkS s N' T' := by
  cases s with
  | ok p μ =>
    obtain ⟨f, ρ⟩ := p
    cases f with
    | nx => exact k ρ μ h
    | rt rv => exact k2 rv μ h
    | _ => exact h
  | _ => exact h
theorem Ok.ex (h : Ok r Q) : ∃ a μ, r = .ok a μ ∧ Q a μ := by
  cases r with
  | ok a μ => exact ⟨a, μ, rfl, h⟩
  | _ => exact h.elim
theorem Ok.of (h : r = .ok a μ) (k : Q a μ) : Ok r Q := by rw [h]; exact k
theorem OkS.of {ρ} (h : s = .ok (.nx, ρ) μ) (k : N ρ μ) : OkS s N T := by rw [h]; exact k
end
/-! ### loops -/
theorem okS_for {α : Type} {enc : α → D} {g : D → Ev → Option Ev} {b : MS} {N : Ev → Store → Prop} {T : Rv → Store → Prop} (I : List α → Ev → Store → Prop) (hs : ∀ x xs ρ μ (N' : Ev → Store → Prop), I (x :: xs) ρ μ → (∀ ρ' μ', I xs ρ' μ' → N' ρ' μ') → ∃ ρ1, g (enc x) ρ = some ρ1 ∧ OkS (b ρ1 μ) N' T) (he : ∀ ρ μ, I [] ρ μ → N ρ μ) :
    ∀ {xs : List α} {ρ : Ev} {μ : Store}, I xs ρ μ → OkS (forL g b (xs.map enc) ρ μ) N T
  | [], ρ, μ, h => he ρ μ h
  | x :: xs, ρ, μ, h => by
    obtain ⟨ρ1, e, k⟩ := hs x xs ρ μ (I xs) h fun _ _ z => z
    rw [List.map_cons, forL, e]
    dsimp only
    cases c : b ρ1 μ with
    | stk => rw [c] at k; exact k.elim
    | exc _ _ => rw [c] at k; exact k.elim
    | ok p μ1 =>
      rw [c] at k
      obtain ⟨f, ρ2⟩ := p
      cases f with
      | nx => exact okS_for I hs he k
      | rt rv => exact k
      | bk => exact k.elim
      | ct => exact k.elim
/-- a loop over any data, the invariant by the number of what is left -/
theorem okS_forD {g : D → Ev → Option Ev} {b : MS} {N : Ev → Store → Prop} {T : Rv → Store → Prop} (I : List D → Ev → Store → Prop) (hs : ∀ x xs ρ μ (N' : Ev → Store → Prop), I (x :: xs) ρ μ → (∀ ρ' μ', I xs ρ' μ' → N' ρ' μ') → ∃ ρ1, g x ρ = some ρ1 ∧ OkS (b ρ1 μ) N' T) (he : ∀ ρ μ, I [] ρ μ → N ρ μ)
    {xs : List D} {ρ : Ev} {μ : Store} (h : I xs ρ μ) : OkS (forL g b xs ρ μ) N T := by
  have := okS_for (enc := id) I hs he h
  rwa [List.map_id] at this
theorem okS_loc {g : D → Ev → Option Ev} {b : MS} {n : Nat} {N : Ev → Store → Prop} {T : Rv → Store → Prop} (ys : List D) (I : List D → Ev → Store → Prop) (hk : ∀ xs ρ μ, I xs ρ μ → μ[n]? = some (.lst ys)) (hs : ∀ x xs ρ μ (N' : Ev → Store → Prop), I (x :: xs) ρ μ → (∀ ρ' μ', I xs ρ' μ' → N' ρ' μ') → ∃ ρ1, g x ρ = some ρ1 ∧ OkS (b ρ1 μ) N' T) (he : ∀ ρ μ, I [] ρ μ → N ρ μ) :
    ∀ (f i : Nat) {ρ : Ev} {μ : Store}, ys.length < f + i → i ≤ ys.length → I (ys.drop i) ρ μ → OkS (forLoc g b n f i ρ μ) N T
  | 0, i, ρ, μ, hf, hi, h => by omega
  | f + 1, i, ρ, μ, hf, hi0, h => by
    unfold forLoc
    rw [hk _ _ _ h]
    dsimp only
    by_cases hi : i < ys.length
    · rw [List.getElem?_eq_getElem hi]
      rw [List.drop_eq_getElem_cons hi] at h
      obtain ⟨ρ1, e, k⟩ := hs _ _ ρ μ _ h fun _ _ z => z
      dsimp only
      rw [e]
      dsimp only
      cases c : b ρ1 μ with
      | stk => rw [c] at k; exact k.elim
      | exc _ _ => rw [c] at k; exact k.elim
      | ok p μ1 =>
        rw [c] at k
        obtain ⟨fl, ρ2⟩ := p
        cases fl with
        | nx => exact okS_loc ys I hk hs he f (i + 1) (by omega) hi k
        | rt rv => exact k
        | bk => exact k.elim
        | ct => exact k.elim
    · rw [List.getElem?_eq_none (by omega)]
      rw [List.drop_eq_nil_of_le (by omega)] at h
      exact he ρ μ h
theorem okS_while {c : MT} {b : MS} {N : Ev → Store → Prop} {T : Rv → Store → Prop} (I : Nat → Ev → Store → Prop) (hs : ∀ k ρ μ (N' : Ev → Store → Prop), I k ρ μ → (∀ k' ρ' μ', k' < k → I k' ρ' μ' → N' ρ' μ') → Ok (c ρ μ) fun t μ1 => if t = true then OkS (b ρ μ1) N' T else N ρ μ1) :
    ∀ (f k : Nat) {ρ : Ev} {μ : Store}, k < f → I k ρ μ → OkS (whileL c b f ρ μ) N T
  | 0, k, ρ, μ, hf, h => by omega
  | f + 1, k, ρ, μ, hf, h => by
    have q := hs k ρ μ (fun ρ' μ' => ∃ k', k' < k ∧ I k' ρ' μ') h fun k' ρ' μ' a b => ⟨k', a, b⟩
    unfold whileL
    cases cc : c ρ μ with
    | stk => rw [cc] at q; exact q.elim
    | exc _ _ => rw [cc] at q; exact q.elim
    | ok t μ1 =>
      rw [cc] at q
      have q : if t = true then OkS (b ρ μ1) (fun ρ' μ' => ∃ k', k' < k ∧ I k' ρ' μ') T else N ρ μ1 := q
      show OkS (if t = true then loopR (b ρ μ1) (whileL c b f) else .ok (.nx, ρ) μ1) N T
      cases t with
      | false => rw [if_neg Bool.false_ne_true] at q ⊢; exact q
      | true =>
        rw [if_pos rfl] at q ⊢
        cases cb : b ρ μ1 with
        | stk => rw [cb] at q; exact q.elim
        | exc _ _ => rw [cb] at q; exact q.elim
        | ok p μ2 =>
          rw [cb] at q
          obtain ⟨fl, ρ2⟩ := p
          cases fl with
          | nx =>
            obtain ⟨k', hk, q⟩ := q
            exact okS_while I hs f k' (by omega) q
          | rt rv => exact q
          | bk => exact q.elim
          | ct => exact q.elim
/-! ### comprehensions -/
theorem lc_fm {α : Type} {enc : α → D} {g : D → Ev → Option Ev} {t : MT} {e : ME} {ρ : Ev} {μ : Store} (p : α → Bool) (f : α → D) : ∀ (ys : List α) (acc : List D), acc.length + ys.length ≤ 16777216 → (∀ x ∈ ys, ∃ ρ1, g (enc x) ρ = some ρ1 ∧ t ρ1 μ = .ok (p x) μ ∧ (p x = true → toD e ρ1 μ = .ok (f x) μ)) →
    lcL g t e ρ (ys.map enc) μ acc = .ok (acc ++ (ys.filter p).map f) μ
  | [], acc, _, _ => by simp [lcL]
  | y :: ys, acc, hl, h => by
    obtain ⟨ρ1, e1, e2, e3⟩ := h y List.mem_cons_self
    simp only [List.length_cons] at hl
    rw [List.map_cons, lcL, e1]
    dsimp only
    rw [e2]
    show (if p y = true then (toD e ρ1 μ).bind fun d μ2 => if acc.length < 16777216 then lcL g t e ρ (ys.map enc) μ2 (acc ++ [d]) else .stk else lcL g t e ρ (ys.map enc) μ acc) = _
    by_cases c : p y = true
    · rw [if_pos c, e3 c]
      show (if acc.length < 16777216 then lcL g t e ρ (ys.map enc) μ (acc ++ [f y]) else .stk) = _
      rw [if_pos (by omega), lc_fm p f ys _ (by simp only [List.length_append, List.length_cons, List.length_nil]; omega) fun x hx => h x (List.mem_cons_of_mem _ hx), List.filter_cons, if_pos c, List.map_cons, List.append_assoc]
      rfl
    · rw [if_neg c, lc_fm p f ys _ (by omega) fun x hx => h x (List.mem_cons_of_mem _ hx), List.filter_cons, if_neg c]
theorem ok_lc {α : Type} {enc : α → D} {g : D → Ev → Option Ev} {t : MT} {e : ME} {ρ : Ev} {Q : List D → Store → Prop} (I : List α → List D → Store → Prop) (hs : ∀ x xs acc μ (N' : List D → Store → Prop), I (x :: xs) acc μ → (∀ acc' μ', I xs acc' μ' → N' acc' μ') → ∃ ρ1, g (enc x) ρ = some ρ1 ∧ Ok (t ρ1 μ) fun c μ1 => if c = true then Ok (toD e ρ1 μ1) fun d μ2 => acc.length < 16777216 ∧ N' (acc ++ [d]) μ2 else N' acc μ1) (he : ∀ acc μ, I [] acc μ → Q acc μ) :
    ∀ {xs : List α} {acc : List D} {μ : Store}, I xs acc μ → Ok (lcL g t e ρ (xs.map enc) μ acc) Q
  | [], acc, μ, h => he acc μ h
  | x :: xs, acc, μ, h => by
    obtain ⟨ρ1, e1, k⟩ := hs x xs acc μ (I xs) h fun _ _ z => z
    rw [List.map_cons, lcL, e1]
    dsimp only
    refine Eq.mpr ok_bind ?_
    refine Ok.mono k fun c μ1 q => ?_
    cases c with
    | false =>
      rw [if_neg Bool.false_ne_true] at q ⊢
      exact ok_lc I hs he q
    | true =>
      rw [if_pos rfl] at q ⊢
      refine Eq.mpr ok_bind ?_
      refine Ok.mono q fun d μ2 q2 => ?_
      rw [if_pos q2.1]
      exact ok_lc I hs he q2.2
theorem ok_eq {α : Type} {r : Res α} {a : α} {μ : Store} (h : Ok r fun x y => x = a ∧ y = μ) : r = .ok a μ := by
  obtain ⟨b, ν, e, rfl, rfl⟩ := h.ex
  exact e
/-! ### throws -/
def diceOb (ns : List Int) (p m e : Int) : Ob := .lst [.scr ns, .int p, .int m, .int e]
def Dice (o : Ob) : Prop := ∃ ns p m e, o = diceOb ns p m e ∧ 0 ≤ p
theorem rangeD_0 {v : Int} (h0 : 0 ≤ v) (h1 : v < 1000000000) : rangeD 0 v = some ((List.range v.toNat).map fun i : Nat => .int (i : Int)) := by
  unfold rangeD
  rw [if_pos (by omega), Int.sub_zero]
  congr 2
  funext i
  rw [Int.zero_add]
end DL

namespace DL
open PySem L2
/-! ### numbers, further -/
theorem fMul_l {i j : Int} (h : -18446744073709551616 < j ∧ j < 18446744073709551616) : fMul (.d (.int i)) (.d (.int j)) = some (.sh (.int (i * j))) := by
  show (if _ then _ else _) = _
  rw [if_pos (.inr h)]
theorem fMod_int {i j : Int} (h : 0 < j) : fMod (.d (.int i)) (.d (.int j)) = some (.sh (.int (i % j))) := by
  show (if decide (0 < j) = true then some (Rv.sh (.int (i % j))) else none) = _
  rw [if_pos (decide_eq_true h)]
theorem fDiv_int {i j : Int} (h : 0 < j) (h2 : j < 18446744073709551616) : fDiv (.d (.int i)) (.d (.int j)) = some (.sh (.int (i / j))) := by
  show (if decide (0 < j ∧ j < 18446744073709551616) = true then some (Rv.sh (.int (i / j))) else none) = _
  rw [if_pos (decide_eq_true ⟨h, h2⟩)]
@[simp] theorem fMod_2 {i : Int} : fMod (.d (.int i)) (.d (.int 2)) = some (.sh (.int (i % 2))) := fMod_int (by omega)
@[simp] theorem fIx_d0 (a b c d : D) : fIx (.ob (.lst [a, b, c, d])) (.d (.int 0)) = some (.sh a) := (rfl)
@[simp] theorem fIx_d1 (a b c d : D) : fIx (.ob (.lst [a, b, c, d])) (.d (.int 1)) = some (.sh b) := (rfl)
@[simp] theorem fIx_d2 (a b c d : D) : fIx (.ob (.lst [a, b, c, d])) (.d (.int 2)) = some (.sh c) := (rfl)
@[simp] theorem fIx_d3 (a b c d : D) : fIx (.ob (.lst [a, b, c, d])) (.d (.int 3)) = some (.sh d) := (rfl)
@[simp] theorem fSet_d1 (a b c d x : D) : fSet (.lst [a, b, c, d]) (.int 1) x = some (.lst [a, x, c, d]) := (rfl)
@[simp] theorem fSet_d2 (a b c d x : D) : fSet (.lst [a, b, c, d]) (.int 2) x = some (.lst [a, b, x, d]) := (rfl)
@[simp] theorem fSet_d3 (a b c d x : D) : fSet (.lst [a, b, c, d]) (.int 3) x = some (.lst [a, b, c, x]) := (rfl)
theorem fPow_int {i j : Int} (h : 0 ≤ j ∧ j ≤ 1000000 ∧ i.natAbs < 18446744073709551616) : fPow (.d (.int i)) (.d (.int j)) = some (.sh (.int (i ^ j.toNat))) := by
  show (if decide (0 ≤ j ∧ j ≤ 1000000 ∧ i.natAbs < 18446744073709551616) = true then some (Rv.sh (.int (i ^ j.toNat))) else none) = _
  rw [if_pos (decide_eq_true h)]
@[simp] theorem fPow_18 : fPow (.d (.int 10)) (.d (.int 18)) = some (.sh (.int 1000000000000000000)) := by
  rw [fPow_int (by omega)]
  rfl
@[simp] theorem fPow_6 : fPow (.d (.int 10)) (.d (.int 6)) = some (.sh (.int 1000000)) := by
  rw [fPow_int (by omega)]
  rfl
@[simp] theorem fPow_9 : fPow (.d (.int 10)) (.d (.int 9)) = some (.sh (.int 1000000000)) := by
  rw [fPow_int (by omega)]
  rfl
@[simp] theorem fPow_12 : fPow (.d (.int 10)) (.d (.int 12)) = some (.sh (.int 1000000000000)) := by
  rw [fPow_int (by omega)]
  rfl
theorem fIx_scr {ns : List Int} {p : Int} (h0 : 0 ≤ p) (h1 : p < ns.length) : ∃ c, fIx (.d (.scr ns)) (.d (.int p)) = some (.sh (.int c)) := by
  have e : fIx (.d (.scr ns)) (.d (.int p)) = (atI ns p).map fun n => Rv.sh (.int n) := rfl
  rw [e]
  unfold atI ixN
  rw [if_pos h0, if_pos h1]
  have hl : p.toNat < ns.length := by omega
  refine ⟨ns[p.toNat], ?_⟩
  simp [List.getElem?_eq_getElem hl]
/-- an item of a list, by a number within -/
theorem fIx_at {ds : List D} {i : Int} (h0 : 0 ≤ i) (h1 : i < ds.length) : fIx (.ob (.lst ds)) (.d (.int i)) = some (.sh (ds[i.toNat]'(by omega))) := by
  have e : fIx (.ob (.lst ds)) (.d (.int i)) = (atI ds i).map Rv.sh := rfl
  rw [e]
  unfold atI ixN
  rw [if_pos h0, if_pos h1]
  have hl : i.toNat < ds.length := by omega
  simp [List.getElem?_eq_getElem hl]
theorem fIx_atM {α : Type} {enc : α → D} {xs : List α} {i : Int} (h0 : 0 ≤ i) (h1 : i < xs.length) : ∃ x, xs[i.toNat]? = some x ∧ x ∈ xs ∧ fIx (.ob (.lst (xs.map enc))) (.d (.int i)) = some (.sh (enc x)) := by
  have hl : i.toNat < xs.length := by omega
  refine ⟨xs[i.toNat], List.getElem?_eq_getElem hl, List.getElem_mem hl, ?_⟩
  rw [fIx_at h0 (by rw [List.length_map]; exact h1)]
  simp
theorem fIx_2 {a b : D} {i : Int} (h0 : 0 ≤ i) (h1 : i < 2) : ∃ d, fIx (.ob (.lst [a, b])) (.d (.int i)) = some (.sh d) ∧ ((i = 0 ∧ d = a) ∨ (i = 1 ∧ d = b)) := by
  have : i = 0 ∨ i = 1 := by omega
  rcases this with rfl | rfl
  · exact ⟨a, rfl, .inl ⟨rfl, rfl⟩⟩
  · exact ⟨b, rfl, .inr ⟨rfl, rfl⟩⟩
theorem fIx_3 {a b c : D} {i : Int} (h0 : 0 ≤ i) (h1 : i < 3) : ∃ d, fIx (.ob (.lst [a, b, c])) (.d (.int i)) = some (.sh d) ∧ (d = a ∨ d = b ∨ d = c) := by
  have : i = 0 ∨ i = 1 ∨ i = 2 := by omega
  rcases this with rfl | rfl | rfl
  · exact ⟨a, rfl, .inl rfl⟩
  · exact ⟨b, rfl, .inr (.inl rfl)⟩
  · exact ⟨c, rfl, .inr (.inr rfl)⟩
end DL

namespace DL
open PySem L2
/-! ### data of one kind: ==, in -/
structure Pd {α : Type} [DecidableEq α] (enc : α → D) where
  py : α → PyData
  dep : Nat
  hpy : ∀ a, (enc a).py = some (py a)
  lay : ∀ a, (py a).canLay0 = true
  hd : ∀ a, (py a).depth ≤ dep
  eqv : ∀ a b, PyData.eqv (py a) (py b) = decide (a = b)
section
variable {α : Type} [DecidableEq α] {enc : α → D} (P : Pd enc)
include P
theorem Pd.pys : ∀ xs : List α, D.pys (xs.map enc) = some (xs.map P.py)
  | [] => rfl
  | x :: xs => by
    show (D.py (enc x)).bind (fun p => (D.pys (xs.map enc)).map (p :: ·)) = _
    rw [P.hpy, Pd.pys xs]
    rfl
theorem Pd.lays : ∀ xs : List α, PyData.canLayAll0 (xs.map P.py) = true
  | [] => rfl
  | x :: xs => by
    show ((P.py x).canLay0 && PyData.canLayAll0 (xs.map P.py)) = true
    rw [P.lay, Pd.lays xs]
    rfl
theorem Pd.deps : ∀ xs : List α, PyData.depthAll (xs.map P.py) ≤ P.dep
  | [] => Nat.zero_le _
  | x :: xs => by
    show max (PyData.depth (P.py x)) (PyData.depthAll (xs.map P.py)) ≤ P.dep
    have h1 := P.hd x
    have := Pd.deps xs
    omega
theorem Pd.eqvs : ∀ xs ys : List α, PyData.eqvAll (xs.map P.py) (ys.map P.py) = decide (xs = ys)
  | [], [] => rfl
  | [], _ :: _ => rfl
  | _ :: _, [] => rfl
  | r :: rs, q :: qs => by
    show (PyData.eqv (P.py r) (P.py q) && PyData.eqvAll (rs.map P.py) (qs.map P.py)) = _
    rw [P.eqv, Pd.eqvs rs qs]
    by_cases e1 : r = q <;> by_cases e2 : rs = qs <;> simp [e1, e2]
theorem Pd.shaped (h : P.dep ≤ 64) (a : α) : SeqAt.shaped (P.py a) = true := by
  unfold SeqAt.shaped
  rw [Bool.and_eq_true]
  exact ⟨P.lay a, decide_eq_true (Nat.le_trans (P.hd a) h)⟩
theorem Pd.shapedL (h : P.dep + 1 ≤ 64) (xs : List α) : SeqAt.shaped (.list (xs.map P.py)) = true := by
  unfold SeqAt.shaped
  rw [Bool.and_eq_true]
  refine ⟨P.lays xs, decide_eq_true ?_⟩
  show PyData.depthAll (xs.map P.py) + 1 ≤ 64
  have := P.deps xs
  omega
/-- lists of such data -/
def Pd.list : Pd (fun xs : List α => D.lst (xs.map enc)) where
  py xs := .list (xs.map P.py)
  dep := P.dep + 1
  hpy xs := by
    show (D.pys (xs.map enc)).map PyData.list = _
    rw [P.pys]
    rfl
  lay xs := P.lays xs
  hd xs := by
    show PyData.depthAll (xs.map P.py) + 1 ≤ _
    have := P.deps xs
    omega
  eqv xs ys := P.eqvs xs ys
theorem Pd.tups (xs : List α) : (D.tup (xs.map enc)).py = some (.tuple (xs.map P.py)) := by
  show (D.pys (xs.map enc)).map PyData.tuple = _
  rw [P.pys]
  rfl
/-- tuples of such data -/
def Pd.tup : Pd (fun xs : List α => D.tup (xs.map enc)) where
  py xs := .tuple (xs.map P.py)
  dep := P.dep + 1
  hpy xs := P.tups xs
  lay xs := P.lays xs
  hd xs := by
    show PyData.depthAll (xs.map P.py) + 1 ≤ _
    have := P.deps xs
    omega
  eqv xs ys := P.eqvs xs ys
theorem Pd.eqL (h : P.dep + 1 ≤ 64) (xs ys : List α) : fEq (.ob (.lst (xs.map enc))) (.ob (.lst (ys.map enc))) = some (.sh (.bl (decide (xs = ys)))) := by
  show (Option.bind ((D.pys (xs.map enc)).map PyData.list) fun p => Option.bind ((D.pys (ys.map enc)).map PyData.list) fun q => if SeqAt.shaped p = true ∧ SeqAt.shaped q = true then some (Rv.sh (.bl (id (PyData.eqv p q)))) else none) = _
  rw [P.pys, P.pys]
  show (if SeqAt.shaped (.list (xs.map P.py)) = true ∧ SeqAt.shaped (.list (ys.map P.py)) = true then some (Rv.sh (.bl (PyData.eqvAll (xs.map P.py) (ys.map P.py)))) else none) = _
  rw [if_pos ⟨P.shapedL h xs, P.shapedL h ys⟩, P.eqvs]
theorem Pd.neL (h : P.dep + 1 ≤ 64) (xs ys : List α) : fNe (.ob (.lst (xs.map enc))) (.ob (.lst (ys.map enc))) = some (.sh (.bl (!decide (xs = ys)))) := by
  show (Option.bind ((D.pys (xs.map enc)).map PyData.list) fun p => Option.bind ((D.pys (ys.map enc)).map PyData.list) fun q => if SeqAt.shaped p = true ∧ SeqAt.shaped q = true then some (Rv.sh (.bl (not (PyData.eqv p q)))) else none) = _
  rw [P.pys, P.pys]
  show (if SeqAt.shaped (.list (xs.map P.py)) = true ∧ SeqAt.shaped (.list (ys.map P.py)) = true then some (Rv.sh (.bl (!(PyData.eqvAll (xs.map P.py) (ys.map P.py))))) else none) = _
  rw [if_pos ⟨P.shapedL h xs, P.shapedL h ys⟩, P.eqvs]
theorem Pd.neL0 (h : P.dep + 1 ≤ 64) (xs : List α) : fNe (.ob (.lst (xs.map enc))) (.ob (.lst [])) = some (.sh (.bl (!decide (xs = [])))) := P.neL h xs []
theorem Pd.eqL0 (h : P.dep + 1 ≤ 64) (xs : List α) : fEq (.ob (.lst (xs.map enc))) (.ob (.lst [])) = some (.sh (.bl (decide (xs = [])))) := P.eqL h xs []
/-- two of them by their views -/
theorem Pd.eq2 (h : P.dep ≤ 64) {w w' : Vw} {a b : α} (e : w.py = some (P.py a)) (e' : w'.py = some (P.py b)) : fEq w w' = some (.sh (.bl (decide (a = b)))) := by
  unfold fEq fEq2
  rw [e, e']
  show (if SeqAt.shaped (P.py a) = true ∧ SeqAt.shaped (P.py b) = true then some (Rv.sh (.bl (PyData.eqv (P.py a) (P.py b)))) else none) = _
  rw [if_pos ⟨P.shaped h a, P.shaped h b⟩, P.eqv]
theorem Pd.ne2 (h : P.dep ≤ 64) {w w' : Vw} {a b : α} (e : w.py = some (P.py a)) (e' : w'.py = some (P.py b)) : fNe w w' = some (.sh (.bl (!decide (a = b)))) := by
  unfold fNe fEq2
  rw [e, e']
  show (if SeqAt.shaped (P.py a) = true ∧ SeqAt.shaped (P.py b) = true then some (Rv.sh (.bl (!(PyData.eqv (P.py a) (P.py b))))) else none) = _
  rw [if_pos ⟨P.shaped h a, P.shaped h b⟩, P.eqv]
theorem Pd.any (x : α) : ∀ xs : List α, ((xs.map P.py).any fun z => PyData.eqv z (P.py x)) = decide (x ∈ xs)
  | [] => by simp
  | y :: ys => by
    rw [List.map_cons, List.any_cons, P.eqv, Pd.any x ys]
    by_cases e1 : y = x
    · simp [e1]
    · by_cases e2 : x ∈ ys
      · simp [e1, e2]
      · simp [e1, e2, Ne.symm e1]
theorem Pd.inL (h : P.dep + 1 ≤ 64) (g : Bool → Bool) {w : Vw} {x : α} (e : w.py = some (P.py x)) (xs : List α) : fIn g w (.ob (.lst (xs.map enc))) = some (.sh (.bl (g (decide (x ∈ xs))))) := by
  have e0 : fIn g w (.ob (.lst (xs.map enc))) = w.py.bind fun p => (D.pys (xs.map enc)).bind fun ps => if SeqAt.shaped p = true ∧ SeqAt.shaped (.list ps) = true then some (.sh (.bl (g (ps.any fun z => PyData.eqv z p)))) else none := by
    cases w with
    | d _ => rfl
    | ob o => cases o <;> rfl
  rw [e0, e, P.pys]
  show (if SeqAt.shaped (P.py x) = true ∧ SeqAt.shaped (.list (xs.map P.py)) = true then some (Rv.sh (.bl (g ((xs.map P.py).any fun z => PyData.eqv z (P.py x))))) else none) = _
  rw [if_pos ⟨P.shaped (by omega) x, P.shapedL h xs⟩, P.any]
end
def pdInt : Pd D.int where
  py i := .int i
  dep := 0
  hpy _ := rfl
  lay _ := rfl
  hd _ := Nat.le_refl _
  eqv a b := rfl
def pdRow : Pd rowD where
  py := rowP
  dep := 1
  hpy := rowD_py
  lay := rowP_lay
  hd _ := Nat.le_refl _
  eqv := rowP_eqv
/-! names -/
abbrev Name := Int × Int
def nameD (r : Name) : D := .tup [.int r.1, .int r.2]
@[simp] theorem nameD_mk (h n : Int) : nameD (h, n) = .tup [.int h, .int n] := (rfl)
def pdName : Pd nameD where
  py r := .tuple [.int r.1, .int r.2]
  dep := 1
  hpy _ := rfl
  lay _ := rfl
  hd _ := Nat.le_refl _
  eqv r q := by
    obtain ⟨h, a⟩ := r
    obtain ⟨h', a'⟩ := q
    show ((h == h') && ((a == a') && true)) = _
    rw [Bool.and_true]
    by_cases e1 : h = h' <;> by_cases e2 : a = a' <;> simp [e1, e2]
end DL

namespace DL
open PySem L2
/-! ### dicts by typed keys -/
section
variable {κ ν : Type} [DecidableEq κ]
def putA (xs : List (κ × ν)) (k : κ) (v : ν) : List (κ × ν) := if (xs.any fun p => decide (p.1 = k)) = true then xs.map (fun p => if p.1 = k then (p.1, v) else p) else xs ++ [(k, v)]
def getA (xs : List (κ × ν)) (k : κ) : Option ν := (xs.find? fun p => decide (p.1 = k)).map (·.2)
theorem getA_nil (k : κ) : getA ([] : List (κ × ν)) k = none := rfl
theorem getA_cons (p : κ × ν) (xs : List (κ × ν)) (k : κ) : getA (p :: xs) k = if p.1 = k then some p.2 else getA xs k := by
  unfold getA
  rw [List.find?_cons]
  by_cases c : p.1 = k <;> simp [c]
theorem any_key (xs : List (κ × ν)) (k : κ) : (xs.any fun p => decide (p.1 = k)) = decide (k ∈ xs.map (·.1)) := by
  induction xs with
  | nil => simp
  | cons p xs ih =>
    rw [List.any_cons, ih, List.map_cons]
    by_cases c : p.1 = k
    · simp [c]
    · by_cases c2 : k ∈ xs.map (·.1)
      · simp [c, c2]
      · simp [c, c2, Ne.symm c]
theorem putA_keys (xs : List (κ × ν)) (k : κ) (v : ν) : (putA xs k v).map (·.1) = if k ∈ xs.map (·.1) then xs.map (·.1) else xs.map (·.1) ++ [k] := by
  unfold putA
  rw [any_key]
  by_cases c : k ∈ xs.map (·.1)
  · rw [if_pos c, if_pos (decide_eq_true c), List.map_map]
    refine List.map_congr_left fun p _ => ?_
    show (if p.1 = k then (p.1, v) else p).1 = p.1
    split <;> rfl
  · rw [if_neg c, if_neg (by rw [decide_eq_false c]; exact Bool.false_ne_true), List.map_append]
    rfl
theorem putA_len (xs : List (κ × ν)) (k : κ) (v : ν) : (putA xs k v).length ≤ xs.length + 1 := by
  have := congrArg List.length (putA_keys xs k v)
  rw [List.length_map] at this
  rw [this]
  split
  · rw [List.length_map]; omega
  · rw [List.length_append, List.length_map]; exact Nat.le_refl _
theorem putA_nodup {xs : List (κ × ν)} (k : κ) (v : ν) (h : (xs.map (·.1)).Nodup) : ((putA xs k v).map (·.1)).Nodup := by
  rw [putA_keys]
  split
  · exact h
  · next c => exact List.nodup_append.mpr ⟨h, by simp, fun a ha b hb => by
      have : b = k := by simpa using hb
      subst this
      exact fun e => c (e ▸ ha)⟩
theorem putA_mem {xs : List (κ × ν)} {k : κ} {v : ν} {x : κ} : x ∈ (putA xs k v).map (·.1) ↔ x ∈ xs.map (·.1) ∨ x = k := by
  rw [putA_keys]
  split
  · next c => exact ⟨.inl, fun h => h.elim id fun e => e ▸ c⟩
  · rw [List.mem_append, List.mem_singleton]
theorem getA_put (xs : List (κ × ν)) (k : κ) (v : ν) (x : κ) : getA (putA xs k v) x = if x = k then some v else getA xs x := by
  unfold putA
  by_cases c : (xs.any fun p => decide (p.1 = k)) = true
  · rw [if_pos c]
    induction xs with
    | nil => simp at c
    | cons p xs ih =>
      rw [List.map_cons, getA_cons, getA_cons]
      by_cases cp : p.1 = k
      · rw [if_pos cp]
        by_cases cx : x = k
        · rw [if_pos (show p.1 = x by rw [cp, cx]), if_pos cx]
        · rw [if_neg (show ¬ p.1 = x from fun z => cx (by rw [← z, cp])), if_neg cx, if_neg (show ¬ p.1 = x from fun z => cx (by rw [← z, cp]))]
          by_cases c2 : (xs.any fun p => decide (p.1 = k)) = true
          · have := ih c2
            rw [if_neg cx] at this
            exact this
          · have e : xs.map (fun p => if p.1 = k then (p.1, v) else p) = xs := by
              rw [List.map_congr_left (g := id), List.map_id]
              intro q hq
              rw [if_neg]
              · rfl
              · intro z
                exact c2 (List.any_eq_true.mpr ⟨q, hq, decide_eq_true z⟩)
            rw [e]
      · rw [if_neg cp]
        have c2 : (xs.any fun p => decide (p.1 = k)) = true := by
          rw [List.any_cons, Bool.or_eq_true] at c
          rcases c with c | c
          · exact absurd (of_decide_eq_true c) cp
          · exact c
        rw [ih c2]
        by_cases cx : x = k
        · rw [if_pos cx, if_neg (show ¬ p.1 = x from fun z => cp (by rw [z, cx])), if_pos cx]
        · rw [if_neg cx, if_neg cx]
  · rw [if_neg c]
    induction xs with
    | nil =>
      rw [List.nil_append, getA_cons, getA_nil]
      by_cases cx : x = k
      · rw [if_pos cx, if_pos cx.symm]
      · rw [if_neg cx, if_neg (fun z => cx z.symm)]
    | cons p xs ih =>
      rw [List.any_cons, Bool.or_eq_true, not_or] at c
      rw [List.cons_append, getA_cons, getA_cons, ih c.2]
      by_cases cp : p.1 = x
      · rw [if_pos cp, if_pos cp, if_neg]
        intro z
        exact c.1 (decide_eq_true (cp.trans z))
      · rw [if_neg cp, if_neg cp]
theorem getA_mem {xs : List (κ × ν)} {k : κ} {v : ν} (h : getA xs k = some v) : (k, v) ∈ xs := by
  induction xs with
  | nil => cases h
  | cons p xs ih =>
    rw [getA_cons] at h
    split at h
    · next c =>
      cases h
      rw [← c]
      exact List.mem_cons_self
    · exact List.mem_cons_of_mem _ (ih h)
theorem getA_none {xs : List (κ × ν)} {k : κ} : getA xs k = none ↔ k ∉ xs.map (·.1) := by
  induction xs with
  | nil => simp [getA_nil]
  | cons p xs ih =>
    rw [getA_cons, List.map_cons, List.mem_cons, not_or]
    by_cases c : p.1 = k
    · rw [if_pos c]
      simp [c]
    · rw [if_neg c, ih]
      exact ⟨fun h => ⟨fun z => c z.symm, h⟩, fun h => h.2⟩
theorem getA_of_mem {xs : List (κ × ν)} (hn : (xs.map (·.1)).Nodup) {k : κ} {v : ν} (h : (k, v) ∈ xs) : getA xs k = some v := by
  induction xs with
  | nil => simp at h
  | cons p xs ih =>
    rw [List.map_cons, List.nodup_cons] at hn
    rw [getA_cons]
    rcases List.mem_cons.mp h with e | e
    · rw [← e, if_pos rfl]
    · rw [if_neg, ih hn.2 e]
      intro z
      exact hn.1 (z ▸ List.mem_map.mpr ⟨_, e, rfl⟩)
theorem isSome_getA {xs : List (κ × ν)} {k : κ} : (getA xs k).isSome = decide (k ∈ xs.map (·.1)) := by
  cases c : getA xs k with
  | none => rw [decide_eq_false (getA_none.mp c)]; rfl
  | some v => rw [decide_eq_true (List.mem_map.mpr ⟨_, getA_mem c, rfl⟩)]; rfl
/-! the dict of a typed one -/
variable {τ : Type} [DecidableEq τ] (key : κ → τ) (val : ν → D)
def dctD (xs : List (κ × ν)) : List (τ × D) := xs.map fun p => (key p.1, val p.2)
variable {key} {val}
theorem dctD_put (hi : ∀ a b, key a = key b → a = b) (xs : List (κ × ν)) (k : κ) (v : ν) : putD (dctD key val xs) (key k) (val v) = dctD key val (putA xs k v) := by
  have e : ((dctD key val xs).any fun kv => decide (kv.1 = key k)) = xs.any fun p => decide (p.1 = k) := by
    unfold dctD
    rw [List.any_map]
    congr 1
    funext p
    show decide (key p.1 = key k) = decide (p.1 = k)
    by_cases c : p.1 = k
    · simp [c]
    · rw [decide_eq_false c, decide_eq_false (fun z => c (hi _ _ z))]
  unfold putD putA
  rw [e]
  split
  · unfold dctD
    rw [List.map_map, List.map_map]
    refine List.map_congr_left fun p _ => ?_
    show (if key p.1 = key k then (key p.1, val v) else (key p.1, val p.2)) = (fun p : κ × ν => (key p.1, val p.2)) (if p.1 = k then (p.1, v) else p)
    by_cases c : p.1 = k
    · rw [if_pos c, if_pos (by rw [c])]
    · rw [if_neg c, if_neg (fun z => c (hi _ _ z))]
  · unfold dctD
    rw [List.map_append]
    rfl
theorem dctD_get (hi : ∀ a b, key a = key b → a = b) (xs : List (κ × ν)) (k : κ) : getK (dctD key val xs) (key k) = (getA xs k).map val := by
  induction xs with
  | nil => rfl
  | cons p xs ih =>
    have e : getK (dctD key val (p :: xs)) (key k) = if key p.1 = key k then some (val p.2) else getK (dctD key val xs) (key k) := by
      unfold getK dctD
      rw [List.map_cons, List.find?_cons]
      by_cases c : key p.1 = key k <;> simp [c]
    rw [e, getA_cons, ih]
    by_cases c : p.1 = k
    · rw [if_pos c, if_pos (by rw [c])]
      rfl
    · rw [if_neg c, if_neg (fun z => c (hi _ _ z))]
theorem dctD_keys (xs : List (κ × ν)) : (dctD key val xs).map (·.1) = (xs.map (·.1)).map key := by
  unfold dctD
  rw [List.map_map, List.map_map]
  rfl
@[simp] theorem dctD_len (xs : List (κ × ν)) : (dctD key val xs).length = xs.length := List.length_map _
end
/-! keys that are names -/
def nkey (x : Name) : List Key := [.inl x.1, .inl x.2]
theorem nkey_inj (a b : Name) (h : nkey a = nkey b) : a = b := by
  obtain ⟨p, q⟩ := a
  obtain ⟨r, s⟩ := b
  unfold nkey at h
  simp at h
  rw [h.1, h.2]
def nl (x : Name) : List Int := [x.1, x.2]
theorem nkeys_ints : ∀ xs : List Name, keyIntss (xs.map nkey) = some (xs.map nl)
  | [] => rfl
  | x :: xs => by
    show ((keyInts (nkey x)).bind fun ns => if ns = [] then none else (keyIntss (xs.map nkey)).map (ns :: ·)) = _
    rw [nkeys_ints xs]
    rfl
def nameLt (a b : Name) : Bool := HT.lexLt (nl a) (nl b)
def insN (x : Name) : List Name → List Name
  | [] => [x]
  | y :: ys => if nameLt y x = true then y :: insN x ys else x :: y :: ys
def sortN : List Name → List Name
  | [] => []
  | x :: xs => insN x (sortN xs)
theorem insN_L (x : Name) : ∀ l : List Name, (insN x l).map nl = insL (nl x) (l.map nl)
  | [] => rfl
  | y :: ys => by
    unfold insN
    rw [List.map_cons, insL]
    show List.map nl (if HT.lexLt (nl y) (nl x) = true then y :: insN x ys else x :: y :: ys) = _
    split
    · rw [List.map_cons, insN_L x ys]
    · rfl
theorem sortN_L : ∀ l : List Name, (sortN l).map nl = sortL (l.map nl)
  | [] => rfl
  | x :: xs => by
    show (insN x (sortN xs)).map nl = insL (nl x) (sortL (xs.map nl))
    rw [insN_L, sortN_L xs]
theorem insN_perm (x : Name) : ∀ l : List Name, (insN x l).Perm (x :: l)
  | [] => List.Perm.refl _
  | y :: ys => by
    unfold insN
    split
    · exact ((insN_perm x ys).cons y).trans (List.Perm.swap x y ys)
    · exact List.Perm.refl _
theorem sortN_perm : ∀ l : List Name, (sortN l).Perm l
  | [] => List.Perm.refl _
  | x :: xs => (insN_perm x _).trans ((sortN_perm xs).cons x)
theorem nameLt_iff {a b : Name} : nameLt a b = true ↔ a.1 < b.1 ∨ (a.1 = b.1 ∧ a.2 < b.2) := by
  obtain ⟨p, q⟩ := a
  obtain ⟨r, s⟩ := b
  have e : nameLt (p, q) (r, s) = (if p = r then (if q = s then false else decide (q < s)) else decide (p < r)) := rfl
  rw [e]
  show _ ↔ p < r ∨ (p = r ∧ q < s)
  split
  · split
    · simp; omega
    · rw [decide_eq_true_eq]; omega
  · rw [decide_eq_true_eq]; omega
theorem insN_sorted {x : Name} : ∀ {l : List Name}, l.Pairwise (fun a b => nameLt b a = false) → (insN x l).Pairwise (fun a b => nameLt b a = false)
  | [], _ => List.pairwise_singleton _ _
  | y :: ys, h => by
    obtain ⟨h1, h2⟩ := List.pairwise_cons.mp h
    have fi : ∀ {a b : Name}, nameLt a b = false ↔ ¬ (a.1 < b.1 ∨ (a.1 = b.1 ∧ a.2 < b.2)) := fun {a b} => by rw [← nameLt_iff]; simp
    unfold insN
    split
    · next c =>
      refine List.pairwise_cons.mpr ⟨fun q hq => ?_, insN_sorted h2⟩
      rcases List.mem_cons.mp ((insN_perm x ys).mem_iff.mp hq) with e | e
      · rw [e]
        have := nameLt_iff.mp c
        exact fi.mpr (by omega)
      · exact h1 q e
    · next c =>
      refine List.pairwise_cons.mpr ⟨fun q hq => ?_, h⟩
      have c := mt nameLt_iff.mpr c
      rcases List.mem_cons.mp hq with e | e
      · rw [e]
        exact fi.mpr c
      · have := fi.mp (h1 q e)
        exact fi.mpr (by omega)
theorem sortN_sorted : ∀ l : List Name, (sortN l).Pairwise (fun a b => nameLt b a = false)
  | [] => List.Pairwise.nil
  | _ :: xs => insN_sorted (sortN_sorted xs)
theorem sortN_asc {l : List Name} (h : l.Nodup) : (sortN l).Pairwise fun a b => a.1 < b.1 ∨ (a.1 = b.1 ∧ a.2 < b.2) := by
  have hn : (sortN l).Nodup := (sortN_perm l).nodup_iff.mpr h
  refine ((sortN_sorted l).and hn).imp fun {a b} ⟨h1, h2⟩ => ?_
  have h1 : ¬ (b.1 < a.1 ∨ (b.1 = a.1 ∧ b.2 < a.2)) := by rw [← nameLt_iff]; simp [h1]
  have : ¬ (a.1 = b.1 ∧ a.2 = b.2) := fun ⟨z1, z2⟩ => h2 (Prod.ext z1 z2)
  omega
theorem fSrt_names {ν : Type} {val : ν → D} (xs : List (Name × ν)) : fSrt [.ob (.dT (dctD nkey val xs))] = some (.own (.lst ((sortN (xs.map (·.1))).map nameD))) := by
  show (keyIntss ((dctD nkey val xs).map (·.1))).map (fun nss => Rv.own (.lst ((sortL nss).map intsD))) = _
  rw [dctD_keys, nkeys_ints, Option.map_some, ← sortN_L, List.map_map]
  rfl
theorem names_intss : ∀ rs : List Name, D.intss (rs.map nameD) = some (rs.map nl)
  | [] => rfl
  | r :: rs => by
    show ((D.ints [.int r.1, .int r.2]).bind fun ns => if ns = [] then none else (D.intss (rs.map nameD)).map (ns :: ·)) = _
    rw [names_intss rs]
    rfl
theorem fSrt_namesL (rs : List Name) : fSrt [.ob (.lst (rs.map nameD))] = some (.own (.lst ((sortN rs).map nameD))) := by
  cases rs with
  | nil => rfl
  | cons r rs =>
    show (match D.ints ((r :: rs).map nameD) with | some ns => some (Rv.own (.lst ((sortI ns).map .int))) | none => (D.intss ((r :: rs).map nameD)).map fun nss => .own (.lst ((sortL nss).map intsD))) = _
    have e : D.ints ((r :: rs).map nameD) = none := rfl
    rw [e, names_intss]
    show some (Rv.own (.lst ((sortL ((r :: rs).map nl)).map intsD))) = _
    rw [← sortN_L, List.map_map]
    rfl
theorem fSet_names {ν : Type} {val : ν → D} {xs : List (Name × ν)} {h n : Int} {v : ν} (hl : xs.length < 16777216) : fSet (.dT (dctD nkey val xs)) (.tup [.int h, .int n]) (val v) = some (.dT (dctD nkey val (putA xs (h, n) v))) := by
  show ((D.keys [.int h, .int n]).bind fun k => if (dctD nkey val xs).length < 16777216 then some (Ob.dT (putD (dctD nkey val xs) k (val v))) else none) = _
  rw [dctD_len]
  show (if xs.length < 16777216 then some (Ob.dT (putD (dctD nkey val xs) (nkey (h, n)) (val v))) else none) = _
  rw [if_pos hl, dctD_put nkey_inj]
theorem fGet_names {ν : Type} {val : ν → D} {xs : List (Name × ν)} {h n : Int} : fGet (.ob (.dT (dctD nkey val xs))) (.d (.tup [.int h, .int n])) = some ((getA xs (h, n)).map val) := by
  show (D.keys [.int h, .int n]).map (fun k => getK (dctD nkey val xs) k) = _
  show some (getK (dctD nkey val xs) (nkey (h, n))) = _
  rw [dctD_get nkey_inj]
end DL

namespace DL
open PySem L2
/-! ### data that reads as pure data, the things of the store looked up -/
abbrev SOk (s : Str) : Prop := SeqAt.shaped (.str s) = true
mutual
inductive Rs (μ : Store) : Nat → D → D → Prop
  | non {n} : Rs μ (n + 1) .non .non
  | bl {n} (b : Bool) : Rs μ (n + 1) (.bl b) (.bl b)
  | int {n} (i : Int) : Rs μ (n + 1) (.int i) (.int i)
  | str {n} (s : Str) : SOk s → Rs μ (n + 1) (.str s) (.str s)
  | tup {n xs ys} : xs.length ≤ 16777216 → RsAll μ n xs ys → Rs μ (n + 1) (.tup xs) (.tup ys)
  | lst {n xs ys} : xs.length ≤ 16777216 → RsAll μ n xs ys → Rs μ (n + 1) (.lst xs) (.lst ys)
  | loc {n k xs ys} : μ[k]? = some (.lst xs) → xs.length ≤ 16777216 → RsAll μ n xs ys → Rs μ (n + 1) (.loc k) (.lst ys)
inductive RsAll (μ : Store) : Nat → List D → List D → Prop
  | nil {n} : RsAll μ n [] []
  | cons {n x xs y ys} : Rs μ n x y → RsAll μ n xs ys → RsAll μ n (x :: xs) (y :: ys)
end
theorem RsAll.len {μ : Store} {n : Nat} : ∀ {xs ys : List D}, RsAll μ n xs ys → xs.length = ys.length
  | _, _, .nil => rfl
  | _, _, .cons _ t => by rw [List.length_cons, List.length_cons, RsAll.len t]
theorem RsAll.get {μ : Store} {n : Nat} : ∀ {xs ys : List D} {i : Nat} {x : D}, RsAll μ n xs ys → xs[i]? = some x → ∃ y, ys[i]? = some y ∧ Rs μ n x y
  | _, _, i, x, .nil, e => by simp at e
  | _, _, 0, x, .cons h t, e => by
    simp at e
    subst e
    exact ⟨_, rfl, h⟩
  | _, _, i + 1, x, .cons h t, e => by
    simp only [List.getElem?_cons_succ] at e ⊢
    exact RsAll.get t e
theorem RsAll.map {μ : Store} {n : Nat} {α : Type} {f g : α → D} : ∀ {xs : List α}, (∀ x ∈ xs, Rs μ n (f x) (g x)) → RsAll μ n (xs.map f) (xs.map g)
  | [], _ => .nil
  | x :: xs, h => .cons (h x List.mem_cons_self) (RsAll.map fun y hy => h y (List.mem_cons_of_mem _ hy))
theorem RsAll.app {μ : Store} {n : Nat} : ∀ {xs ys xs' ys' : List D}, RsAll μ n xs ys → RsAll μ n xs' ys' → RsAll μ n (xs ++ xs') (ys ++ ys')
  | _, _, _, _, .nil, h => h
  | _, _, _, _, .cons a t, h => .cons a (RsAll.app t h)
/-! more things in the store -/
mutual
theorem Rs.ext {μ μ' : Store} (hx : ∀ (k : Nat) (o : Ob), μ[k]? = some o → μ'[k]? = some o) : ∀ {n : Nat} {x y : D}, Rs μ n x y → Rs μ' n x y
  | _, _, _, .non => .non
  | _, _, _, .bl b => .bl b
  | _, _, _, .int b => .int b
  | _, _, _, .str b h => .str b h
  | _, _, _, .tup h t => .tup h (RsAll.ext hx t)
  | _, _, _, .lst h t => .lst h (RsAll.ext hx t)
  | _, _, _, .loc e h t => .loc (hx _ _ e) h (RsAll.ext hx t)
theorem RsAll.ext {μ μ' : Store} (hx : ∀ (k : Nat) (o : Ob), μ[k]? = some o → μ'[k]? = some o) : ∀ {n : Nat} {x y : List D}, RsAll μ n x y → RsAll μ' n x y
  | _, _, _, .nil => .nil
  | _, _, _, .cons h t => .cons (Rs.ext hx h) (RsAll.ext hx t)
end
/-- ints, names, rows -/
theorem rs_name {μ : Store} {n : Nat} (x : Name) : Rs μ (n + 2) (nameD x) (nameD x) := .tup (by simp) (.cons (.int _) (.cons (.int _) .nil))
theorem rs_row {μ : Store} {n : Nat} (x : Row) : Rs μ (n + 2) (rowD x) (rowD x) := .tup (by simp) (.cons (.int _) (.cons (.int _) (.cons (.int _) .nil)))
theorem rs_list {μ : Store} {n : Nat} {α : Type} {f : α → D} {xs : List α} (hl : xs.length ≤ 16777216) (h : ∀ x ∈ xs, Rs μ n (f x) (f x)) : Rs μ (n + 1) (.lst (xs.map f)) (.lst (xs.map f)) := .lst (by rw [List.length_map]; exact hl) (RsAll.map h)
theorem rs_loc {μ : Store} {n k : Nat} {α : Type} {f : α → D} {xs : List α} (e : μ[k]? = some (.lst (xs.map f))) (hl : xs.length ≤ 16777216) (h : ∀ x ∈ xs, Rs μ n (f x) (f x)) : Rs μ (n + 1) (.loc k) (.lst (xs.map f)) := .loc e (by rw [List.length_map]; exact hl) (RsAll.map h)
/-- what isinstance says -/
theorem fIsi_bl (T : String) (b : Bool) : fIsi T (.d (.bl b)) = some (.sh (.bl (isiB "bool" T))) := (rfl)
theorem fIsi_int (T : String) (b : Int) : fIsi T (.d (.int b)) = some (.sh (.bl (isiB "int" T))) := (rfl)
theorem fIsi_str (T : String) (b : Str) : fIsi T (.d (.str b)) = some (.sh (.bl (isiB "str" T))) := (rfl)
theorem fIsi_non (T : String) : fIsi T (.d .non) = some (.sh (.bl (isiB "NoneType" T))) := (rfl)
theorem fIsi_tup (T : String) (b : List D) : fIsi T (.d (.tup b)) = some (.sh (.bl (isiB "tuple" T))) := (rfl)
theorem fIsi_lst (T : String) (b : List D) : fIsi T (.ob (.lst b)) = some (.sh (.bl (isiB "list" T))) := (rfl)
theorem isiB_all : isiB "bool" "bool" = true ∧ isiB "int" "bool" = false ∧ isiB "str" "bool" = false ∧ isiB "NoneType" "bool" = false ∧ isiB "tuple" "bool" = false ∧ isiB "list" "bool" = false ∧
    isiB "str" "str" = true ∧ isiB "int" "str" = false ∧ isiB "NoneType" "str" = false ∧ isiB "tuple" "str" = false ∧ isiB "list" "str" = false ∧
    isiB "int" "int" = true ∧ isiB "NoneType" "int" = false ∧ isiB "tuple" "int" = false ∧ isiB "list" "int" = false ∧ isiB "tuple" "tuple" = true ∧ isiB "list" "tuple" = false ∧ isiB "tuple" "list" = false ∧ isiB "list" "list" = true ∧ isiB "bool" "list" = false ∧ isiB "int" "list" = false ∧ isiB "str" "list" = false ∧ isiB "NoneType" "list" = false := by decide
theorem fEq_bl (a b : Bool) : fEq (.d (.bl a)) (.d (.bl b)) = some (.sh (.bl (decide (a = b)))) := by cases a <;> cases b <;> rfl
theorem fNe_bl (a b : Bool) : fNe (.d (.bl a)) (.d (.bl b)) = some (.sh (.bl (!decide (a = b)))) := by cases a <;> cases b <;> rfl
theorem str_beq (a b : Str) : (a == b) = decide (a = b) := by
  by_cases e : a = b
  · rw [decide_eq_true e]; exact beq_iff_eq.mpr e
  · rw [decide_eq_false e]; exact beq_eq_false_iff_ne.mpr e
theorem fEq_str {a b : Str} (ha : SOk a) (hb : SOk b) : fEq (.d (.str a)) (.d (.str b)) = some (.sh (.bl (decide (a = b)))) := by
  show (if SeqAt.shaped (.str a) = true ∧ SeqAt.shaped (.str b) = true then some (Rv.sh (.bl (a == b))) else none) = _
  rw [if_pos ⟨ha, hb⟩, str_beq]
theorem fNe_str {a b : Str} (ha : SOk a) (hb : SOk b) : fNe (.d (.str a)) (.d (.str b)) = some (.sh (.bl (!decide (a = b)))) := by
  show (if SeqAt.shaped (.str a) = true ∧ SeqAt.shaped (.str b) = true then some (Rv.sh (.bl (!(a == b)))) else none) = _
  rw [if_pos ⟨ha, hb⟩, str_beq]
theorem fIx_tupAt {xs : List D} {i : Nat} {d : D} (e : xs[i]? = some d) : fIx (.d (.tup xs)) (.d (.int (i : Int))) = some (.sh d) := by
  have hi : i < xs.length := (List.getElem?_eq_some_iff.mp e).1
  show (atI xs (i : Int)).map Rv.sh = _
  unfold atI ixN
  rw [if_pos (by omega), if_pos (by omega)]
  simp [e]
theorem fIx_lstAt {xs : List D} {i : Nat} {d : D} (e : xs[i]? = some d) : fIx (.ob (.lst xs)) (.d (.int (i : Int))) = some (.sh d) := by
  have hi : i < xs.length := (List.getElem?_eq_some_iff.mp e).1
  show (atI xs (i : Int)).map Rv.sh = _
  unfold atI ixN
  rw [if_pos (by omega), if_pos (by omega)]
  simp [e]
end DL

namespace DL
open PySem L2
@[simp] theorem x_vwName {x : Name} {μ : Store} : (nameD x).vw μ = some (.d (nameD x)) := (rfl)
@[simp] theorem x_vwRow {x : Row} {μ : Store} : (rowD x).vw μ = some (.d (rowD x)) := (rfl)
/-! ### slices -/
theorem cutD_take (ds : List D) {v : Int} (h : 0 ≤ v) : cutD ds none (some v) = ds.take v.toNat := by
  unfold cutD
  have e0 : HT.sIx ds.length 0 none = 0 := rfl
  have e1 : HT.sIx ds.length ds.length (some v) = min v.toNat ds.length := by
    unfold HT.sIx
    simp only
    split <;> omega
  rw [e0, e1, List.drop_zero, Nat.sub_zero]
  rcases Nat.le_total v.toNat ds.length with c | c
  · rw [Nat.min_eq_left c]
  · rw [Nat.min_eq_right c, List.take_length, List.take_of_length_le c]
theorem cutD_drop (ds : List D) {v : Int} (h : 0 ≤ v) : cutD ds (some v) none = ds.drop v.toNat := by
  unfold cutD
  have e0 : HT.sIx ds.length ds.length none = ds.length := rfl
  have e1 : HT.sIx ds.length 0 (some v) = min v.toNat ds.length := by
    unfold HT.sIx
    simp only
    split <;> omega
  rw [e0, e1]
  rcases Nat.le_total v.toNat ds.length with c | c
  · rw [Nat.min_eq_left c, List.take_of_length_le (by rw [List.length_drop]; omega)]
  · rw [Nat.min_eq_right c, List.drop_of_length_le (Nat.le_refl _), List.drop_of_length_le c, List.take_nil]
theorem enumD_map {α : Type} (f : α → D) (xs : List α) : enumD (xs.map f) = xs.zipIdx.map fun p => .tup [.int (p.2 : Nat), f p.1] := by
  unfold enumD
  rw [List.zipIdx_map, List.map_map]
  rfl
end DL

namespace DL
open PySem L2
/-! ### deeds as data -/
inductive Wd
  | put | add | back | sealed | bye
  deriving DecidableEq
def wdS : Wd → Str
  | .put => "put"
  | .add => "add"
  | .back => "back"
  | .sealed => "seal"
  | .bye => "bye"
inductive What
  | put (k w : Int)
  | add (k w : Int)
  | back (h n : Int)
  | sealed (rs : List Row)
  | bye
  deriving DecidableEq
def What.kind : What → Wd
  | .put _ _ => .put
  | .add _ _ => .add
  | .back _ _ => .back
  | .sealed _ => .sealed
  | .bye => .bye
def whatD : What → D
  | .put k w => .tup [.str "put", .int k, .int w]
  | .add k w => .tup [.str "add", .int k, .int w]
  | .back h n => .tup [.str "back", .int h, .int n]
  | .sealed rs => .tup [.str "seal", .tup (rs.map rowD)]
  | .bye => .tup [.str "bye"]
structure Deed where
  h : Int
  n : Int
  t : Int
  w : What
  deriving DecidableEq
instance : Inhabited Deed := ⟨⟨0, 0, 0, .bye⟩⟩
def Deed.nm (d : Deed) : Name := (d.h, d.n)
def Deed.st (d : Deed) : Row := (d.t, d.h, d.n)
def deedD (d : Deed) : D := .tup [.int d.h, .int d.n, .int d.t, whatD d.w]
theorem sok_wd (a : Wd) : SOk (wdS a) := by cases a <;> decide +kernel
theorem wdS_inj : ∀ a b : Wd, wdS a = wdS b → a = b := by
  intro a b
  cases a <;> cases b <;> first | exact fun _ => rfl | exact fun h => absurd h (by decide +kernel)
theorem fEq_wd (a b : Wd) : fEq (.d (.str (wdS a))) (.d (.str (wdS b))) = some (.sh (.bl (decide (a = b)))) := by
  rw [fEq_str (sok_wd a) (sok_wd b)]
  by_cases c : a = b
  · rw [c, decide_eq_true rfl, decide_eq_true rfl]
  · rw [decide_eq_false c, decide_eq_false (fun z => c (wdS_inj _ _ z))]
theorem eqF_wd (a b : Wd) : eqF (.str (wdS a)) (.str (wdS b)) = decide (a = b) := by
  show (wdS a == wdS b) = _
  rw [str_beq]
  by_cases c : a = b
  · rw [c, decide_eq_true rfl, decide_eq_true rfl]
  · rw [decide_eq_false c, decide_eq_false (fun z => c (wdS_inj _ _ z))]
theorem fIn_wd (g : Bool → Bool) (a : Wd) (bs : List Wd) : fIn g (.d (.str (wdS a))) (.d (.tup (bs.map fun b => .str (wdS b)))) = some (.sh (.bl (g (decide (a ∈ bs))))) := by
  show (if flatD (.str (wdS a)) = true ∧ (bs.map fun b => D.str (wdS b)).all flatD = true then some (Rv.sh (.bl (g ((bs.map fun b => D.str (wdS b)).any fun y => eqF y (.str (wdS a)))))) else none) = _
  have h1 : (bs.map fun b => D.str (wdS b)).all flatD = true := by
    rw [List.all_map, List.all_eq_true]
    intro b _
    rfl
  have h2 : ((bs.map fun b => D.str (wdS b)).any fun y => eqF y (.str (wdS a))) = decide (a ∈ bs) := by
    rw [List.any_map]
    induction bs with
    | nil => simp
    | cons b bs ih =>
      rw [List.any_cons, ih (by rw [List.all_map, List.all_eq_true]; intro b _; rfl)]
      show (eqF (.str (wdS b)) (.str (wdS a)) || _) = _
      rw [eqF_wd]
      by_cases c : b = a
      · simp [c]
      · by_cases c2 : a ∈ bs
        · simp [c2]
        · simp [c, c2, Ne.symm c]
  rw [if_pos ⟨rfl, h1⟩, h2]
section
variable {d : Deed} {w : What} {μ : Store} {g : Bool → Bool} {a : Wd}
@[simp] theorem x_vwDeed : (deedD d).vw μ = some (.d (deedD d)) := (rfl)
@[simp] theorem x_vwWhat : (whatD w).vw μ = some (.d (whatD w)) := by cases w <;> rfl
@[simp] theorem fIx_deed0 : fIx (.d (deedD d)) (.d (.int 0)) = some (.sh (.int d.h)) := (rfl)
@[simp] theorem fIx_deed1 : fIx (.d (deedD d)) (.d (.int 1)) = some (.sh (.int d.n)) := (rfl)
@[simp] theorem fIx_deed2 : fIx (.d (deedD d)) (.d (.int 2)) = some (.sh (.int d.t)) := (rfl)
@[simp] theorem fIx_deed3 : fIx (.d (deedD d)) (.d (.int 3)) = some (.sh (whatD d.w)) := (rfl)
@[simp] theorem fIx_what0 : fIx (.d (whatD w)) (.d (.int 0)) = some (.sh (.str (wdS w.kind))) := by cases w <;> rfl
@[simp] theorem fLenB_deed : fLenB [.d (deedD d)] = some (.sh (.int 4)) := (rfl)
@[simp] theorem gT_deed {i1 i2 i3 i4 : Nat} {ρ : Ev} : gT [i1, i2, i3, i4] (deedD d) ρ = some ((((ρ.set i1 (.sh (.int d.h))).set i2 (.sh (.int d.n))).set i3 (.sh (.int d.t))).set i4 (.sh (whatD d.w))) := (rfl)
@[simp] theorem fCut_deed2 : fCut (.d (deedD d)) none (some 2) = some (.sh (nameD d.nm)) := (rfl)
@[simp] theorem fEq_put : fEq (.d (.str (wdS a))) (.d (.str "put")) = some (.sh (.bl (decide (a = .put)))) := fEq_wd a .put
@[simp] theorem fEq_add : fEq (.d (.str (wdS a))) (.d (.str "add")) = some (.sh (.bl (decide (a = .add)))) := fEq_wd a .add
@[simp] theorem fEq_back : fEq (.d (.str (wdS a))) (.d (.str "back")) = some (.sh (.bl (decide (a = .back)))) := fEq_wd a .back
@[simp] theorem fEq_seal : fEq (.d (.str (wdS a))) (.d (.str "seal")) = some (.sh (.bl (decide (a = .sealed)))) := fEq_wd a .sealed
@[simp] theorem fEq_bye : fEq (.d (.str (wdS a))) (.d (.str "bye")) = some (.sh (.bl (decide (a = .bye)))) := fEq_wd a .bye
@[simp] theorem fIn_sb : fIn g (.d (.str (wdS a))) (.d (.tup [.str "seal", .str "bye"])) = some (.sh (.bl (g (decide (a = .sealed ∨ a = .bye))))) := by
  have h := fIn_wd g a [.sealed, .bye]
  have e : decide (a ∈ ([.sealed, .bye] : List Wd)) = decide (a = .sealed ∨ a = .bye) := by simp
  rw [e] at h
  exact h
@[simp] theorem fIn_pa : fIn g (.d (.str (wdS a))) (.d (.tup [.str "put", .str "add"])) = some (.sh (.bl (g (decide (a = .put ∨ a = .add))))) := by
  have h := fIn_wd g a [.put, .add]
  have e : decide (a ∈ ([.put, .add] : List Wd)) = decide (a = .put ∨ a = .add) := by simp
  rw [e] at h
  exact h
@[simp] theorem fIn_pab : fIn g (.d (.str (wdS a))) (.d (.tup [.str "put", .str "add", .str "back"])) = some (.sh (.bl (g (decide (a = .put ∨ a = .add ∨ a = .back))))) := by
  have h := fIn_wd g a [.put, .add, .back]
  have e : decide (a ∈ ([.put, .add, .back] : List Wd)) = decide (a = .put ∨ a = .add ∨ a = .back) := by simp
  rw [e] at h
  exact h
end
theorem kind_back {w : What} : w.kind = .back ↔ ∃ h n, w = .back h n := by cases w <;> simp [What.kind]
theorem kind_seal {w : What} : w.kind = .sealed ↔ ∃ rs, w = .sealed rs := by cases w <;> simp [What.kind]
/-! stamps: order -/
def slt (a b : Row) : Prop := a.1 < b.1 ∨ (a.1 = b.1 ∧ (a.2.1 < b.2.1 ∨ (a.2.1 = b.2.1 ∧ a.2.2 < b.2.2)))
instance (a b : Row) : Decidable (slt a b) := by unfold slt; exact inferInstance
theorem slt_irr {a : Row} : ¬ slt a a := by unfold slt; omega
theorem slt_trans {a b c : Row} (h : slt a b) (k : slt b c) : slt a c := by unfold slt at *; omega
theorem slt_tri {a b : Row} (h : ¬ slt a b) (k : ¬ slt b a) : a = b := by
  unfold slt at *
  obtain ⟨p, q, r⟩ := a
  obtain ⟨p', q', r'⟩ := b
  simp only at h k
  have : p = p' ∧ q = q' ∧ r = r' := by omega
  rw [this.1, this.2.1, this.2.2]
theorem rowLt_slt {a b : Row} : rowLt a b = decide (slt a b) := by
  obtain ⟨p, q, r⟩ := a
  obtain ⟨p', q', r'⟩ := b
  have e : rowLt (p, q, r) (p', q', r') = (if p = p' then (if q = q' then (if r = r' then false else decide (r < r')) else decide (q < q')) else decide (p < p')) := rfl
  rw [e]
  by_cases c : slt (p, q, r) (p', q', r')
  · rw [decide_eq_true c]
    unfold slt at c
    simp only at c
    split
    · split
      · split
        · omega
        · exact decide_eq_true (by omega)
      · exact decide_eq_true (by omega)
    · exact decide_eq_true (by omega)
  · rw [decide_eq_false c]
    unfold slt at c
    simp only at c
    split
    · split
      · split
        · rfl
        · exact decide_eq_false (by omega)
      · exact decide_eq_false (by omega)
    · exact decide_eq_false (by omega)
@[simp] theorem fLt_row (a b : Row) : fLt (.d (rowD a)) (.d (rowD b)) = some (.sh (.bl (decide (slt a b)))) := by
  rw [← rowLt_slt]
  rfl
@[simp] theorem fGe_row (a b : Row) : fGe (.d (rowD a)) (.d (rowD b)) = some (.sh (.bl (decide (¬ slt a b)))) := by
  have e : fGe (.d (rowD a)) (.d (rowD b)) = some (.sh (.bl (if a.1 = b.1 then (if a.2.1 = b.2.1 then (if a.2.2 = b.2.2 then true else decide (b.2.2 ≤ a.2.2)) else decide (b.2.1 ≤ a.2.1)) else decide (b.1 ≤ a.1)))) := rfl
  rw [e]
  congr 3
  by_cases c : slt a b
  · rw [decide_eq_false (not_not_intro c)]
    unfold slt at c
    split
    · split
      · split
        · omega
        · exact decide_eq_false (by omega)
      · exact decide_eq_false (by omega)
    · exact decide_eq_false (by omega)
  · rw [decide_eq_true c]
    unfold slt at c
    split
    · split
      · split
        · rfl
        · exact decide_eq_true (by omega)
      · exact decide_eq_true (by omega)
    · exact decide_eq_true (by omega)
theorem insR_perm' (x : Row) : ∀ l : List Row, (insR x l).Perm (x :: l)
  | [] => List.Perm.refl _
  | y :: ys => by
    unfold insR
    split
    · exact ((insR_perm' x ys).cons y).trans (List.Perm.swap x y ys)
    · exact List.Perm.refl _
theorem sortR_perm' : ∀ l : List Row, (sortR l).Perm l
  | [] => List.Perm.refl _
  | x :: xs => (insR_perm' x (sortR xs)).trans ((sortR_perm' xs).cons x)
theorem insR_sorted' {x : Row} : ∀ {l : List Row}, l.Pairwise (fun a b => ¬ slt b a) → (insR x l).Pairwise (fun a b => ¬ slt b a)
  | [], _ => List.pairwise_singleton _ _
  | y :: ys, h => by
    obtain ⟨h1, h2⟩ := List.pairwise_cons.mp h
    unfold insR
    rw [rowLt_slt]
    split
    · next c =>
      refine List.pairwise_cons.mpr ⟨fun q hq => ?_, insR_sorted' h2⟩
      rcases List.mem_cons.mp ((insR_perm' x ys).mem_iff.mp hq) with e | e
      · rw [e]
        exact fun z => slt_irr (slt_trans z (of_decide_eq_true c))
      · exact h1 q e
    · next c =>
      have c : ¬ slt y x := fun z => c (decide_eq_true z)
      refine List.pairwise_cons.mpr ⟨fun q hq => ?_, h⟩
      rcases List.mem_cons.mp hq with e | e
      · rw [e]; exact c
      · intro z
        by_cases w : slt y q
        · exact c (slt_trans w z)
        · exact c ((slt_tri w (h1 q e)).symm ▸ z)
theorem sortR_sorted' : ∀ l : List Row, (sortR l).Pairwise (fun a b => ¬ slt b a)
  | [] => List.Pairwise.nil
  | _ :: xs => insR_sorted' (sortR_sorted' xs)
theorem sortR_strict {l : List Row} (h : l.Nodup) : (sortR l).Pairwise slt := by
  have hn : (sortR l).Nodup := (sortR_perm' l).nodup_iff.mpr h
  refine ((sortR_sorted' l).and hn).imp fun {a b} ⟨h1, h2⟩ => ?_
  by_cases c : slt a b
  · exact c
  · exact absurd (slt_tri c h1) h2
/-! dicts whose keys are stamps -/
def rkey (x : Row) : List Key := [.inl x.1, .inl x.2.1, .inl x.2.2]
theorem rkey_inj (a b : Row) (h : rkey a = rkey b) : a = b := by
  obtain ⟨p, q, r⟩ := a
  obtain ⟨p', q', r'⟩ := b
  unfold rkey at h
  simp at h
  rw [h.1, h.2.1, h.2.2]
theorem rkeys_ints : ∀ xs : List Row, keyIntss (xs.map rkey) = some (xs.map rowL)
  | [] => rfl
  | x :: xs => by
    show ((keyInts (rkey x)).bind fun ns => if ns = [] then none else (keyIntss (xs.map rkey)).map (ns :: ·)) = _
    rw [rkeys_ints xs]
    rfl
section
variable {ν : Type} {val : ν → D}
theorem fSrt_rowsD (xs : List (Row × ν)) : fSrt [.ob (.dT (dctD rkey val xs))] = some (.own (.lst ((sortR (xs.map (·.1))).map rowD))) := by
  show (keyIntss ((dctD rkey val xs).map (·.1))).map (fun nss => Rv.own (.lst ((sortL nss).map intsD))) = _
  rw [dctD_keys, rkeys_ints, Option.map_some, ← sortR_L, List.map_map]
  rfl
theorem fSet_rowsD {xs : List (Row × ν)} {r : Row} {v : ν} (hl : xs.length < 16777216) : fSet (.dT (dctD rkey val xs)) (rowD r) (val v) = some (.dT (dctD rkey val (putA xs r v))) := by
  show (if (dctD rkey val xs).length < 16777216 then some (Ob.dT (putD (dctD rkey val xs) (rkey r) (val v))) else none) = _
  rw [dctD_len, if_pos hl, dctD_put rkey_inj]
theorem fGet_rowsD {xs : List (Row × ν)} {r : Row} : fGet (.ob (.dT (dctD rkey val xs))) (.d (rowD r)) = some ((getA xs r).map val) := by
  show some (getK (dctD rkey val xs) (rkey r)) = _
  rw [dctD_get rkey_inj]
theorem fIx_dT {kvs : List (List Key × D)} {ds : List D} {v : D} (h : fGet (.ob (.dT kvs)) (.d (.tup ds)) = some (some v)) : fIx (.ob (.dT kvs)) (.d (.tup ds)) = some (.sh v) := by
  show (match fGet (.ob (.dT kvs)) (.d (.tup ds)) with | some (some d) => some (Rv.sh d) | _ => none) = _
  rw [h]
theorem fIx_rowsD {xs : List (Row × ν)} {r : Row} {v : ν} (h : getA xs r = some v) : fIx (.ob (.dT (dctD rkey val xs))) (.d (rowD r)) = some (.sh (val v)) := by
  refine fIx_dT (ds := [.int r.1, .int r.2.1, .int r.2.2]) ?_
  have := fGet_rowsD (val := val) (xs := xs) (r := r)
  rw [h] at this
  exact this
theorem fIx_namesD {xs : List (Name × ν)} {r : Name} {v : ν} (h : getA xs r = some v) : fIx (.ob (.dT (dctD nkey val xs))) (.d (nameD r)) = some (.sh (val v)) := by
  refine fIx_dT (ds := [.int r.1, .int r.2]) ?_
  have := fGet_names (val := val) (xs := xs) (h := r.1) (n := r.2)
  rw [h] at this
  exact this
theorem fIn_namesD {xs : List (Name × ν)} {r : Name} {g : Bool → Bool} : fIn g (.d (nameD r)) (.ob (.dT (dctD nkey val xs))) = some (.sh (.bl (g (decide (r ∈ xs.map (·.1)))))) := by
  show (fGet (.ob (.dT (dctD nkey val xs))) (.d (nameD r))).map (fun o => Rv.sh (.bl (g o.isSome))) = _
  have := fGet_names (val := val) (xs := xs) (h := r.1) (n := r.2)
  rw [show fGet (.ob (.dT (dctD nkey val xs))) (.d (nameD r)) = _ from this]
  show some (Rv.sh (.bl (g (((getA xs r).map val).isSome)))) = _
  rw [Option.isSome_map, isSome_getA]
  congr
theorem fSet_namesD {xs : List (Name × ν)} {r : Name} {v : ν} (hl : xs.length < 16777216) : fSet (.dT (dctD nkey val xs)) (nameD r) (val v) = some (.dT (dctD nkey val (putA xs r v))) := fSet_names hl
end
/-- dict(pairs) -/
def putsA {κ ν : Type} [DecidableEq κ] (xs ys : List (κ × ν)) : List (κ × ν) := ys.foldl (fun a p => putA a p.1 p.2) xs
theorem fDict_of {κ ν : Type} [DecidableEq κ] {key : κ → List Key} {val : ν → D} {ks : κ → List D} (hk : ∀ k, D.keys (ks k) = some (key k)) (hi : ∀ a b, key a = key b → a = b) (xs : List (κ × ν)) : fDictT [.ob (.lst (xs.map fun p => .tup [.tup (ks p.1), val p.2]))] = some (.own (.dT (dctD key val (putsA [] xs)))) := by
  have h1 : ∀ xs : List (κ × ν), pairsT (xs.map fun p => .tup [.tup (ks p.1), val p.2]) = some (dctD key val xs) := by
    intro xs
    induction xs with
    | nil => rfl
    | cons p xs ih =>
      show ((D.keys (ks p.1)).bind fun k => (pairsT (xs.map fun p => .tup [.tup (ks p.1), val p.2])).map ((k, val p.2) :: ·)) = _
      rw [hk, ih]
      rfl
  have h2 : ∀ (xs acc : List (κ × ν)), mergeD (dctD key val acc) (dctD key val xs) = dctD key val (putsA acc xs) := by
    intro xs
    induction xs with
    | nil => intro acc; rfl
    | cons p xs ih =>
      intro acc
      show mergeD (putD (dctD key val acc) (key p.1) (val p.2)) (dctD key val xs) = dctD key val (putsA (putA acc p.1 p.2) xs)
      rw [dctD_put hi, ih]
  show (pairsT _).map (fun ps => Rv.own (.dT (mergeD [] ps))) = _
  rw [h1]
  show some (Rv.own (.dT (mergeD (dctD key val []) (dctD key val xs)))) = _
  rw [h2]
theorem fNeB_dT (kvs : List (List Key × D)) : fNeB (.ob (.dT kvs)) (.ob (.dK [])) = some (.sh (.bl (!kvs.isEmpty))) := rfl
/-- xs[k] = w, xs ints -/
theorem fSet_ints {ws : List Int} {k w : Int} (h0 : 0 ≤ k) (h1 : k < ws.length) : fSet (.lst (ws.map .int)) (.int k) (.int w) = some (.lst ((ws.set k.toNat w).map .int)) := by
  show (ixN (ws.map D.int).length k).map (fun j => Ob.lst ((ws.map D.int).set j (.int w))) = _
  rw [List.length_map]
  unfold ixN
  rw [if_pos h0, if_pos h1, Option.map_some, List.map_set]
theorem fIx_ints {ws : List Int} {k : Int} (h0 : 0 ≤ k) (h1 : k < ws.length) : fIx (.ob (.lst (ws.map .int))) (.d (.int k)) = some (.sh (.int (ws.getD k.toNat 0))) := by
  rw [fIx_at h0 (by rw [List.length_map]; exact h1)]
  have : k.toNat < ws.length := by omega
  simp [this]
/-- pure data of deeds -/
def whatP : What → PyData
  | .put k w => .tuple [.str "put", .int k, .int w]
  | .add k w => .tuple [.str "add", .int k, .int w]
  | .back h n => .tuple [.str "back", .int h, .int n]
  | .sealed rs => .tuple [.str "seal", .tuple (rs.map rowP)]
  | .bye => .tuple [.str "bye"]
def deedP (d : Deed) : PyData := .tuple [.int d.h, .int d.n, .int d.t, whatP d.w]
theorem lay_wd (a : Wd) : (PyData.str (wdS a)).canLay0 = true := by cases a <;> decide +kernel
def pdWhat : Pd whatD where
  py := whatP
  dep := 3
  hpy w := by
    match w with
    | .sealed rs =>
      show (Option.bind (D.py (.str "seal")) fun p => (Option.bind ((D.pys (rs.map rowD)).map PyData.tuple) fun q => some [q]).map (p :: ·)).map PyData.tuple = _
      rw [rowsD_pys]
      rfl
    | .put _ _ => rfl
    | .add _ _ => rfl
    | .back _ _ => rfl
    | .bye => rfl
  lay w := by
    match w with
    | .sealed rs =>
      show (PyData.canLay0 (.str (wdS .sealed)) && (PyData.canLayAll0 (rs.map rowP) && true)) = true
      rw [rowsP_lay, lay_wd]
      rfl
    | .put _ _ => show (PyData.canLay0 (.str (wdS .put)) && (true && (true && true))) = true; rw [lay_wd]; rfl
    | .add _ _ => show (PyData.canLay0 (.str (wdS .add)) && (true && (true && true))) = true; rw [lay_wd]; rfl
    | .back _ _ => show (PyData.canLay0 (.str (wdS .back)) && (true && (true && true))) = true; rw [lay_wd]; rfl
    | .bye => show (PyData.canLay0 (.str (wdS .bye)) && true) = true; rw [lay_wd]; rfl
  hd w := by
    match w with
    | .sealed rs =>
      show max 0 (max (PyData.depthAll (rs.map rowP) + 1) 0) + 1 ≤ 3
      have := rowsP_depth rs
      omega
    | .put _ _ => exact (show 1 ≤ 3 by omega)
    | .add _ _ => exact (show 1 ≤ 3 by omega)
    | .back _ _ => exact (show 1 ≤ 3 by omega)
    | .bye => exact (show 1 ≤ 3 by omega)
  eqv a b := by
    cases a <;> cases b <;> first
      | (rename_i k w k' w'
         show (true && ((k == k') && ((w == w') && true))) = _
         rw [Bool.and_true, Bool.true_and]
         by_cases e1 : k = k' <;> by_cases e2 : w = w' <;> simp [e1, e2])
      | (rename_i rs rs'
         show (true && (PyData.eqvAll (rs.map rowP) (rs'.map rowP) && true)) = _
         rw [rowsP_eqv, Bool.and_true, Bool.true_and]
         by_cases e1 : rs = rs' <;> simp [e1])
      | rfl
      | (simp; rfl)
def pdDeed : Pd deedD where
  py := deedP
  dep := 4
  hpy d := by
    show (Option.bind (D.py (.int d.h)) fun p => (Option.bind (D.py (.int d.n)) fun q => (Option.bind (D.py (.int d.t)) fun r => (Option.bind (whatD d.w).py fun s => some [s]).map (r :: ·)).map (q :: ·)).map (p :: ·)).map PyData.tuple = _
    rw [pdWhat.hpy]
    rfl
  lay d := by
    show (PyData.canLay0 (.int d.h) && (PyData.canLay0 (.int d.n) && (PyData.canLay0 (.int d.t) && ((whatP d.w).canLay0 && true)))) = true
    have := pdWhat.lay d.w
    rw [show (whatP d.w).canLay0 = true from this]
    rfl
  hd d := by
    have : (whatP d.w).depth ≤ 3 := pdWhat.hd d.w
    show max 0 (max 0 (max 0 (max (whatP d.w).depth 0))) + 1 ≤ 4
    omega
  eqv a b := by
    obtain ⟨h, n, t, w⟩ := a
    obtain ⟨h', n', t', w'⟩ := b
    show ((h == h') && ((n == n') && ((t == t') && ((whatP w).eqv (whatP w') && true)))) = _
    have : (whatP w).eqv (whatP w') = decide (w = w') := pdWhat.eqv w w'
    rw [this, Bool.and_true]
    by_cases e1 : h = h' <;> by_cases e2 : n = n' <;> by_cases e3 : t = t' <;> by_cases e4 : w = w' <;> simp [e1, e2, e3, e4]
end DL

namespace DL
open PySem L2
@[simp] theorem fSrtB_ob (o : Ob) : fSrtB [.ob o] = fSrt [.ob o] := (rfl)
theorem fSrtB_rows (rs : List Row) : fSrtB [.d (.tup (rs.map rowD))] = some (.own (.lst ((sortR rs).map rowD))) := by
  show (D.intss (rs.map rowD)).map (fun nss => Rv.own (.lst ((sortL nss).map intsD))) = _
  rw [rows_intss, Option.map_some, ← sortR_L, List.map_map]
  rfl
def lcOR (g : D → Ev → Option Ev) (ws : List Nat) (t : MT) (e : ME) (ρ : Ev) (μ : Store) : Option Sl → Res Op
  | some (.own (.lst xs)) => (lcL g t e (wipeE ρ ws) xs μ []).bind fun ds μ2 => .ok (.own (.lst ds)) μ2
  | _ => .stk
@[simp] theorem x_eLcO {n g ws} {t : MT} {e : ME} {ρ : Ev} {μ : Store} : eLcO n g ws t e ρ μ = lcOR g ws t e ρ μ ρ[n]? := by
  unfold eLcO lcOR
  cases ρ[n]? with
  | none => rfl
  | some s => cases s with
    | no => rfl
    | sh _ => rfl
    | own o => cases o <;> rfl
@[simp] theorem x_lcOR {g ws} {t : MT} {e : ME} {ρ : Ev} {μ : Store} {xs} : lcOR g ws t e ρ μ (some (.own (.lst xs))) = (lcL g t e (wipeE ρ ws) xs μ []).bind fun ds μ2 => .ok (.own (.lst ds)) μ2 := (rfl)
@[simp] theorem fAdd_tup (xs ys : List D) : fAdd (.d (.tup xs)) (.d (.tup ys)) = if xs.length + ys.length ≤ 16777216 then some (.sh (.tup (xs ++ ys))) else none := (rfl)
@[simp] theorem popR_at {μ : Store} {n : Nat} {xs : List D} {i : Int} {d : D} (h : μ[n]? = some (.lst xs)) (h0 : 0 ≤ i ∧ i < 9223372036854775808) (hd : xs[i.toNat]? = some d) : popR μ n i = .ok (.sh d) (μ.set n (.lst (xs.eraseIdx i.toNat))) := by
  unfold popR
  rw [h]
  show (if 0 ≤ i ∧ i < 9223372036854775808 then (match xs[i.toNat]? with | some d => Res.ok (Op.sh d) (μ.set n (.lst (xs.eraseIdx i.toNat))) | none => .stk) else .stk) = _
  rw [if_pos h0, hd]
theorem fMaxL_ints (ns : List Int) (h : ns ≠ []) : fMaxL [.ob (.lst (ns.map .int))] = some (.sh (.int (maxL ns))) := by
  have e : D.ints (ns.map .int) = some ns := by
    clear h
    induction ns with
    | nil => rfl
    | cons n ns ih =>
      show (D.ints (ns.map .int)).map (n :: ·) = _
      rw [ih]
      rfl
  show ((D.ints (ns.map .int)).bind fun ns => if ns.length = 0 then none else some (Rv.sh (.int (maxL ns)))) = _
  rw [e]
  show (if ns.length = 0 then none else some (Rv.sh (.int (maxL ns)))) = _
  rw [if_neg (fun z => h (List.eq_nil_of_length_eq_zero z))]
end DL

namespace DL
open PySem L2
/-! ### texts, for simp -/
def splitR1 (b : ME) (ρ : Ev) (d : D) (μ : Store) : Res Op := match d with
  | .str s => (toD b ρ μ).bind fun e μ2 => (match e with
    | .str t => splitR s t μ2
    | _ => .stk)
  | _ => .stk
def splitR2 (s : Str) (d : D) (μ : Store) : Res Op := match d with
  | .str t => splitR s t μ
  | _ => .stk
section
variable {ρ : Ev} {μ : Store} {a b m : ME} {s t : Str} {g : Bool → Bool} {ws : List Str}
@[simp] theorem x_eSplit : eSplit a b ρ μ = (toD a ρ μ).bind (splitR1 b ρ) := (rfl)
@[simp] theorem x_splitR1 : splitR1 b ρ (.str s) μ = (toD b ρ μ).bind (splitR2 s) := (rfl)
@[simp] theorem x_splitR2 : splitR2 s (.str t) μ = splitR s t μ := (rfl)
theorem x_splitR {ps : List Str} (h : Txt.split s t = ps) (h1 : (t.length == 0) = false) (h2 : s.length + 2 ≤ 16777216) : splitR s t μ = .ok (.own (.lst (ps.map .str))) μ := by
  unfold splitR
  rw [if_pos ⟨h1, h2⟩, h]
def joinR1 (b : ME) (ρ : Ev) (d : D) (μ : Store) : Res Op := match d with
  | .str s => (toD b ρ μ).bind fun e μ2 => (match e with
    | .lst ds => joinR s μ2 (D.strs ds)
    | .tup ds => joinR s μ2 (D.strs ds)
    | _ => .stk)
  | _ => .stk
def joinR2 (s : Str) (d : D) (μ : Store) : Res Op := match d with
  | .lst ds => joinR s μ (D.strs ds)
  | .tup ds => joinR s μ (D.strs ds)
  | _ => .stk
@[simp] theorem x_eJoin : eJoin a b ρ μ = (toD a ρ μ).bind (joinR1 b ρ) := (rfl)
@[simp] theorem x_joinR1 : joinR1 b ρ (.str s) μ = (toD b ρ μ).bind (joinR2 s) := (rfl)
@[simp] theorem x_joinR2 {ds} : joinR2 s (.lst ds) μ = joinR s μ (D.strs ds) := (rfl)
theorem strs_map : ∀ ys : List Str, D.strs (ys.map .str) = some ys
  | [] => rfl
  | y :: ys => by
    show (D.strs (ys.map .str)).map (y :: ·) = _
    rw [strs_map ys]
    rfl
theorem x_joinR {ys : List Str} (h : (ys.map (·.length)).sum + ys.length * s.length ≤ 16777216) : joinR s μ (some ys) = .ok (.sh (.str (Txt.join s ys))) μ := by
  unfold joinR
  simp only [h, if_true]
def inCR (g : Bool → Bool) (ws : List Str) (d : D) (μ : Store) : Res Op := match d with
  | .str s => .ok (.sh (.bl (g (decide (s ∈ ws))))) μ
  | _ => .stk
@[simp] theorem x_eInC : eInC g m ws ρ μ = (toD m ρ μ).bind (inCR g ws) := (rfl)
@[simp] theorem x_inCR : inCR g ws (.str s) μ = .ok (.sh (.bl (g (decide (s ∈ ws))))) μ := (rfl)
def txtR (d : D) (μ : Store) : Res (List D) := match d with
  | .str s => .ok (chars s) μ
  | _ => .stk
@[simp] theorem x_iTxt : iTxt m ρ μ = (toD m ρ μ).bind txtR := (rfl)
@[simp] theorem x_txtR : txtR (.str s) μ = .ok (chars s) μ := (rfl)
end
theorem fStr_int {i : Int} (h : i.natAbs < 2 ^ 100) : fStr [.d (.int i)] = some (.sh (.str (Str.ofString (toString i)))) := by
  have : i.natAbs.log2 < 1920 := by
    rcases Nat.eq_zero_or_pos i.natAbs with z | z
    · rw [z]; decide
    · have := (Nat.log2_lt (by omega)).mpr h
      omega
  show (if i.natAbs.log2 < 1920 then some (Rv.sh (.str (toString i))) else none) = _
  rw [if_pos this]
theorem fAdd_str {a b : Str} (h : a.length + b.length ≤ 16777216) : fAdd (.d (.str a)) (.d (.str b)) = some (.sh (.str (a ++ b))) := by
  show (if a.length + b.length ≤ 16777216 then some (Rv.sh (.str (a ++ b))) else none) = _
  rw [if_pos h]
theorem fLenB_str {a : Str} (h : a.length ≤ 16777216) : fLenB [.d (.str a)] = some (.sh (.int a.length)) := by
  show (if a.length ≤ 16777216 then some (Rv.sh (.int a.length)) else none) = _
  rw [if_pos h]
@[simp] theorem fIntB_bl (b : Bool) : fIntB [.d (.bl b)] = some (.sh (.int (if b then 1 else 0))) := (rfl)
/-- the text of a number -/
def nS (n : Nat) : Str := Str.ofString (toString ((n : Nat) : Int))
theorem tl_nS (n : Nat) : TL.tl (nS n) = TL.numL n := TL.tl_num n
theorem nS_len {n k : Nat} (hk : 0 < k) (h : n < 10 ^ k) : (nS n).length ≤ k := by
  rw [TL.len_tl, tl_nS]
  exact TL.numL_len hk h
theorem nS_pos (n : Nat) : 1 ≤ (nS n).length := by
  rw [TL.len_tl, tl_nS]
  exact List.length_pos_iff.mpr (TL.numL_ne n)
theorem nS_free {n s : Nat} (h : s < 48 ∨ 57 < s) : s ∉ TL.tl (nS n) := by
  rw [tl_nS]
  exact TL.numL_free h
theorem nS_head {n : Nat} (h : 0 < n) : ∃ c r, TL.numL n = c :: r ∧ c ≠ 48 := by
  induction n using Nat.strongRecOn with
  | _ n ih =>
    by_cases c : n < 10
    · exact ⟨48 + n, [], TL.numL_lt c, by omega⟩
    · obtain ⟨d, r, e, hd⟩ := ih (n / 10) (by omega) (by omega)
      exact ⟨d, r ++ [48 + n % 10], by rw [TL.numL_step (by omega), e]; rfl, hd⟩
theorem fInt_nS {n : Nat} (h : n < 10 ^ 20) : fIntB [.d (.str (nS n))] = some (.sh (.int n)) := by
  have hl : (TL.numL n).length ≤ 20 := TL.numL_len (by decide) h
  have e := TL.int_num (n := n) (by omega)
  have hl2 : (nS n).length ≤ 640 := by
    have := nS_len (n := n) (k := 20) (by decide) h
    omega
  show (match PySem.intText? (nS n) with | some k => if (nS n).length ≤ 640 then some (Rv.sh (.int k)) else none | none => none) = _
  rw [show PySem.intText? (nS n) = some (n : Int) from e]
  show (if (nS n).length ≤ 640 then some (Rv.sh (.int (n : Int))) else none) = _
  rw [if_pos hl2]
end DL

/-! ### throws -/
namespace Law
open PySem L2 DL
theorem next_m {ns : List Int} {p m e n : Int} {μ : Store} (hp : 0 ≤ p) (h0 : 0 < n) (h1 : n < 18446744073709551616) :
    ∃ v p' m' e', m__law_next [.loc 0, .int n] (diceOb ns p m e :: μ) = .ok (.sh (.int v)) (diceOb ns p' m' e' :: μ) ∧ 0 ≤ v ∧ v < n ∧ 0 ≤ p' := by
  have md : ∀ i : Int, 0 ≤ i % n ∧ i % n < n := fun i => ⟨Int.emod_nonneg _ (by omega), Int.emod_lt_of_pos _ h0⟩
  unfold diceOb
  by_cases c1 : 0 < e
  · refine ⟨e % n, p, m, e / n, ?_, (md e).1, (md e).2, hp⟩
    simp [m__law_next, b__law_next, c1, fMod_int h0, fDiv_int h0 h1, List.replicate]
  · by_cases c2 : p + 1 ≤ ns.length
    · obtain ⟨c, hc⟩ := fIx_scr hp (show p < ns.length by omega)
      by_cases c3 : 1000000000000000000 ≤ c
      · refine ⟨c % n, p + 1, m, c / n, ?_, (md c).1, (md c).2, by omega⟩
        simp [m__law_next, b__law_next, c1, c2, c3, hc, fPow_18, fMod_int h0, fDiv_int h0 h1, List.replicate]
      · refine ⟨c % n, p + 1, m, 0, ?_, (md c).1, (md c).2, by omega⟩
        simp [m__law_next, b__law_next, c1, c2, c3, hc, fPow_18, fMod_int h0, fDiv_int h0 h1, List.replicate]
    · refine ⟨m * 48271 % 2147483647 / 7 % n, p + 1, m * 48271 % 2147483647, e, ?_, (md _).1, (md _).2, by omega⟩
      simp [m__law_next, b__law_next, c1, c2, fMul_l (i := m) (j := 48271) (by omega), fMod_int h0, fMod_int (show (0 : Int) < 2147483647 by omega), fDiv_int (show (0 : Int) < 7 by omega) (by omega), List.replicate]
theorem next_ok {d : Ob} {n : Int} {μ : Store} {Q : Rv → Store → Prop} (hd : Dice d) (h0 : 0 < n) (h1 : n < 18446744073709551616) (k : ∀ v d', Dice d' → 0 ≤ v → v < n → Q (.sh (.int v)) (d' :: μ)) : Ok (m__law_next [.loc 0, .int n] (d :: μ)) Q := by
  obtain ⟨ns, p, m, e, rfl, hp⟩ := hd
  obtain ⟨v, p', m', e', h, a, b, c⟩ := next_m (ns := ns) (m := m) (e := e) (μ := μ) hp h0 h1
  exact Ok.of h (k v _ ⟨ns, p', m', e', rfl, c⟩ a b)
theorem dice_loop : ∀ (ns : List Int) (x : Int) (s0 s2 : Sl) (μ : Store), ∃ y t2, forL (gN 2) b__law_dice_1 (ns.map .int) [s0, .sh (.int x), s2] μ = .ok (.nx, [s0, .sh (.int y), t2]) μ
  | [], x, s0, s2, μ => ⟨x, s2, rfl⟩
  | n :: ns, x, s0, s2, μ => by
    obtain ⟨y, t2, ih⟩ := dice_loop ns ((x * 48271 + n % 2147483647 * 69621 + 11) % 2147483647) s0 (.sh (.int n)) μ
    refine ⟨y, t2, ?_⟩
    rw [← ih, List.map_cons, forL]
    simp [b__law_dice_1, fMul_l (i := x) (j := 48271) (by omega), fMul_l (i := n % 2147483647) (j := 69621) (by omega), fMod_int (show (0 : Int) < 2147483647 by omega)]
theorem dice_ok {ns : List Int} {μ : Store} {Q : Rv → Store → Prop} (k : ∀ d, Dice d → Q (.own d) μ) : Ok (m__law_dice [.scr ns] μ) Q := by
  obtain ⟨y, t2, h⟩ := dice_loop ns 0 (.sh (.scr ns)) .no μ
  have hm : fMul (.d (.int y)) (.d (.int (if (2 : Int) < ns.length then 1 else 0))) = some (.sh (.int (y * (if (2 : Int) < ns.length then 1 else 0)))) := fMul_l (by split <;> omega)
  unfold m__law_dice b__law_dice
  simp [h, hm, List.replicate]
  exact k _ ⟨ns, 0, _, 0, rfl, Int.le_refl _⟩
end Law

/-! ### the plain theory of stretches -/
namespace St
abbrev Row := Int × Int × Int
def In (rs : List Row) (h n : Int) : Prop := ∃ r ∈ rs, r.1 = h ∧ r.2.1 ≤ n ∧ n ≤ r.2.2
def Ok (r : Row) : Prop := r.2.1 ≤ r.2.2
def Sep (a b : Row) : Prop := a.1 < b.1 ∨ (a.1 = b.1 ∧ a.2.2 + 1 < b.2.1)
def Canon (rs : List Row) : Prop := (∀ r ∈ rs, Ok r) ∧ rs.Pairwise Sep
theorem in_nil {h n : Int} : ¬ In [] h n := fun ⟨r, hr, _⟩ => by simp at hr
theorem in_cons {r : Row} {rs : List Row} {h n : Int} : In (r :: rs) h n ↔ (r.1 = h ∧ r.2.1 ≤ n ∧ n ≤ r.2.2) ∨ In rs h n := by
  constructor
  · rintro ⟨q, hq, z⟩
    rcases List.mem_cons.mp hq with e | e
    · exact .inl (e ▸ z)
    · exact .inr ⟨q, e, z⟩
  · rintro (z | ⟨q, hq, z⟩)
    · exact ⟨r, List.mem_cons_self, z⟩
    · exact ⟨q, List.mem_cons_of_mem _ hq, z⟩
theorem in_append {rs qs : List Row} {h n : Int} : In (rs ++ qs) h n ↔ In rs h n ∨ In qs h n := by
  constructor
  · rintro ⟨q, hq, z⟩
    rcases List.mem_append.mp hq with e | e
    · exact .inl ⟨q, e, z⟩
    · exact .inr ⟨q, e, z⟩
  · rintro (⟨q, hq, z⟩ | ⟨q, hq, z⟩)
    · exact ⟨q, List.mem_append_left _ hq, z⟩
    · exact ⟨q, List.mem_append_right _ hq, z⟩
theorem in_perm {rs qs : List Row} (p : rs.Perm qs) {h n : Int} : In rs h n ↔ In qs h n :=
  ⟨fun ⟨r, hr, z⟩ => ⟨r, p.mem_iff.mp hr, z⟩, fun ⟨r, hr, z⟩ => ⟨r, p.mem_iff.mpr hr, z⟩⟩
theorem canon_nil : Canon [] := ⟨fun r h => by simp at h, List.Pairwise.nil⟩
theorem canon_cons {r : Row} {rs : List Row} : Canon (r :: rs) ↔ Ok r ∧ (∀ q ∈ rs, Sep r q) ∧ Canon rs := by
  unfold Canon
  rw [List.pairwise_cons]
  constructor
  · rintro ⟨h1, h2, h3⟩
    exact ⟨h1 r List.mem_cons_self, h2, fun q hq => h1 q (List.mem_cons_of_mem _ hq), h3⟩
  · rintro ⟨h1, h2, h3, h4⟩
    refine ⟨fun q hq => ?_, h2, h4⟩
    rcases List.mem_cons.mp hq with e | e
    · exact e ▸ h1
    · exact h3 q e
theorem canon_append {rs qs : List Row} (h1 : Canon rs) (h2 : Canon qs) (h : ∀ r ∈ rs, ∀ q ∈ qs, Sep r q) : Canon (rs ++ qs) :=
  ⟨fun r hr => (List.mem_append.mp hr).elim (h1.1 r) (h2.1 r), List.pairwise_append.mpr ⟨h1.2, h2.2, h⟩⟩
/-- the first row of a canonical list is least -/
theorem head_le {x : Row} {xs : List Row} (c : Canon (x :: xs)) {h n : Int} (i : In (x :: xs) h n) : x.1 < h ∨ (x.1 = h ∧ x.2.1 ≤ n) := by
  obtain ⟨k1, k2, _⟩ := canon_cons.mp c
  rcases in_cons.mp i with ⟨e1, e2, _⟩ | ⟨r, hr, e1, e2, e3⟩
  · exact .inr ⟨e1, e2⟩
  · have k1 : x.2.1 ≤ x.2.2 := k1
    rcases k2 r hr with s | ⟨s1, s2⟩
    · omega
    · exact .inr ⟨by omega, by omega⟩
theorem in_first {x : Row} {xs : List Row} (h : Ok x) : In (x :: xs) x.1 x.2.1 := in_cons.mpr (.inl ⟨rfl, Int.le_refl _, h⟩)
/-- beyond the first row's end nothing follows at once -/
theorem in_next {x : Row} {xs : List Row} (c : Canon (x :: xs)) : ¬ In (x :: xs) x.1 (x.2.2 + 1) := by
  obtain ⟨k1, k2, _⟩ := canon_cons.mp c
  intro i
  rcases in_cons.mp i with ⟨_, _, e⟩ | ⟨r, hr, e1, e2, e3⟩
  · omega
  · rcases k2 r hr with s | ⟨s1, s2⟩ <;> omega
/-- a set has one canonical list -/
theorem canon_ext : ∀ {xs ys : List Row}, Canon xs → Canon ys → (∀ h n, In xs h n ↔ In ys h n) → xs = ys
  | [], [], _, _, _ => rfl
  | [], y :: ys, _, c, e => absurd ((e _ _).mpr (in_first (canon_cons.mp c).1)) in_nil
  | x :: xs, [], c, _, e => absurd ((e _ _).mp (in_first (canon_cons.mp c).1)) in_nil
  | x :: xs, y :: ys, cx, cy, e => by
    obtain ⟨x1, x2, x3⟩ := canon_cons.mp cx
    obtain ⟨y1, y2, y3⟩ := canon_cons.mp cy
    have a1 := head_le cy ((e _ _).mp (in_first (xs := xs) x1))
    have a2 := head_le cx ((e _ _).mpr (in_first (xs := ys) y1))
    have e1 : x.1 = y.1 := by omega
    have e2 : x.2.1 = y.2.1 := by omega
    have x1' : x.2.1 ≤ x.2.2 := x1
    have y1' : y.2.1 ≤ y.2.2 := y1
    have e3 : x.2.2 = y.2.2 := by
      rcases Int.lt_trichotomy x.2.2 y.2.2 with l | l | l
      · exact absurd ((e _ _).mpr (in_cons.mpr (.inl ⟨e1.symm, by omega, by omega⟩))) (in_next cx)
      · exact l
      · exact absurd ((e _ _).mp (in_cons.mpr (.inl ⟨e1, by omega, by omega⟩))) (in_next cy)
    have exy : x = y := by
      obtain ⟨a, b, c⟩ := x
      obtain ⟨a', b', c'⟩ := y
      simp only at e1 e2 e3
      rw [e1, e2, e3]
    subst exy
    rw [canon_ext x3 y3 fun h n => ?_]
    constructor
    · rintro ⟨r, hr, r1, r2, r3⟩
      rcases in_cons.mp ((e h n).mp (in_cons.mpr (.inr ⟨r, hr, r1, r2, r3⟩))) with ⟨z1, z2, z3⟩ | z
      · rcases x2 r hr with s | ⟨s1, s2⟩ <;> omega
      · exact z
    · rintro ⟨r, hr, r1, r2, r3⟩
      rcases in_cons.mp ((e h n).mpr (in_cons.mpr (.inr ⟨r, hr, r1, r2, r3⟩))) with ⟨z1, z2, z3⟩ | z
      · rcases y2 r hr with s | ⟨s1, s2⟩ <;> omega
      · exact z
/-! ### merged -/
def mergeR : Row → List Row → List Row
  | l, [] => [l]
  | l, r :: rs => if l.1 = r.1 ∧ r.2.1 ≤ l.2.2 + 1 then mergeR (l.1, l.2.1, max l.2.2 r.2.2) rs else l :: mergeR r rs
def mergeS : List Row → List Row
  | [] => []
  | r :: rs => mergeR r rs
/-- by house and first -/
def Le (a b : Row) : Prop := a.1 < b.1 ∨ (a.1 = b.1 ∧ a.2.1 ≤ b.2.1)
theorem mergeR_ok : ∀ (rs : List Row) (l : Row), (∀ r ∈ l :: rs, Ok r) → (l :: rs).Pairwise Le → Canon (mergeR l rs) ∧ (∀ h n, In (mergeR l rs) h n ↔ In (l :: rs) h n) ∧ (∀ q ∈ mergeR l rs, Le l q)
  | [], l, ho, _ => ⟨canon_cons.mpr ⟨ho l List.mem_cons_self, fun q hq => by simp at hq, canon_nil⟩, fun _ _ => Iff.rfl, fun q hq => by
      have : q = l := by simpa [mergeR] using hq
      rw [this]
      exact .inr ⟨rfl, Int.le_refl _⟩⟩
  | r :: rs, l, ho, hs => by
    obtain ⟨s1, s2⟩ := List.pairwise_cons.mp hs
    obtain ⟨s3, s4⟩ := List.pairwise_cons.mp s2
    have ol : l.2.1 ≤ l.2.2 := ho l List.mem_cons_self
    have orr : r.2.1 ≤ r.2.2 := ho r (List.mem_cons_of_mem _ List.mem_cons_self)
    have lr := s1 r List.mem_cons_self
    unfold mergeR
    split
    · next c =>
      obtain ⟨c1, c2⟩ := c
      have ih := mergeR_ok rs (l.1, l.2.1, max l.2.2 r.2.2) (fun q hq => ?_) (List.pairwise_cons.mpr ⟨fun q hq => s1 q (List.mem_cons_of_mem _ hq), s4⟩)
      · obtain ⟨i1, i2, i3⟩ := ih
        refine ⟨i1, fun h n => ?_, i3⟩
        rw [i2, in_cons, in_cons, in_cons]
        show (l.1 = h ∧ l.2.1 ≤ n ∧ n ≤ max l.2.2 r.2.2) ∨ _ ↔ _
        rcases lr with z | ⟨z1, z2⟩
        · omega
        constructor
        · rintro (⟨a, b, c⟩ | z)
          · by_cases q : n ≤ l.2.2
            · exact .inl ⟨a, b, q⟩
            · exact .inr (.inl ⟨by omega, by omega, by omega⟩)
          · exact .inr (.inr z)
        · rintro (⟨a, b, c⟩ | ⟨a, b, c⟩ | z)
          · exact .inl ⟨a, b, by omega⟩
          · exact .inl ⟨by omega, by omega, by omega⟩
          · exact .inr z
      · rcases List.mem_cons.mp hq with e | e
        · rw [e]
          show l.2.1 ≤ max l.2.2 r.2.2
          omega
        · exact ho q (List.mem_cons_of_mem _ (List.mem_cons_of_mem _ e))
    · next c =>
      obtain ⟨i1, i2, i3⟩ := mergeR_ok rs r (fun q hq => ho q (List.mem_cons_of_mem _ hq)) s2
      have sep : ∀ q ∈ mergeR r rs, Sep l q := fun q hq => by
        have a := i3 q hq
        unfold Sep
        unfold Le at a lr
        omega
      refine ⟨canon_cons.mpr ⟨ol, sep, i1⟩, fun h n => ?_, fun q hq => ?_⟩
      · rw [in_cons, in_cons, i2]
      · rcases List.mem_cons.mp hq with e | e
        · rw [e]
          exact .inr ⟨rfl, Int.le_refl _⟩
        · have a := i3 q e
          unfold Le at a lr ⊢
          omega
theorem mergeS_ok {rs : List Row} (ho : ∀ r ∈ rs, Ok r) (hs : rs.Pairwise Le) : Canon (mergeS rs) ∧ ∀ h n, In (mergeS rs) h n ↔ In rs h n := by
  cases rs with
  | nil => exact ⟨canon_nil, fun _ _ => Iff.rfl⟩
  | cons r rs =>
    obtain ⟨a, b, _⟩ := mergeR_ok rs r ho hs
    exact ⟨a, b⟩
theorem mergeR_len : ∀ (rs : List Row) (l : Row), (mergeR l rs).length ≤ rs.length + 1
  | [], _ => Nat.le_refl _
  | r :: rs, l => by
    unfold mergeR
    split
    · have := mergeR_len rs (l.1, l.2.1, max l.2.2 r.2.2)
      simp only [List.length_cons]
      omega
    · have := mergeR_len rs r
      simp only [List.length_cons]
      omega
/-! ### what of one isn't in the other -/
def cutL (h last : Int) : Int → List Row → List Row
  | first, [] => if first ≤ last then [(h, first, last)] else []
  | first, o :: os => if o.1 = h ∧ o.2.1 ≤ last ∧ first ≤ o.2.2 then (if first < o.2.1 then [(h, first, o.2.1 - 1)] else []) ++ cutL h last (o.2.2 + 1) os else cutL h last first os
def cutOut (xs ys : List Row) : List Row := xs.flatMap fun r => cutL r.1 r.2.2 r.2.1 ys
theorem cutL_mem {h last : Int} : ∀ {os : List Row} {first : Int} {q : Row}, Canon os → q ∈ cutL h last first os → q.1 = h ∧ first ≤ q.2.1 ∧ q.2.1 ≤ q.2.2 ∧ q.2.2 ≤ last
  | [], first, q, _, hq => by
    unfold cutL at hq
    split at hq
    · have : q = (h, first, last) := by simpa using hq
      rw [this]
      exact ⟨rfl, Int.le_refl _, by assumption, Int.le_refl _⟩
    · simp at hq
  | o :: os, first, q, c, hq => by
    obtain ⟨c1, c2, c3⟩ := canon_cons.mp c
    have c1 : o.2.1 ≤ o.2.2 := c1
    unfold cutL at hq
    split at hq
    · next k =>
      rcases List.mem_append.mp hq with z | z
      · split at z
        · have : q = (h, first, o.2.1 - 1) := by simpa using z
          rw [this]
          refine ⟨rfl, Int.le_refl _, ?_, ?_⟩
          · show first ≤ o.2.1 - 1
            omega
          · show o.2.1 - 1 ≤ last
            omega
        · simp at z
      · obtain ⟨a, b, d, e⟩ := cutL_mem c3 z
        exact ⟨a, by omega, d, e⟩
    · exact cutL_mem c3 hq
theorem cutL_in {h last : Int} : ∀ {os : List Row} {first : Int}, Canon os → ∀ k n, In (cutL h last first os) k n ↔ k = h ∧ first ≤ n ∧ n ≤ last ∧ ¬ In os h n
  | [], first, _, k, n => by
    unfold cutL
    split
    · rw [in_cons]
      constructor
      · rintro (⟨a, b, c⟩ | z)
        · exact ⟨a.symm, b, c, in_nil⟩
        · exact absurd z in_nil
      · rintro ⟨a, b, c, _⟩
        exact .inl ⟨a.symm, b, c⟩
    · next hh => exact ⟨fun z => absurd z in_nil, fun ⟨a, b, c, _⟩ => by omega⟩
  | o :: os, first, c, k, n => by
    obtain ⟨c1, c2, c3⟩ := canon_cons.mp c
    have c1 : o.2.1 ≤ o.2.2 := c1
    unfold cutL
    split
    · next q =>
      obtain ⟨q1, q2, q3⟩ := q
      rw [in_append, cutL_in c3, in_cons]
      have later : n ≤ o.2.2 + 1 → ¬ In os h n := fun hn ⟨r, hr, r1, r2, r3⟩ => by
        rcases c2 r hr with s | ⟨s1, s2⟩ <;> omega
      have e : In (if first < o.2.1 then [(h, first, o.2.1 - 1)] else []) k n ↔ k = h ∧ first ≤ n ∧ n < o.2.1 := by
        split
        · rw [in_cons]
          constructor
          · rintro (⟨a, b, d⟩ | z)
            · have b : first ≤ n := b
              have d : n ≤ o.2.1 - 1 := d
              exact ⟨a.symm, b, by omega⟩
            · exact absurd z in_nil
          · rintro ⟨a, b, d⟩
            exact .inl ⟨a.symm, b, show n ≤ o.2.1 - 1 by omega⟩
        · exact ⟨fun z => absurd z in_nil, fun ⟨a, b, d⟩ => by omega⟩
      rw [e]
      constructor
      · rintro (⟨a, b, d⟩ | ⟨a, b, d, z⟩)
        · exact ⟨a, b, by omega, fun z => z.elim (fun ⟨_, _, _⟩ => by omega) (later (by omega))⟩
        · exact ⟨a, by omega, d, fun y => y.elim (fun ⟨_, _, _⟩ => by omega) z⟩
      · rintro ⟨a, b, d, z⟩
        by_cases w : n < o.2.1
        · exact .inl ⟨a, b, w⟩
        · refine .inr ⟨a, ?_, d, fun y => z (.inr y)⟩
          by_cases w2 : n ≤ o.2.2
          · exact absurd (.inl ⟨q1, by omega, w2⟩) z
          · omega
    · next q =>
      rw [cutL_in c3, in_cons]
      constructor
      · rintro ⟨a, b, d, z⟩
        exact ⟨a, b, d, fun y => y.elim (fun ⟨w1, w2, w3⟩ => q ⟨w1, by omega, by omega⟩) z⟩
      · rintro ⟨a, b, d, z⟩
        exact ⟨a, b, d, fun y => z (.inr y)⟩
theorem cutL_canon {h last : Int} : ∀ {os : List Row} {first : Int}, Canon os → Canon (cutL h last first os)
  | [], first, _ => by
    unfold cutL
    split
    · exact canon_cons.mpr ⟨by assumption, fun q hq => by simp at hq, canon_nil⟩
    · exact canon_nil
  | o :: os, first, c => by
    obtain ⟨c1, c2, c3⟩ := canon_cons.mp c
    have c1 : o.2.1 ≤ o.2.2 := c1
    unfold cutL
    split
    · next k =>
      refine canon_append ?_ (cutL_canon c3) fun r hr q hq => ?_
      · split
        · exact canon_cons.mpr ⟨show first ≤ o.2.1 - 1 by omega, fun q hq => by simp at hq, canon_nil⟩
        · exact canon_nil
      · split at hr
        · have : r = (h, first, o.2.1 - 1) := by simpa using hr
          rw [this]
          obtain ⟨a, b, d, e⟩ := cutL_mem c3 hq
          refine .inr ⟨a.symm, ?_⟩
          show o.2.1 - 1 + 1 < q.2.1
          omega
        · simp at hr
    · exact cutL_canon c3
theorem in_flatMap {xs : List Row} {f : Row → List Row} {h n : Int} : In (xs.flatMap f) h n ↔ ∃ r ∈ xs, In (f r) h n := by
  constructor
  · rintro ⟨q, hq, z⟩
    obtain ⟨r, hr, hq⟩ := List.mem_flatMap.mp hq
    exact ⟨r, hr, q, hq, z⟩
  · rintro ⟨r, hr, q, hq, z⟩
    exact ⟨q, List.mem_flatMap.mpr ⟨r, hr, hq⟩, z⟩
theorem canon_flatMap {f : Row → List Row} : ∀ {xs : List Row}, Canon xs → (∀ r ∈ xs, Canon (f r) ∧ ∀ q ∈ f r, q.1 = r.1 ∧ r.2.1 ≤ q.2.1 ∧ q.2.2 ≤ r.2.2) → Canon (xs.flatMap f)
  | [], _, _ => canon_nil
  | x :: xs, c, hf => by
    obtain ⟨c1, c2, c3⟩ := canon_cons.mp c
    rw [List.flatMap_cons]
    refine canon_append (hf x List.mem_cons_self).1 (canon_flatMap c3 fun r hr => hf r (List.mem_cons_of_mem _ hr)) fun p hp q hq => ?_
    obtain ⟨r, hr, hq⟩ := List.mem_flatMap.mp hq
    obtain ⟨a1, a2, a3⟩ := (hf x List.mem_cons_self).2 p hp
    obtain ⟨b1, b2, b3⟩ := (hf r (List.mem_cons_of_mem _ hr)).2 q hq
    have s := c2 r hr
    unfold Sep at s ⊢
    omega
theorem cutOut_ok {xs ys : List Row} (cx : Canon xs) (cy : Canon ys) : Canon (cutOut xs ys) ∧ ∀ h n, In (cutOut xs ys) h n ↔ In xs h n ∧ ¬ In ys h n := by
  refine ⟨canon_flatMap cx fun r hr => ⟨cutL_canon cy, fun q hq => ?_⟩, fun h n => ?_⟩
  · obtain ⟨a, b, d, e⟩ := cutL_mem cy hq
    exact ⟨a, b, e⟩
  · unfold cutOut
    rw [in_flatMap]
    constructor
    · rintro ⟨r, hr, z⟩
      obtain ⟨a, b, d, e⟩ := (cutL_in cy h n).mp z
      exact ⟨⟨r, hr, a.symm, b, d⟩, by rw [a]; exact e⟩
    · rintro ⟨⟨r, hr, a, b, d⟩, z⟩
      exact ⟨r, hr, (cutL_in cy h n).mpr ⟨a.symm, b, d, by rw [a]; exact z⟩⟩
/-! ### what both have -/
def bothL (r : Row) (ys : List Row) : List Row := ys.flatMap fun o => if o.1 = r.1 ∧ max r.2.1 o.2.1 ≤ min r.2.2 o.2.2 then [(r.1, max r.2.1 o.2.1, min r.2.2 o.2.2)] else []
def inBoth (xs ys : List Row) : List Row := xs.flatMap fun r => bothL r ys
theorem both_one {r o : Row} {h n : Int} : In (if o.1 = r.1 ∧ max r.2.1 o.2.1 ≤ min r.2.2 o.2.2 then [(r.1, max r.2.1 o.2.1, min r.2.2 o.2.2)] else []) h n ↔ (r.1 = h ∧ r.2.1 ≤ n ∧ n ≤ r.2.2) ∧ (o.1 = h ∧ o.2.1 ≤ n ∧ n ≤ o.2.2) := by
  split
  · rw [in_cons]
    constructor
    · rintro (⟨a, b, c⟩ | z)
      · have a : r.1 = h := a
        have b : max r.2.1 o.2.1 ≤ n := b
        have c : n ≤ min r.2.2 o.2.2 := c
        omega
      · exact absurd z in_nil
    · rintro ⟨⟨a, b, c⟩, d, e, f⟩
      exact .inl ⟨a, show max r.2.1 o.2.1 ≤ n by omega, show n ≤ min r.2.2 o.2.2 by omega⟩
  · exact ⟨fun z => absurd z in_nil, fun ⟨⟨a, b, c⟩, d, e, f⟩ => by omega⟩
theorem bothL_in {r : Row} {ys : List Row} {h n : Int} : In (bothL r ys) h n ↔ (r.1 = h ∧ r.2.1 ≤ n ∧ n ≤ r.2.2) ∧ In ys h n := by
  unfold bothL
  rw [in_flatMap]
  constructor
  · rintro ⟨o, ho, z⟩
    obtain ⟨a, b⟩ := both_one.mp z
    exact ⟨a, o, ho, b⟩
  · rintro ⟨a, o, ho, b⟩
    exact ⟨o, ho, both_one.mpr ⟨a, b⟩⟩
theorem bothL_ok {r : Row} {ys : List Row} (cy : Canon ys) : Canon (bothL r ys) ∧ ∀ q ∈ bothL r ys, q.1 = r.1 ∧ r.2.1 ≤ q.2.1 ∧ q.2.2 ≤ r.2.2 := by
  have key : ∀ (o : Row), ∀ q ∈ (if o.1 = r.1 ∧ max r.2.1 o.2.1 ≤ min r.2.2 o.2.2 then [(r.1, max r.2.1 o.2.1, min r.2.2 o.2.2)] else [] : List Row), q = (r.1, max r.2.1 o.2.1, min r.2.2 o.2.2) ∧ o.1 = r.1 ∧ max r.2.1 o.2.1 ≤ min r.2.2 o.2.2 := fun o q hq => by
    split at hq
    · next c => exact ⟨by simpa using hq, c⟩
    · simp at hq
  refine ⟨canon_flatMap cy fun o ho => ⟨?_, fun q hq => ?_⟩, fun q hq => ?_⟩
  · split
    · next c => exact canon_cons.mpr ⟨c.2, fun q hq => by simp at hq, canon_nil⟩
    · exact canon_nil
  · obtain ⟨e, a, b⟩ := key o q hq
    rw [e]
    exact ⟨a.symm, show o.2.1 ≤ max r.2.1 o.2.1 by omega, show min r.2.2 o.2.2 ≤ o.2.2 by omega⟩
  · obtain ⟨o, ho, hq⟩ := List.mem_flatMap.mp hq
    obtain ⟨e, a, b⟩ := key o q hq
    rw [e]
    exact ⟨rfl, show r.2.1 ≤ max r.2.1 o.2.1 by omega, show min r.2.2 o.2.2 ≤ r.2.2 by omega⟩
theorem inBoth_ok {xs ys : List Row} (cx : Canon xs) (cy : Canon ys) : Canon (inBoth xs ys) ∧ ∀ h n, In (inBoth xs ys) h n ↔ In xs h n ∧ In ys h n := by
  refine ⟨canon_flatMap cx fun r hr => bothL_ok cy, fun h n => ?_⟩
  unfold inBoth
  rw [in_flatMap]
  constructor
  · rintro ⟨r, hr, z⟩
    obtain ⟨a, b⟩ := bothL_in.mp z
    exact ⟨⟨r, hr, a⟩, b⟩
  · rintro ⟨⟨r, hr, a⟩, b⟩
    exact ⟨r, hr, bothL_in.mpr ⟨a, b⟩⟩
end St

/-! ### held by so many; how many -/
namespace St
/-- turns: house, number, one more or one less -/
abbrev Turn := Int × Int × Int
def wt (h n : Int) (t : Turn) : Int := if t.1 = h ∧ t.2.1 ≤ n then t.2.2 else 0
def wtH (h : Int) (t : Turn) : Int := if t.1 = h then t.2.2 else 0
def W (T : List Turn) (h n : Int) : Int := (T.map (wt h n)).sum
def Tot (T : List Turn) (h : Int) : Int := (T.map (wtH h)).sum
theorem W_cons {t : Turn} {T : List Turn} {h n : Int} : W (t :: T) h n = wt h n t + W T h n := by simp [W]
theorem Tot_cons {t : Turn} {T : List Turn} {h : Int} : Tot (t :: T) h = wtH h t + Tot T h := by simp [Tot]
theorem W_zero {h n : Int} : ∀ {T : List Turn}, (∀ t ∈ T, t.1 = h → n < t.2.1) → W T h n = 0
  | [], _ => rfl
  | t :: T, k => by
    rw [W_cons, W_zero fun q hq => k q (List.mem_cons_of_mem _ hq)]
    have := k t List.mem_cons_self
    unfold wt
    rw [if_neg (fun z => by have := this z.1; omega)]
    rfl
theorem Tot_zero {h : Int} : ∀ {T : List Turn}, (∀ t ∈ T, t.1 ≠ h) → Tot T h = 0
  | [], _ => rfl
  | t :: T, k => by
    rw [Tot_cons, Tot_zero fun q hq => k q (List.mem_cons_of_mem _ hq)]
    unfold wtH
    rw [if_neg (k t List.mem_cons_self)]
    rfl
def sweep (least : Int) : Int → Int → List Turn → List Row
  | _, _, [] => []
  | many, begun, t :: ts => (if least ≤ many ∧ begun < t.2.1 then [(t.1, begun, t.2.1 - 1)] else []) ++ sweep least (many + t.2.2) t.2.1 ts
theorem sweep_in {least : Int} (hl : 1 ≤ least) : ∀ (Q : List Turn) (hh many begun : Int), Q.Pairwise Le → (∀ t ∈ Q, hh < t.1 ∨ (hh = t.1 ∧ begun ≤ t.2.1)) → many + Tot Q hh = 0 → (∀ h, h ≠ hh → Tot Q h = 0) →
    ∀ h n, In (sweep least many begun Q) h n ↔ (h = hh ∧ begun ≤ n ∧ least ≤ many + W Q hh n) ∨ (h ≠ hh ∧ least ≤ W Q h n)
  | [], hh, many, begun, _, _, ht, _, h, n => by
    have e : many = 0 := by simpa [Tot] using ht
    constructor
    · intro z
      exact absurd z in_nil
    · rintro (⟨_, _, z⟩ | ⟨_, z⟩)
      · simp [W] at z
        omega
      · simp [W] at z
        omega
  | t :: Q, hh, many, begun, hs, hb, ht, h0, h, n => by
    obtain ⟨s1, s2⟩ := List.pairwise_cons.mp hs
    have hbt := hb t List.mem_cons_self
    unfold sweep
    rw [in_append]
    by_cases c : t.1 = hh
    · -- the same house
      have hb' : ∀ q ∈ Q, t.1 < q.1 ∨ (t.1 = q.1 ∧ t.2.1 ≤ q.2.1) := fun q hq => s1 q hq
      have ht' : many + t.2.2 + Tot Q t.1 = 0 := by
        rw [Tot_cons] at ht
        unfold wtH at ht
        rw [if_pos c] at ht
        rw [c]
        omega
      have h0' : ∀ h, h ≠ t.1 → Tot Q h = 0 := fun h hh' => by
        have := h0 h (by omega)
        rw [Tot_cons] at this
        unfold wtH at this
        rw [if_neg (fun z => hh' z.symm)] at this
        omega
      have ih := sweep_in hl Q t.1 (many + t.2.2) t.2.1 s2 hb' ht' h0' h n
      rw [ih]
      have em : In (if least ≤ many ∧ begun < t.2.1 then [(t.1, begun, t.2.1 - 1)] else []) h n ↔ h = hh ∧ least ≤ many ∧ begun ≤ n ∧ n < t.2.1 := by
        split
        · rw [in_cons]
          constructor
          · rintro (⟨a, b, d⟩ | z)
            · have a : t.1 = h := a
              have b : begun ≤ n := b
              have d : n ≤ t.2.1 - 1 := d
              exact ⟨by omega, by omega, b, by omega⟩
            · exact absurd z in_nil
          · rintro ⟨a, b, d, e⟩
            exact .inl ⟨show t.1 = h by omega, d, show n ≤ t.2.1 - 1 by omega⟩
        · exact ⟨fun z => absurd z in_nil, fun ⟨a, b, d, e⟩ => by omega⟩
      rw [em]
      by_cases e : h = hh
      · subst e
        by_cases l : n < t.2.1
        · have w0 : W (t :: Q) h n = 0 := W_zero fun q hq hq1 => by
            rcases List.mem_cons.mp hq with z | z
            · rw [z]; exact l
            · have := s1 q z
              unfold Le at this
              omega
          rw [w0]
          constructor
          · rintro (⟨_, a, b, _⟩ | ⟨_, a, _⟩ | ⟨a, _⟩)
            · exact .inl ⟨rfl, b, by omega⟩
            · omega
            · exact absurd c.symm a
          · rintro (⟨_, a, b⟩ | ⟨a, _⟩)
            · exact .inl ⟨rfl, by omega, a, l⟩
            · exact absurd rfl a
        · have w1 : W (t :: Q) h n = t.2.2 + W Q h n := by
            rw [W_cons]
            unfold wt
            rw [if_pos ⟨c, by omega⟩]
          rw [w1, c]
          constructor
          · rintro (⟨_, a, b, d⟩ | ⟨_, a, b⟩ | ⟨a, _⟩)
            · omega
            · exact .inl ⟨rfl, by omega, by omega⟩
            · exact absurd rfl a
          · rintro (⟨_, a, b⟩ | ⟨a, _⟩)
            · exact .inr (.inl ⟨rfl, by omega, by omega⟩)
            · exact absurd rfl a
      · have w1 : W (t :: Q) h n = W Q h n := by
          rw [W_cons]
          unfold wt
          rw [if_neg (fun z => e (by omega)), Int.zero_add]
        rw [w1]
        constructor
        · rintro (⟨a, _⟩ | ⟨a, _⟩ | ⟨_, a⟩)
          · exact absurd a e
          · exact absurd (a.trans c) e
          · exact .inr ⟨e, a⟩
        · rintro (⟨a, _⟩ | ⟨_, a⟩)
          · exact absurd a e
          · exact .inr (.inr ⟨fun z => e (z.trans c), a⟩)
    · -- a later house
      have lt : hh < t.1 := by omega
      have all : ∀ q ∈ t :: Q, q.1 ≠ hh := fun q hq => by
        rcases List.mem_cons.mp hq with z | z
        · rw [z]; exact c
        · have := s1 q z
          unfold Le at this
          omega
      have m0 : many = 0 := by
        rw [Tot_zero all] at ht
        omega
      subst m0
      have ne : ¬ (least ≤ 0 ∧ begun < t.2.1) := by omega
      rw [if_neg ne]
      have hb' : ∀ q ∈ Q, t.1 < q.1 ∨ (t.1 = q.1 ∧ t.2.1 ≤ q.2.1) := fun q hq => s1 q hq
      have ht' : 0 + t.2.2 + Tot Q t.1 = 0 := by
        have := h0 t.1 c
        rw [Tot_cons] at this
        unfold wtH at this
        rw [if_pos rfl] at this
        omega
      have h0' : ∀ h, h ≠ t.1 → Tot Q h = 0 := fun h hh' => by
        by_cases e : h = hh
        · rw [e]
          exact Tot_zero fun q hq => all q (List.mem_cons_of_mem _ hq)
        · have := h0 h e
          rw [Tot_cons] at this
          unfold wtH at this
          rw [if_neg (fun z => hh' z.symm)] at this
          omega
      have ih := sweep_in hl Q t.1 (0 + t.2.2) t.2.1 s2 hb' ht' h0' h n
      rw [ih]
      have wz : W (t :: Q) hh n = 0 := W_zero fun q hq hq1 => absurd hq1 (all q hq)
      have wz' : W Q hh n = 0 := W_zero fun q hq hq1 => absurd hq1 (all q (List.mem_cons_of_mem _ hq))
      by_cases e : h = t.1
      · subst e
        by_cases l : n < t.2.1
        · have w0 : W (t :: Q) t.1 n = 0 := W_zero fun q hq hq1 => by
            rcases List.mem_cons.mp hq with z | z
            · rw [z]; exact l
            · have := s1 q z
              unfold Le at this
              omega
          rw [w0]
          constructor
          · rintro (z | ⟨_, a, _⟩ | ⟨a, _⟩)
            · exact absurd z in_nil
            · omega
            · exact absurd rfl a
          · rintro (⟨a, _⟩ | ⟨_, a⟩) <;> omega
        · have w1 : W (t :: Q) t.1 n = t.2.2 + W Q t.1 n := by
            rw [W_cons]
            unfold wt
            rw [if_pos ⟨rfl, by omega⟩]
          rw [w1]
          constructor
          · rintro (z | ⟨_, a, b⟩ | ⟨a, _⟩)
            · exact absurd z in_nil
            · exact .inr ⟨c, by omega⟩
            · exact absurd rfl a
          · rintro (⟨a, _⟩ | ⟨_, a⟩)
            · exact absurd a c
            · exact .inr (.inl ⟨rfl, by omega, by omega⟩)
      · have w1 : W (t :: Q) h n = W Q h n := by
          rw [W_cons]
          unfold wt
          rw [if_neg (fun z => e z.1.symm), Int.zero_add]
        rw [w1]
        constructor
        · rintro (z | ⟨a, _⟩ | ⟨_, a⟩)
          · exact absurd z in_nil
          · exact absurd a e
          · by_cases e2 : h = hh
            · rw [e2, wz'] at a
              omega
            · exact .inr ⟨e2, a⟩
        · rintro (⟨a, _, b⟩ | ⟨_, a⟩)
          · rw [wz] at b
            omega
          · exact .inr (.inr ⟨e, a⟩)
/-- the turns of rows -/
def turnsOf (rs : List Row) : List Turn := rs.flatMap fun r => [(r.1, r.2.1, 1), (r.1, r.2.2 + 1, -1)]
theorem W_append {S T : List Turn} {h n : Int} : W (S ++ T) h n = W S h n + W T h n := by simp [W, List.sum_append]
theorem Tot_append {S T : List Turn} {h : Int} : Tot (S ++ T) h = Tot S h + Tot T h := by simp [Tot, List.sum_append]
theorem sum_perm : ∀ {l m : List Int}, l.Perm m → l.sum = m.sum := fun p => by
  induction p with
  | nil => rfl
  | cons x _ ih => simp [ih]
  | swap x y l => simp only [List.sum_cons]; omega
  | trans _ _ h1 h2 => exact h1.trans h2
theorem W_perm {S T : List Turn} (p : S.Perm T) {h n : Int} : W S h n = W T h n := sum_perm (p.map _)
theorem Tot_perm {S T : List Turn} (p : S.Perm T) {h : Int} : Tot S h = Tot T h := sum_perm (p.map _)
theorem turns_tot : ∀ {rs : List Row} {h : Int}, Tot (turnsOf rs) h = 0
  | [], _ => rfl
  | r :: rs, h => by
    show Tot ([(r.1, r.2.1, 1), (r.1, r.2.2 + 1, -1)] ++ turnsOf rs) h = 0
    rw [Tot_append, turns_tot, Tot_cons, Tot_cons]
    unfold wtH
    by_cases c : r.1 = h
    · simp [c, Tot]
    · simp [c, Tot]
open Classical in
/-- one, if it is there -/
noncomputable def one (rs : List Row) (h n : Int) : Int := if In rs h n then 1 else 0
theorem turns_W : ∀ {rs : List Row}, Canon rs → ∀ h n, W (turnsOf rs) h n = one rs h n
  | [], _, h, n => by
    unfold one
    rw [if_neg in_nil]
    rfl
  | r :: rs, c, h, n => by
    obtain ⟨c1, c2, c3⟩ := canon_cons.mp c
    have c1 : r.2.1 ≤ r.2.2 := c1
    show W ([(r.1, r.2.1, 1), (r.1, r.2.2 + 1, -1)] ++ turnsOf rs) h n = _
    rw [W_append, turns_W c3, W_cons, W_cons]
    have e : wt h n (r.1, r.2.1, 1) + (wt h n (r.1, r.2.2 + 1, -1) + W [] h n) = if r.1 = h ∧ r.2.1 ≤ n ∧ n ≤ r.2.2 then 1 else 0 := by
      have w0 : W [] h n = 0 := rfl
      rw [w0]
      unfold wt
      by_cases h1 : r.1 = h
      · by_cases h2 : r.2.1 ≤ n
        · by_cases h3 : n ≤ r.2.2
          · rw [if_pos ⟨h1, h2⟩, if_neg (by show ¬ (r.1 = h ∧ r.2.2 + 1 ≤ n); omega), if_pos ⟨h1, h2, h3⟩]
            rfl
          · rw [if_pos ⟨h1, h2⟩, if_pos (by show r.1 = h ∧ r.2.2 + 1 ≤ n; omega), if_neg (by omega)]
            rfl
        · rw [if_neg (by show ¬ (r.1 = h ∧ r.2.1 ≤ n); omega), if_neg (by show ¬ (r.1 = h ∧ r.2.2 + 1 ≤ n); omega), if_neg (by omega)]
          rfl
      · rw [if_neg (fun z => h1 z.1), if_neg (fun z => h1 z.1), if_neg (fun z => h1 z.1)]
        rfl
    rw [e]
    unfold one
    by_cases z : r.1 = h ∧ r.2.1 ≤ n ∧ n ≤ r.2.2
    · have nz : ¬ In rs h n := fun ⟨q, hq, q1, q2, q3⟩ => by
        rcases c2 q hq with s | ⟨s1, s2⟩ <;> omega
      rw [if_pos z, if_neg nz, if_pos (in_cons.mpr (.inl z))]
      rfl
    · rw [if_neg z]
      by_cases y : In rs h n
      · rw [if_pos y, if_pos (in_cons.mpr (.inr y))]
        rfl
      · rw [if_neg y, if_neg (fun w => (in_cons.mp w).elim z y)]
        rfl
/-- of several sets: in how many it is -/
noncomputable def many (sets : List (List Row)) (h n : Int) : Int := (sets.map fun s => one s h n).sum
def turnsAll (sets : List (List Row)) : List Turn := sets.flatMap turnsOf
theorem all_W : ∀ {sets : List (List Row)}, (∀ s ∈ sets, Canon s) → ∀ h n, W (turnsAll sets) h n = many sets h n
  | [], _, _, _ => rfl
  | s :: sets, c, h, n => by
    show W (turnsOf s ++ turnsAll sets) h n = _
    rw [W_append, turns_W (c s List.mem_cons_self), all_W fun q hq => c q (List.mem_cons_of_mem _ hq)]
    simp [many]
theorem all_tot : ∀ {sets : List (List Row)} {h : Int}, Tot (turnsAll sets) h = 0
  | [], _ => rfl
  | s :: sets, h => by
    show Tot (turnsOf s ++ turnsAll sets) h = 0
    rw [Tot_append, turns_tot, all_tot]
    rfl
theorem low_house : ∀ T : List Turn, ∃ hh : Int, ∀ t ∈ T, hh < t.1
  | [] => ⟨0, fun t h => by simp at h⟩
  | t :: T => by
    obtain ⟨hh, k⟩ := low_house T
    refine ⟨min hh t.1 - 1, fun q hq => ?_⟩
    rcases List.mem_cons.mp hq with z | z
    · rw [z]; omega
    · have := k q z
      omega
theorem sweep_all {least : Int} (hl : 1 ≤ least) {sets : List (List Row)} (c : ∀ s ∈ sets, Canon s) {T : List Turn} (p : T.Perm (turnsAll sets)) (hs : T.Pairwise Le) (h n : Int) : In (sweep least 0 0 T) h n ↔ least ≤ many sets h n := by
  obtain ⟨hh, k⟩ := low_house T
  have tz : ∀ h, Tot T h = 0 := fun h => (Tot_perm p).trans all_tot
  rw [sweep_in hl T hh 0 0 hs (fun t ht => .inl (k t ht)) (by rw [tz]; rfl) (fun h _ => tz h), ← all_W c h n, ← W_perm p]
  constructor
  · rintro (⟨e, _, z⟩ | ⟨_, z⟩)
    · rw [e]
      omega
    · exact z
  · intro z
    by_cases e : h = hh
    · have : W T h n = 0 := W_zero fun t ht h1 => by have := k t ht; omega
      omega
    · exact .inr ⟨e, z⟩
theorem sweep_okr {least : Int} : ∀ {T : List Turn} {m b : Int} {q : Row}, q ∈ sweep least m b T → Ok q
  | [], _, _, q, h => by simp [sweep] at h
  | t :: T, m, b, q, h => by
    unfold sweep at h
    rcases List.mem_append.mp h with z | z
    · split at z
      · have : q = (t.1, b, t.2.1 - 1) := by simpa using z
        rw [this]
        show b ≤ t.2.1 - 1
        omega
      · simp at z
    · exact sweep_okr z
theorem sweep_len {least : Int} : ∀ {T : List Turn} {m b : Int}, (sweep least m b T).length ≤ T.length
  | [], _, _ => Nat.le_refl _
  | t :: T, m, b => by
    unfold sweep
    have := sweep_len (least := least) (T := T) (m := m + t.2.2) (b := t.2.1)
    rw [List.length_append, List.length_cons]
    split
    · simp only [List.length_singleton]; omega
    · simp only [List.length_nil]; omega
end St

/-! ### how many rows; how many numbers; how far -/
namespace St
theorem nodup_len {α : Type} [DecidableEq α] : ∀ {l m : List α}, l.Nodup → (∀ x ∈ l, x ∈ m) → l.length ≤ m.length
  | [], _, _, _ => Nat.zero_le _
  | x :: l, m, hn, h => by
    obtain ⟨h1, h2⟩ := List.nodup_cons.mp hn
    have hx := h x List.mem_cons_self
    have ih := nodup_len (m := m.erase x) h2 fun y hy => (List.mem_erase_of_ne (fun e => h1 (by rw [← e]; exact hy))).mpr (h y (List.mem_cons_of_mem _ hy))
    rw [List.length_erase_of_mem hx] at ih
    have : 0 < m.length := List.length_pos_of_mem hx
    rw [List.length_cons]
    omega
def starts (z : List Row) : List (Int × Int) := z.map fun r => (r.1, r.2.1)
def ends (z : List Row) : List (Int × Int) := z.map fun r => (r.1, r.2.2 + 1)
theorem starts_nodup : ∀ {z : List Row}, Canon z → (starts z).Nodup
  | [], _ => List.nodup_nil
  | r :: z, c => by
    obtain ⟨c1, c2, c3⟩ := canon_cons.mp c
    refine List.nodup_cons.mpr ⟨fun hm => ?_, starts_nodup c3⟩
    obtain ⟨q, hq, e⟩ := List.mem_map.mp hm
    have c1 : r.2.1 ≤ r.2.2 := c1
    have e1 : q.1 = r.1 := congrArg (fun p : Int × Int => p.1) e
    have e2 : q.2.1 = r.2.1 := congrArg (fun p : Int × Int => p.2) e
    rcases c2 q hq with s | ⟨s1, s2⟩ <;> omega
theorem in_row {z : List Row} {r : Row} (hr : r ∈ z) {n : Int} (h1 : r.2.1 ≤ n) (h2 : n ≤ r.2.2) : In z r.1 n := ⟨r, hr, rfl, h1, h2⟩
theorem canon_before : ∀ {z : List Row}, Canon z → ∀ r ∈ z, ¬ In z r.1 (r.2.1 - 1)
  | [], _, r, hr => by simp at hr
  | x :: z, c, r, hr => by
    obtain ⟨c1, c2, c3⟩ := canon_cons.mp c
    have c1 : x.2.1 ≤ x.2.2 := c1
    intro i
    rcases List.mem_cons.mp hr with e | e
    · subst e
      rcases in_cons.mp i with ⟨_, a, _⟩ | ⟨q, hq, a, b, d⟩
      · omega
      · rcases c2 q hq with s | ⟨s1, s2⟩ <;> omega
    · rcases in_cons.mp i with ⟨a, b, d⟩ | i
      · rcases c2 r e with s | ⟨s1, s2⟩ <;> omega
      · exact canon_before c3 r e i
theorem canon_after : ∀ {z : List Row}, Canon z → ∀ r ∈ z, ¬ In z r.1 (r.2.2 + 1)
  | [], _, r, hr => by simp at hr
  | x :: z, c, r, hr => by
    obtain ⟨c1, c2, c3⟩ := canon_cons.mp c
    have c1 : x.2.1 ≤ x.2.2 := c1
    intro i
    rcases List.mem_cons.mp hr with e | e
    · subst e
      exact in_next c i
    · rcases in_cons.mp i with ⟨a, b, d⟩ | i
      · have : r.2.1 ≤ r.2.2 := c3.1 r e
        rcases c2 r e with s | ⟨s1, s2⟩ <;> omega
      · exact canon_after c3 r e i
theorem canon_size {z : List Row} (c : Canon z) {L : List (Int × Int)} (h : ∀ h n, In z h n → ¬ In z h (n - 1) → (h, n) ∈ L) : z.length ≤ L.length := by
  have := nodup_len (m := L) (starts_nodup c) fun x hx => by
    obtain ⟨r, hr, e⟩ := List.mem_map.mp hx
    rw [← e]
    exact h _ _ (in_row hr (Int.le_refl _) (c.1 r hr)) (canon_before c r hr)
  unfold starts at this
  rwa [List.length_map] at this
theorem start_mem {z : List Row} {h n : Int} (i : In z h n) (j : ¬ In z h (n - 1)) : (h, n) ∈ starts z := by
  obtain ⟨r, hr, a, b, d⟩ := i
  by_cases e : r.2.1 = n
  · exact List.mem_map.mpr ⟨r, hr, by rw [a, e]⟩
  · exact absurd ⟨r, hr, a, by omega, by omega⟩ j
theorem end_mem {z : List Row} {h n : Int} (i : In z h (n - 1)) (j : ¬ In z h n) : (h, n) ∈ ends z := by
  obtain ⟨r, hr, a, b, d⟩ := i
  by_cases e : r.2.2 + 1 = n
  · exact List.mem_map.mpr ⟨r, hr, by rw [a, e]⟩
  · exact absurd ⟨r, hr, a, by omega, by omega⟩ j
theorem both_len {xs ys z : List Row} (c : Canon z) (e : ∀ h n, In z h n ↔ In xs h n ∧ In ys h n) : z.length ≤ xs.length + ys.length := by
  have := canon_size c (L := starts xs ++ starts ys) fun h n i j => by
    obtain ⟨i1, i2⟩ := (e h n).mp i
    by_cases k : In xs h (n - 1)
    · exact List.mem_append_right _ (start_mem i2 fun k2 => j ((e _ _).mpr ⟨k, k2⟩))
    · exact List.mem_append_left _ (start_mem i1 k)
  simpa [starts] using this
theorem cut_len {xs ys z : List Row} (c : Canon z) (e : ∀ h n, In z h n ↔ In xs h n ∧ ¬ In ys h n) : z.length ≤ xs.length + ys.length := by
  have := canon_size c (L := starts xs ++ ends ys) fun h n i j => by
    obtain ⟨i1, i2⟩ := (e h n).mp i
    by_cases k : In xs h (n - 1)
    · refine List.mem_append_right _ (end_mem ?_ i2)
      exact Classical.byContradiction fun k2 => j ((e _ _).mpr ⟨k, k2⟩)
    · exact List.mem_append_left _ (start_mem i1 k)
  simpa [starts, ends] using this
/-! amounts -/
def cntR (rs : List Row) : Int := (rs.map fun r => r.2.2 - r.2.1 + 1).sum
/-- the sum of f below N -/
def sumTo (f : Nat → Int) : Nat → Int
  | 0 => 0
  | n + 1 => sumTo f n + f n
theorem sumTo_congr {f g : Nat → Int} : ∀ {N : Nat}, (∀ n, n < N → f n = g n) → sumTo f N = sumTo g N
  | 0, _ => rfl
  | N + 1, h => by
    unfold sumTo
    rw [sumTo_congr fun n hn => h n (by omega), h N (by omega)]
theorem sumTo_add {f g : Nat → Int} : ∀ {N : Nat}, sumTo (fun n => f n + g n) N = sumTo f N + sumTo g N
  | 0 => rfl
  | N + 1 => by
    unfold sumTo
    rw [sumTo_add]
    omega
theorem sumTo_zero : ∀ {N : Nat}, sumTo (fun _ => 0) N = 0
  | 0 => rfl
  | N + 1 => by
    unfold sumTo
    rw [sumTo_zero]
    rfl
theorem sumTo_iv {a b : Int} (h0 : 0 ≤ a) (h : a ≤ b + 1) : ∀ N : Nat, sumTo (fun n => if a ≤ (n : Int) ∧ (n : Int) ≤ b then 1 else 0) N = min (b + 1) N - min a N
  | 0 => by
    unfold sumTo
    omega
  | N + 1 => by
    unfold sumTo
    rw [sumTo_iv h0 h N]
    split <;> omega
theorem sumTo_pt {k : Int} {L : Int} (h0 : 0 ≤ k) : ∀ N : Nat, sumTo (fun n => if k = (n : Int) then L else 0) N = if k < (N : Int) then L else 0
  | 0 => by
    unfold sumTo
    rw [if_neg (by omega)]
  | N + 1 => by
    unfold sumTo
    rw [sumTo_pt h0 N]
    by_cases c : k < (N : Int)
    · rw [if_pos c, if_neg (by omega), if_pos (by omega)]
      omega
    · rw [if_neg c]
      by_cases d : k = (N : Int)
      · rw [if_pos d, if_pos (by omega)]
        omega
      · rw [if_neg d, if_neg (by omega)]
        rfl
/-- over the houses and the numbers -/
def total (f : Int → Int → Int) (H N : Nat) : Int := sumTo (fun h => sumTo (fun n => f h n) N) H
theorem total_add {f g : Int → Int → Int} {H N : Nat} : total (fun h n => f h n + g h n) H N = total f H N + total g H N := by
  unfold total
  rw [← sumTo_add]
  exact sumTo_congr fun h _ => sumTo_add
theorem total_congr {f g : Int → Int → Int} {H N : Nat} (e : ∀ h n, f h n = g h n) : total f H N = total g H N := by
  unfold total
  exact sumTo_congr fun h _ => sumTo_congr fun n _ => e h n
def inR (r : Row) (h n : Int) : Int := if r.1 = h ∧ r.2.1 ≤ n ∧ n ≤ r.2.2 then 1 else 0
theorem total_row {r : Row} {H N : Nat} (h0 : 0 ≤ r.1) (h1 : r.1 < H) (h2 : 0 ≤ r.2.1) (h3 : r.2.1 ≤ r.2.2) (h4 : r.2.2 < N) : total (inR r) H N = r.2.2 - r.2.1 + 1 := by
  unfold total
  have e : ∀ h, h < H → sumTo (fun n => inR r (h : Int) (n : Int)) N = if r.1 = (h : Int) then r.2.2 - r.2.1 + 1 else 0 := fun h _ => by
    by_cases c : r.1 = (h : Int)
    · rw [if_pos c]
      have : ∀ n, n < N → inR r (h : Int) (n : Int) = if r.2.1 ≤ (n : Int) ∧ (n : Int) ≤ r.2.2 then 1 else 0 := fun n _ => by
        unfold inR
        by_cases d : r.2.1 ≤ (n : Int) ∧ (n : Int) ≤ r.2.2
        · rw [if_pos ⟨c, d⟩, if_pos d]
        · rw [if_neg (fun z => d z.2), if_neg d]
      rw [sumTo_congr this, sumTo_iv h2 (by omega)]
      omega
    · rw [if_neg c]
      have : ∀ n, n < N → inR r (h : Int) (n : Int) = 0 := fun n _ => by
        unfold inR
        rw [if_neg (fun z => c z.1)]
      rw [sumTo_congr this]
      exact sumTo_zero
  rw [sumTo_congr e, sumTo_pt h0, if_pos h1]
theorem one_cons {r : Row} {rs : List Row} (c : Canon (r :: rs)) (h n : Int) : one (r :: rs) h n = inR r h n + one rs h n := by
  obtain ⟨c1, c2, c3⟩ := canon_cons.mp c
  have c1 : r.2.1 ≤ r.2.2 := c1
  unfold one inR
  by_cases z : r.1 = h ∧ r.2.1 ≤ n ∧ n ≤ r.2.2
  · have nz : ¬ In rs h n := fun ⟨q, hq, q1, q2, q3⟩ => by
      rcases c2 q hq with s | ⟨s1, s2⟩ <;> omega
    rw [if_pos z, if_neg nz, if_pos (in_cons.mpr (.inl z))]
    rfl
  · rw [if_neg z]
    by_cases y : In rs h n
    · rw [if_pos y, if_pos (in_cons.mpr (.inr y))]
      rfl
    · rw [if_neg y, if_neg (fun w => (in_cons.mp w).elim z y)]
      rfl
theorem cnt_total {H N : Nat} : ∀ {z : List Row}, Canon z → (∀ h n, In z h n → 0 ≤ h ∧ h < H ∧ 0 ≤ n ∧ n < N) → cntR z = total (one z) H N
  | [], _, _ => by
    have : ∀ h n, one [] h n = 0 := fun h n => by
      unfold one
      rw [if_neg in_nil]
    rw [total_congr this]
    unfold total
    have e : ∀ h, h < H → sumTo (fun _ => (0 : Int)) N = 0 := fun _ _ => sumTo_zero
    rw [sumTo_congr e, sumTo_zero]
    rfl
  | r :: z, c, hb => by
    obtain ⟨c1, c2, c3⟩ := canon_cons.mp c
    have c1 : r.2.1 ≤ r.2.2 := c1
    have b1 := hb r.1 r.2.1 (in_cons.mpr (.inl ⟨rfl, Int.le_refl _, c1⟩))
    have b2 := hb r.1 r.2.2 (in_cons.mpr (.inl ⟨rfl, c1, Int.le_refl _⟩))
    rw [total_congr (one_cons c), total_add, ← cnt_total c3 fun h n i => hb h n (in_cons.mpr (.inr i)), total_row b1.1 b1.2.1 b1.2.2.1 c1 b2.2.2.2]
    simp [cntR]
open Classical in
theorem one_or {x y j b : List Row} {h n : Int} (e1 : In j h n ↔ In x h n ∨ In y h n) (e2 : In b h n ↔ In x h n ∧ In y h n) : one x h n + one y h n = one j h n + one b h n := by
  unfold one
  by_cases p : In x h n <;> by_cases q : In y h n <;> simp [e1, e2, p, q]
open Classical in
theorem one_less {x y l b : List Row} {h n : Int} (e1 : In l h n ↔ In x h n ∧ ¬ In y h n) (e2 : In b h n ↔ In x h n ∧ In y h n) : one l h n + one b h n = one x h n := by
  unfold one
  by_cases p : In x h n <;> by_cases q : In y h n <;> simp [e1, e2, p, q]
/-- from 1 on, how far -/
def reachR : List Row → Int → Int
  | [], _ => 0
  | r :: rs, h => if r.1 = h ∧ r.2.1 = 1 then r.2.2 else reachR rs h
theorem reach_cases : ∀ (z : List Row) (h : Int), (∃ r ∈ z, r.1 = h ∧ r.2.1 = 1 ∧ reachR z h = r.2.2) ∨ (reachR z h = 0 ∧ ∀ r ∈ z, r.1 = h → r.2.1 ≠ 1)
  | [], h => .inr ⟨rfl, fun r hr => by simp at hr⟩
  | x :: z, h => by
    unfold reachR
    split
    · next c => exact .inl ⟨x, List.mem_cons_self, c.1, c.2, rfl⟩
    · next c =>
      rcases reach_cases z h with ⟨r, hr, a, b, d⟩ | ⟨a, b⟩
      · exact .inl ⟨r, List.mem_cons_of_mem _ hr, a, b, d⟩
      · refine .inr ⟨a, fun r hr e => ?_⟩
        rcases List.mem_cons.mp hr with k | k
        · subst k
          exact fun e2 => c ⟨e, e2⟩
        · exact b r k e
theorem reach_spec {z : List Row} (c : Canon z) (hp : ∀ h n, In z h n → 1 ≤ n) (h : Int) : 0 ≤ reachR z h ∧ (∀ n, 1 ≤ n → n ≤ reachR z h → In z h n) ∧ ¬ In z h (reachR z h + 1) := by
  rcases reach_cases z h with ⟨r, hr, a, b, d⟩ | ⟨a, b⟩
  · have o : r.2.1 ≤ r.2.2 := c.1 r hr
    rw [d]
    exact ⟨by omega, fun n h1 h2 => ⟨r, hr, a, by omega, h2⟩, a ▸ canon_after c r hr⟩
  · rw [a]
    refine ⟨Int.le_refl _, fun n h1 h2 => by omega, fun ⟨r, hr, e1, e2, e3⟩ => ?_⟩
    have := hp r.1 r.2.1 (in_row hr (Int.le_refl _) (c.1 r hr))
    exact b r hr e1 (by omega)
/-- the last of each house -/
theorem many3_1 {a b c : List Row} {h n : Int} : 1 ≤ many [a, b, c] h n ↔ In a h n ∨ In b h n ∨ In c h n := by
  unfold many one
  by_cases p : In a h n <;> by_cases q : In b h n <;> by_cases r : In c h n <;> simp [p, q, r]
theorem many3_2 {a b c : List Row} {h n : Int} : 2 ≤ many [a, b, c] h n ↔ (In a h n ∧ In b h n) ∨ (In a h n ∧ In c h n) ∨ (In b h n ∧ In c h n) := by
  unfold many one
  by_cases p : In a h n <;> by_cases q : In b h n <;> by_cases r : In c h n <;> simp [p, q, r]
theorem many3_3 {a b c : List Row} {h n : Int} : 3 ≤ many [a, b, c] h n ↔ In a h n ∧ In b h n ∧ In c h n := by
  unfold many one
  by_cases p : In a h n <;> by_cases q : In b h n <;> by_cases r : In c h n <;> simp [p, q, r]
end St

/-! ### rows: what is refused, merged -/
namespace Law
open PySem L2 DL
abbrev rsD (rs : List Row) : D := .lst (rs.map rowD)
def Good (r : Row) : Prop := 0 ≤ r.1 ∧ r.1 < 8 ∧ 1 ≤ r.2.1 ∧ r.2.1 ≤ r.2.2 ∧ r.2.2 ≤ 1000000000000
theorem is_row_ok {r : Row} {μ : Store} (g : Good r) : m_is_row [rowD r] μ = .ok (.sh (.bl true)) μ := by
  obtain ⟨h, a, b⟩ := r
  obtain ⟨g1, g2, g3, g4, g5⟩ := g
  simp only at g1 g2 g3 g4 g5
  simp [m_is_row, b_is_row, g1, g2, g3, g4, g5]
def merged (rs : List Row) : List Row := St.mergeS (sortR rs)
theorem fNe_snoc_nil (rs : List Row) (r : Row) : fNe (.ob (.lst (rs.map rowD ++ [rowD r]))) (.ob (.lst [])) = some (.sh (.bl true)) := by
  have : rs.map rowD ++ [rowD r] = (rs ++ [r]).map rowD := by rw [List.map_append]; rfl
  rw [this, fNe_rows_nil]
  simp
theorem merged_turn {s0 : Sl} {rs : List Row} {l r : Row} {μ : Store} (hl : rs.length + 1 < 16777216) : b_merged_1 [s0, .own (.lst (rs.map rowD ++ [rowD l])), .sh (.int r.1), .sh (.int r.2.1), .sh (.int r.2.2)] μ =
    if l.1 = r.1 ∧ r.2.1 ≤ l.2.2 + 1 then .ok (.nx, [s0, .own (.lst (rs.map rowD ++ [rowD (l.1, l.2.1, max l.2.2 r.2.2)])), .sh (.int r.1), .sh (.int r.2.1), .sh (.int r.2.2)]) μ
    else .ok (.nx, [s0, .own (.lst (rs.map rowD ++ [rowD l] ++ [rowD r])), .sh (.int r.1), .sh (.int r.2.1), .sh (.int r.2.2)]) μ := by
  obtain ⟨lh, la, lb⟩ := l
  obtain ⟨h, a, b⟩ := r
  have e0 := fNe_snoc_nil rs (lh, la, lb)
  simp only [rowD_mk] at e0 ⊢
  by_cases c1 : lh = h
  · subst c1
    by_cases c2 : a ≤ lb + 1
    · simp [b_merged_1, e0, c2]
    · simp [b_merged_1, e0, c2, hl]
  · simp [b_merged_1, e0, c1, hl]
theorem merged_loop : ∀ (qs : List Row) (rs : List Row) (l : Row) (s0 s2 s3 s4 : Sl) (μ : Store), rs.length + qs.length + 1 < 16777216 → ∃ t2 t3 t4, forL (gT [2, 3, 4]) b_merged_1 (qs.map rowD) [s0, .own (.lst (rs.map rowD ++ [rowD l])), s2, s3, s4] μ = .ok (.nx, [s0, .own (.lst ((rs ++ St.mergeR l qs).map rowD)), t2, t3, t4]) μ
  | [], rs, l, s0, s2, s3, s4, μ, _ => ⟨s2, s3, s4, by simp [forL, St.mergeR]⟩
  | q :: qs, rs, l, s0, s2, s3, s4, μ, hl => by
    simp only [List.length_cons] at hl
    rw [List.map_cons, forL]
    have e : gT [2, 3, 4] (rowD q) [s0, .own (.lst (rs.map rowD ++ [rowD l])), s2, s3, s4] = some [s0, .own (.lst (rs.map rowD ++ [rowD l])), .sh (.int q.1), .sh (.int q.2.1), .sh (.int q.2.2)] := rfl
    rw [e]
    dsimp only
    rw [merged_turn (by omega), St.mergeR]
    split
    · rw [loopR_nx]
      exact merged_loop qs rs _ s0 _ _ _ μ (by omega)
    · rw [loopR_nx]
      obtain ⟨t2, t3, t4, h⟩ := merged_loop qs (rs ++ [l]) q s0 (.sh (.int q.1)) (.sh (.int q.2.1)) (.sh (.int q.2.2)) μ (by simp only [List.length_append, List.length_singleton]; omega)
      rw [List.map_append] at h
      refine ⟨t2, t3, t4, h.trans ?_⟩
      rw [List.append_assoc]
      rfl
theorem sortR_len : ∀ rs : List Row, (sortR rs).length = rs.length
  | [] => rfl
  | r :: rs => by
    have : ∀ (x : Row) (l : List Row), (insR x l).length = l.length + 1 := fun x l => by
      induction l with
      | nil => rfl
      | cons y ys ih =>
        unfold insR
        split
        · rw [List.length_cons, ih, List.length_cons]
        · rfl
    show (insR r (sortR rs)).length = _
    rw [this, sortR_len rs, List.length_cons]
theorem merged_gen {x : D} {w : Vw} {rs : List Row} {μ : Store} (hv : x.vw μ = some w) (hs : fSrtB [w] = some (.own (.lst ((sortR rs).map rowD)))) (hl : rs.length < 16777215) : m_merged [x] μ = .ok (.own (.lst ((merged rs).map rowD))) μ := by
  have h : ∃ t2 t3 t4, forL (gT [2, 3, 4]) b_merged_1 ((sortR rs).map rowD) [.sh x, .own (.lst []), .no, .no, .no] μ = .ok (.nx, [.sh x, .own (.lst ((merged rs).map rowD)), t2, t3, t4]) μ := by
    unfold merged
    have sl := sortR_len rs
    cases hq : sortR rs with
    | nil => exact ⟨.no, .no, .no, rfl⟩
    | cons q qs =>
      rw [hq] at sl
      simp only [List.length_cons] at sl
      obtain ⟨t2, t3, t4, h⟩ := merged_loop qs [] q (.sh x) (.sh (.int q.1)) (.sh (.int q.2.1)) (.sh (.int q.2.2)) μ (by simp only [List.length_nil]; omega)
      refine ⟨t2, t3, t4, ?_⟩
      refine Eq.trans ?_ h
      rw [List.map_cons, forL]
      have e : gT [2, 3, 4] (rowD q) [.sh x, .own (.lst []), .no, .no, .no] = some [.sh x, .own (.lst []), .sh (.int q.1), .sh (.int q.2.1), .sh (.int q.2.2)] := rfl
      rw [e]
      have e0 : fNe (.ob (.lst [])) (.ob (.lst [])) = some (.sh (.bl false)) := fNe_rows [] []
      obtain ⟨qh, qa, qb⟩ := q
      simp [b_merged_1, e0]
  obtain ⟨t2, t3, t4, h⟩ := h
  simp [m_merged, b_merged, hv, hs, h, List.replicate]
theorem merged_ok {rs : List Row} {μ : Store} (hl : rs.length < 16777215) : m_merged [rsD rs] μ = .ok (.own (.lst ((merged rs).map rowD))) μ := merged_gen rfl (fSorted_rows rs) hl
theorem merged_ok_t {rs : List Row} {μ : Store} (hl : rs.length < 16777215) : m_merged [.tup (rs.map rowD)] μ = .ok (.own (.lst ((merged rs).map rowD))) μ := merged_gen rfl (fSrtB_rows rs) hl
end Law

/-! ### the sets' defs as sets -/
namespace Law
open PySem L2 DL
theorem insR_perm (x : Row) : ∀ l : List Row, (insR x l).Perm (x :: l)
  | [] => List.Perm.refl _
  | y :: ys => by
    unfold insR
    split
    · exact ((insR_perm x ys).cons y).trans (List.Perm.swap x y ys)
    · exact List.Perm.refl _
theorem sortR_perm : ∀ l : List Row, (sortR l).Perm l
  | [] => List.Perm.refl _
  | x :: xs => (insR_perm x (sortR xs)).trans ((sortR_perm xs).cons x)
theorem rowLt_t {y x : Row} (h : rowLt y x = true) : St.Le y x := by
  obtain ⟨a, b, c⟩ := y
  obtain ⟨a', b', c'⟩ := x
  have h : (if a = a' then (if b = b' then (if c = c' then false else decide (c < c')) else decide (b < b')) else decide (a < a')) = true := h
  unfold St.Le
  show a < a' ∨ (a = a' ∧ b ≤ b')
  split at h
  · split at h
    · omega
    · have := of_decide_eq_true h
      omega
  · have := of_decide_eq_true h
    omega
theorem rowLt_f {y x : Row} (h : ¬ rowLt y x = true) : St.Le x y := by
  obtain ⟨a, b, c⟩ := y
  obtain ⟨a', b', c'⟩ := x
  have h : ¬ (if a = a' then (if b = b' then (if c = c' then false else decide (c < c')) else decide (b < b')) else decide (a < a')) = true := h
  unfold St.Le
  show a' < a ∨ (a' = a ∧ b' ≤ b)
  split at h
  · split at h
    · omega
    · have : ¬ b < b' := fun z => h (decide_eq_true z)
      omega
  · have : ¬ a < a' := fun z => h (decide_eq_true z)
    omega
theorem le_trans {a b c : Row} (h1 : St.Le a b) (h2 : St.Le b c) : St.Le a c := by
  unfold St.Le at *
  omega
theorem insR_sorted {x : Row} : ∀ {l : List Row}, l.Pairwise St.Le → (insR x l).Pairwise St.Le
  | [], _ => List.pairwise_singleton _ _
  | y :: ys, h => by
    obtain ⟨h1, h2⟩ := List.pairwise_cons.mp h
    unfold insR
    split
    · next c =>
      refine List.pairwise_cons.mpr ⟨fun q hq => ?_, insR_sorted h2⟩
      rcases List.mem_cons.mp ((insR_perm x ys).mem_iff.mp hq) with e | e
      · rw [e]; exact rowLt_t c
      · exact h1 q e
    · next c =>
      refine List.pairwise_cons.mpr ⟨fun q hq => ?_, h⟩
      rcases List.mem_cons.mp hq with e | e
      · rw [e]; exact rowLt_f c
      · exact le_trans (rowLt_f c) (h1 q e)
theorem sortR_sorted : ∀ l : List Row, (sortR l).Pairwise St.Le
  | [] => List.Pairwise.nil
  | _ :: xs => insR_sorted (sortR_sorted xs)
theorem merged_spec {rs : List Row} (h : ∀ r ∈ rs, St.Ok r) : St.Canon (merged rs) ∧ ∀ a n, St.In (merged rs) a n ↔ St.In rs a n := by
  obtain ⟨a, b⟩ := St.mergeS_ok (fun r hr => h r ((sortR_perm rs).mem_iff.mp hr)) (sortR_sorted rs)
  exact ⟨a, fun k n => (b k n).trans (St.in_perm (sortR_perm rs))⟩
theorem merged_len (rs : List Row) : (merged rs).length ≤ rs.length := by
  unfold merged
  have := sortR_len rs
  cases e : sortR rs with
  | nil => exact Nat.zero_le _
  | cons q qs =>
    rw [e] at this
    show (St.mergeR q qs).length ≤ _
    have l := St.mergeR_len qs q
    simp only [List.length_cons] at this
    omega
theorem Good.ok {r : Row} (g : Good r) : St.Ok r := g.2.2.2.1
/-- rows that plain takes, at most k -/
structure Fit (k : Nat) (rs : List Row) : Prop where
  good : ∀ r ∈ rs, Good r
  len : rs.length ≤ k
theorem Fit.mono {k l : Nat} {rs : List Row} (f : Fit k rs) (h : k ≤ l) : Fit l rs := ⟨f.good, Nat.le_trans f.len h⟩
theorem Fit.box {k : Nat} {rs : List Row} (f : Fit k rs) {h n : Int} (i : St.In rs h n) : 0 ≤ h ∧ h < 8 ∧ 1 ≤ n ∧ n ≤ 1000000000000 := by
  obtain ⟨r, hr, a, b, c⟩ := i
  have g := f.good r hr
  unfold Good at g
  omega
theorem fit_of {k : Nat} {z : List Row} (c : St.Canon z) (hb : ∀ h n, St.In z h n → 0 ≤ h ∧ h < 8 ∧ 1 ≤ n ∧ n ≤ 1000000000000) (hl : z.length ≤ k) : Fit k z := by
  refine ⟨fun r hr => ?_, hl⟩
  have o : r.2.1 ≤ r.2.2 := c.1 r hr
  have b1 := hb _ _ (St.in_row hr (Int.le_refl _) o)
  have b2 := hb _ _ (St.in_row hr o (Int.le_refl _))
  exact ⟨b1.1, b1.2.1, b1.2.2.1, o, b2.2.2.2⟩
/-- canonical and fitting: what a def gives back -/
structure Set (k : Nat) (z : List Row) : Prop where
  can : St.Canon z
  fit : Fit k z
theorem merged_set {k : Nat} {rs : List Row} (f : Fit k rs) : Set k (merged rs) := by
  obtain ⟨a, b⟩ := merged_spec fun r hr => (f.good r hr).ok
  exact ⟨a, fit_of a (fun h n i => f.box ((b h n).mp i)) (Nat.le_trans (merged_len rs) f.len)⟩
theorem merged_in {k : Nat} {rs : List Row} (f : Fit k rs) (h n : Int) : St.In (merged rs) h n ↔ St.In rs h n := (merged_spec fun r hr => (f.good r hr).ok).2 h n
theorem merged_id {z : List Row} (c : St.Canon z) : merged z = z := by
  obtain ⟨a, b⟩ := merged_spec c.1
  exact St.canon_ext a c b
def joinR (a b : List Row) : List Row := merged (merged a ++ merged b)
def bothR (a b : List Row) : List Row := St.inBoth (merged a) (merged b)
def lessR (a b : List Row) : List Row := St.cutOut (merged a) (merged b)
section
variable {k l : Nat} {a b : List Row}
theorem Fit.app (fa : Fit k a) (fb : Fit l b) : Fit (k + l) (a ++ b) := ⟨fun r hr => (List.mem_append.mp hr).elim (fa.good r) (fb.good r), by rw [List.length_append]; have := fa.len; have := fb.len; omega⟩
theorem join_set (fa : Fit k a) (fb : Fit l b) : Set (k + l) (joinR a b) := merged_set ((merged_set fa).fit.app (merged_set fb).fit)
theorem join_in (fa : Fit k a) (fb : Fit l b) (h n : Int) : St.In (joinR a b) h n ↔ St.In a h n ∨ St.In b h n := by
  unfold joinR
  rw [merged_in ((merged_set fa).fit.app (merged_set fb).fit), St.in_append, merged_in fa, merged_in fb]
theorem both_in (fa : Fit k a) (fb : Fit l b) (h n : Int) : St.In (bothR a b) h n ↔ St.In a h n ∧ St.In b h n := by
  unfold bothR
  rw [(St.inBoth_ok (merged_set fa).can (merged_set fb).can).2, merged_in fa, merged_in fb]
theorem both_set (fa : Fit k a) (fb : Fit l b) : Set (k + l) (bothR a b) := by
  have c := (St.inBoth_ok (merged_set fa).can (merged_set fb).can)
  refine ⟨c.1, fit_of c.1 (fun h n i => fa.box ((both_in fa fb h n).mp i).1) ?_⟩
  have := St.both_len c.1 c.2
  have := (merged_set fa).fit.len
  have := (merged_set fb).fit.len
  unfold bothR
  omega
theorem less_in (fa : Fit k a) (fb : Fit l b) (h n : Int) : St.In (lessR a b) h n ↔ St.In a h n ∧ ¬ St.In b h n := by
  unfold lessR
  rw [(St.cutOut_ok (merged_set fa).can (merged_set fb).can).2, merged_in fa, merged_in fb]
theorem less_set (fa : Fit k a) (fb : Fit l b) : Set (k + l) (lessR a b) := by
  have c := (St.cutOut_ok (merged_set fa).can (merged_set fb).can)
  refine ⟨c.1, fit_of c.1 (fun h n i => fa.box ((less_in fa fb h n).mp i).1) ?_⟩
  have := St.cut_len c.1 c.2
  have := (merged_set fa).fit.len
  have := (merged_set fb).fit.len
  unfold lessR
  omega
theorem small_mul {x y : Nat} (hx : x ≤ 200) (hy : y ≤ 200) : x * (y + 1) < 16777216 :=
  Nat.lt_of_le_of_lt (Nat.mul_le_mul hx (Nat.add_le_add_right hy 1)) (by decide)
end
theorem nil_of {z : List Row} (c : St.Canon z) (h : ∀ a n, ¬ St.In z a n) : z = [] := St.canon_ext c St.canon_nil fun a n => ⟨fun i => absurd i (h a n), fun i => absurd i St.in_nil⟩
end Law

/-! ### texts: numbers, stretches -/
namespace Law
open PySem L2 DL
theorem sok_small {s : Str} (h : ∀ c ∈ TL.tl s, c < 128) : SOk s := by
  unfold SOk SeqAt.shaped
  rw [Bool.and_eq_true]
  refine ⟨?_, decide_eq_true (Nat.zero_le _)⟩
  show PyData.strOk s = true
  unfold PyData.strOk
  rw [← Array.all_toList, List.all_eq_true]
  intro c hc
  have := h c hc
  exact decide_eq_true (by omega)
theorem figs : ("0123456789" : Str).cps.toList = [48, 49, 50, 51, 52, 53, 54, 55, 56, 57] := by decide +kernel
theorem fIn_sign (g : Bool → Bool) (c : Nat) (z : Str) : fIn g (.d (.str ⟨#[c]⟩)) (.d (.str z)) = some (.sh (.bl (g (decide (c ∈ z.cps.toList))))) := rfl
theorem zero_tl : TL.tl ("0" : Str) = [48] := by decide +kernel
theorem nS_small (n : Nat) : ∀ c ∈ TL.tl (nS n), c < 128 := fun c hc => by
  rw [tl_nS] at hc
  have := TL.numL_digits n c hc
  omega
theorem number_of_ok {n : Nat} {μ : Store} (h : n < 10 ^ 13) : m_number_of [.str (nS n)] μ = .ok (.sh (.int n)) μ := by
  have l1 := nS_pos n
  have l2 := nS_len (n := n) (k := 13) (by decide) h
  have fl := fLenB_str (a := nS n) (by omega)
  have lc := lc_fm (enc := fun c : Nat => D.str ⟨#[c]⟩) (g := gN 1) (t := t_number_of_1) (e := e_number_of_1) (ρ := [.sh (.str (nS n)), .no]) (μ := μ) (fun _ => false) (fun c => D.str ⟨#[c]⟩) (TL.tl (nS n)) [] (by rw [← TL.len_tl]; simp; omega) (fun c hc => ⟨_, rfl, by
    rw [tl_nS] at hc
    have hd := TL.numL_digits n c hc
    have hm : c ∈ ("0123456789" : Str).cps.toList := by
      rw [figs]
      simp only [List.mem_cons, List.not_mem_nil, or_false]
      omega
    have := fIn_sign not c "0123456789"
    rw [decide_eq_true hm] at this
    simp [t_number_of_1, this], fun z => by cases z⟩)
  have hf : ((TL.tl (nS n)).filter fun _ => false) = [] := by simp
  rw [hf] at lc
  have lc : lcL (gN 1) t_number_of_1 e_number_of_1 [.sh (.str (nS n)), .no] (chars (nS n)) μ [] = .ok [] μ := lc
  have e0 : fNe (.ob (.lst [])) (.ob (.lst [])) = some (.sh (.bl false)) := fNe_rows [] []
  have fi := fInt_nS (n := n) (by omega)
  have s1 : SOk (nS n) := sok_small (nS_small n)
  have s0 : SOk ("0" : Str) := sok_small (by rw [zero_tl]; simp)
  have fe := fEq_str s1 s0
  have h1 : (1 : Int) ≤ (nS n).length := by omega
  have h2 : ((nS n).length : Int) ≤ 13 := by omega
  by_cases c : n = 0
  · have : nS n = "0" := TL.ext_tl (by rw [tl_nS, zero_tl, c]; exact TL.numL_lt (by omega))
    rw [decide_eq_true this] at fe
    simp [m_number_of, b_number_of, List.replicate, fl, h1, h2, lc, e0, fe, fi]
  · obtain ⟨d, r, e1, e2⟩ := nS_head (n := n) (by omega)
    have ne : nS n ≠ "0" := fun z => by
      have := congrArg TL.tl z
      rw [tl_nS, zero_tl, e1] at this
      exact e2 (List.cons.inj this).1
    rw [decide_eq_false ne] at fe
    have ix : fIx (.d (.str (nS n))) (.d (.int 0)) = some (.sh (.str ⟨#[d]⟩)) := by
      show (if (nS n).length ≤ 16777216 then (atI (nS n).cps.toList 0).map (fun c => Rv.sh (.str ⟨#[c]⟩)) else none) = _
      rw [if_pos (by omega), show (nS n).cps.toList = d :: r from (tl_nS n).trans e1]
      unfold atI ixN
      simp
    have hd : d < 128 := nS_small n d (by rw [tl_nS, e1]; exact List.mem_cons_self)
    have sd : SOk (⟨#[d]⟩ : Str) := sok_small (fun c hc => by rw [show c = d by simpa [TL.tl] using hc]; exact hd)
    have fn := fNe_str sd s0
    have ned : (⟨#[d]⟩ : Str) ≠ "0" := fun z => by
      have := congrArg TL.tl z
      rw [zero_tl] at this
      exact e2 (by simpa [TL.tl] using this)
    rw [decide_eq_false ned] at fn
    simp [m_number_of, b_number_of, List.replicate, fl, h1, h2, lc, e0, fe, ix, fn, fi]
/-! a stretch -/
def itemS (a b : Nat) : Str := if a = b then nS a else nS a ++ ("-" : Str) ++ nS b
theorem dash_tl : TL.tl ("-" : Str) = [45] := by decide +kernel
theorem colon_tl : TL.tl (":" : Str) = [58] := by decide +kernel
theorem comma_tl : TL.tl ("," : Str) = [44] := by decide +kernel
theorem space_tl : TL.tl (" " : Str) = [32] := by decide +kernel
theorem low_all : ("-" : Str).cps.all (· < 256) = true ∧ (":" : Str).cps.all (· < 256) = true ∧ ("," : Str).cps.all (· < 256) = true ∧ (" " : Str).cps.all (· < 256) = true := by decide +kernel
theorem join2 (y a b : Str) : Txt.join y [a, b] = a ++ y ++ b := by
  refine TL.ext_tl ?_
  rw [TL.join_eq, TL.tl_join, TL.tl_append, TL.tl_append]
  show TL.tl a ++ (TL.tl y ++ TL.joinL (TL.tl y) [TL.tl b]) = _
  rw [show TL.joinL (TL.tl y) [TL.tl b] = TL.tl b from rfl, List.append_assoc]
theorem join1 (y a : Str) : Txt.join y [a] = a := by
  refine TL.ext_tl ?_
  rw [TL.join_eq, TL.tl_join]
  rfl
theorem item_split (a b : Nat) : Txt.split (itemS a b) "-" = if a = b then [nS a] else [nS a, nS b] := by
  unfold itemS
  split
  · have := TL.split_join (y := "-") (parts := [nS a]) dash_tl low_all.1 (by simp) (fun p hp => by rw [show p = nS a by simpa using hp]; exact nS_free (by omega))
    rwa [join1] at this
  · have := TL.split_join (y := "-") (parts := [nS a, nS b]) dash_tl low_all.1 (by simp) (fun p hp => by
      simp only [List.mem_cons, List.not_mem_nil, or_false] at hp
      rcases hp with rfl | rfl <;> exact nS_free (by omega))
    rwa [join2] at this
theorem app_len (a b : Str) : (a ++ b).length = a.length + b.length := by
  rw [TL.len_tl, TL.tl_append, List.length_append, ← TL.len_tl, ← TL.len_tl]
theorem lit_len : ("-" : Str).length = 1 ∧ (":" : Str).length = 1 ∧ ("," : Str).length = 1 ∧ (" " : Str).length = 1 := by decide +kernel
theorem item_len {a b : Nat} (ha : a < 10 ^ 13) (hb : b < 10 ^ 13) : (itemS a b).length ≤ 27 := by
  have h1 := nS_len (n := a) (k := 13) (by decide) ha
  have h2 := nS_len (n := b) (k := 13) (by decide) hb
  unfold itemS
  split
  · omega
  · rw [app_len, app_len, lit_len.1]
    omega
theorem stretch_of_ok {a b : Nat} {μ : Store} (h1 : 1 ≤ a) (hab : a ≤ b) (hb : b ≤ 1000000000000) : m_stretch_of [.str (itemS a b)] μ = .ok (.sh (.tup [.int a, .int b])) μ := by
  have il := item_len (a := a) (b := b) (by omega) (by omega)
  have na := number_of_ok (n := a) (μ := μ) (by omega)
  have nb := number_of_ok (n := b) (μ := μ) (by omega)
  have sp := item_split a b
  have nn : ∀ i : Int, fIs id (.d (.int i)) (.d .non) = some (.sh (.bl false)) := fun _ => rfl
  have e0 : fNe (.ob (.lst [])) (.ob (.lst [])) = some (.sh (.bl false)) := fNe_rows [] []
  have i1 : (1 : Int) ≤ a := by omega
  have i2 : (1 : Int) ≤ b := by omega
  have i3 : (a : Int) ≤ 1000000000000 := by omega
  have i4 : (b : Int) ≤ 1000000000000 := by omega
  have ix1 : ∀ x : D, fIx (.ob (.lst [x])) (.d (.int 0)) = some (.sh x) := fun _ => rfl
  have ix2 : ∀ x : D, fIx (.ob (.lst [x])) (.d (.int (-1))) = some (.sh x) := fun _ => rfl
  have ix3 : ∀ x y : D, fIx (.ob (.lst [x, y])) (.d (.int 0)) = some (.sh x) := fun _ _ => rfl
  have ix4 : ∀ x y : D, fIx (.ob (.lst [x, y])) (.d (.int 1)) = some (.sh y) := fun _ _ => rfl
  have ix5 : ∀ x y : D, fIx (.ob (.lst [x, y])) (.d (.int (-1))) = some (.sh y) := fun _ _ => rfl
  by_cases c : a = b
  · subst c
    rw [if_pos rfl] at sp
    have sr := x_splitR (μ := μ) sp (by decide +kernel) (by omega)
    simp [m_stretch_of, b_stretch_of, List.replicate, sr, lcL, e_stretch_of_1, na, t_stretch_of_1, nn, i1, i3, e0, ix1, ix2]
  · rw [if_neg c] at sp
    have sr := x_splitR (μ := μ) sp (by decide +kernel) (by omega)
    have lt : ¬ (b : Int) ≤ a := by omega
    simp [m_stretch_of, b_stretch_of, List.replicate, sr, lcL, e_stretch_of_1, na, nb, t_stretch_of_1, nn, i1, i2, i3, i4, e0, ix3, ix4, ix5, lt]
end Law

/-! ### texts: a house's word, rows read -/
namespace Law
open PySem L2 DL
theorem mem_joinL {S : List Nat} {c : Nat} : ∀ {ps : List (List Nat)}, c ∈ TL.joinL S ps → c ∈ S ∨ ∃ p ∈ ps, c ∈ p
  | [], h => by simp [TL.joinL] at h
  | [p], h => .inr ⟨p, List.mem_cons_self, h⟩
  | p :: q :: r, h => by
    have h : c ∈ p ++ (S ++ TL.joinL S (q :: r)) := h
    rcases List.mem_append.mp h with z | z
    · exact .inr ⟨p, List.mem_cons_self, z⟩
    · rcases List.mem_append.mp z with w | w
      · exact .inl w
      · rcases mem_joinL w with v | ⟨p', hp, v⟩
        · exact .inl v
        · exact .inr ⟨p', List.mem_cons_of_mem _ hp, v⟩
theorem mem_join {y : Str} {c : Nat} {ps : List Str} (h : c ∈ TL.tl (Txt.join y ps)) : c ∈ TL.tl y ∨ ∃ p ∈ ps, c ∈ TL.tl p := by
  rw [TL.join_eq, TL.tl_join] at h
  rcases mem_joinL h with z | ⟨p, hp, z⟩
  · exact .inl z
  · obtain ⟨q, hq, rfl⟩ := List.mem_map.mp hp
    exact .inr ⟨q, hq, z⟩
theorem dig_nS {n c : Nat} (h : c ∈ TL.tl (nS n)) : 48 ≤ c ∧ c ≤ 57 := by
  rw [tl_nS] at h
  have := TL.numL_digits n c h
  omega
theorem mem_item {a b c : Nat} (h : c ∈ TL.tl (itemS a b)) : (48 ≤ c ∧ c ≤ 57) ∨ c = 45 := by
  unfold itemS at h
  split at h
  · exact .inl (dig_nS h)
  · rw [TL.tl_append, TL.tl_append, dash_tl] at h
    rcases List.mem_append.mp h with z | z
    · rcases List.mem_append.mp z with w | w
      · exact .inl (dig_nS w)
      · exact .inr (by simpa using w)
    · exact .inl (dig_nS z)
def itemR (r : Row) : Str := itemS r.2.1.toNat r.2.2.toNat
def itemsS (rs : List Row) : Str := Txt.join "," (rs.map itemR)
def wordS (h : Nat) (rs : List Row) : Str := nS h ++ (":" : Str) ++ itemsS rs
theorem mem_items {rs : List Row} {c : Nat} (h : c ∈ TL.tl (itemsS rs)) : (48 ≤ c ∧ c ≤ 57) ∨ c = 45 ∨ c = 44 := by
  rcases mem_join h with z | ⟨p, hp, z⟩
  · rw [comma_tl] at z
    exact .inr (.inr (by simpa using z))
  · obtain ⟨r, _, rfl⟩ := List.mem_map.mp hp
    rcases mem_item z with w | w
    · exact .inl w
    · exact .inr (.inl w)
theorem mem_word {h : Nat} {rs : List Row} {c : Nat} (hc : c ∈ TL.tl (wordS h rs)) : (48 ≤ c ∧ c ≤ 57) ∨ c = 45 ∨ c = 44 ∨ c = 58 := by
  unfold wordS at hc
  rw [TL.tl_append, TL.tl_append, colon_tl] at hc
  rcases List.mem_append.mp hc with z | z
  · rcases List.mem_append.mp z with w | w
    · exact .inl (dig_nS w)
    · exact .inr (.inr (.inr (by simpa using w)))
  · rcases mem_items z with w | w | w
    · exact .inl w
    · exact .inr (.inl w)
    · exact .inr (.inr (.inl w))
theorem word_split (h : Nat) (rs : List Row) : Txt.split (wordS h rs) ":" = [nS h, itemsS rs] := by
  have := TL.split_join (y := ":") (parts := [nS h, itemsS rs]) colon_tl low_all.2.1 (by simp) (fun p hp => by
    simp only [List.mem_cons, List.not_mem_nil, or_false] at hp
    rcases hp with rfl | rfl
    · exact nS_free (by omega)
    · intro z
      have := mem_items z
      omega)
  rwa [join2] at this
theorem items_split {rs : List Row} (h : rs ≠ []) : Txt.split (itemsS rs) "," = rs.map itemR := TL.split_join (y := ",") comma_tl low_all.2.2.1 (by simpa using h) (fun p hp z => by
  obtain ⟨r, _, rfl⟩ := List.mem_map.mp hp
  have := mem_item z
  omega)
theorem join_len (y : Str) : ∀ ps : List Str, (Txt.join y ps).length ≤ (ps.map (·.length)).sum + ps.length * y.length := by
  intro ps
  rw [TL.len_tl, TL.join_eq, TL.tl_join, TL.len_tl y]
  have : ∀ ps : List Str, (TL.joinL (TL.tl y) (ps.map TL.tl)).length ≤ (ps.map (·.length)).sum + ps.length * (TL.tl y).length := by
    intro ps
    induction ps with
    | nil => simp [TL.joinL]
    | cons p ps ih =>
      cases ps with
      | nil =>
        show (TL.tl p).length ≤ _
        rw [← TL.len_tl]
        simp
      | cons q r =>
        show (TL.tl p ++ (TL.tl y ++ TL.joinL (TL.tl y) ((q :: r).map TL.tl))).length ≤ _
        rw [List.length_append, List.length_append, ← TL.len_tl p]
        have e1 : ((p :: q :: r).map fun x : Str => x.length).sum = p.length + ((q :: r).map fun x : Str => x.length).sum := by simp
        have e2 : (p :: q :: r).length * (TL.tl y).length = (q :: r).length * (TL.tl y).length + (TL.tl y).length := by rw [List.length_cons, Nat.add_mul, Nat.one_mul]
        rw [e1, e2]
        omega
  exact this ps
theorem sum_le {k : Nat} : ∀ {ps : List Str}, (∀ p ∈ ps, p.length ≤ k) → (ps.map (·.length)).sum ≤ ps.length * k
  | [], _ => by simp
  | p :: ps, h => by
    rw [List.map_cons, List.sum_cons, List.length_cons, Nat.add_mul, Nat.one_mul]
    have := h p List.mem_cons_self
    have := sum_le fun q hq => h q (List.mem_cons_of_mem _ hq)
    omega
theorem itemR_len {r : Row} (g : Good r) : (itemR r).length ≤ 27 := by
  obtain ⟨g1, g2, g3, g4, g5⟩ := g
  exact item_len (by omega) (by omega)
theorem items_bound {rs : List Row} (g : ∀ r ∈ rs, Good r) (hl : rs.length ≤ 400) : ((rs.map itemR).map (·.length)).sum + (rs.map itemR).length * ("," : Str).length ≤ 11200 := by
  have := sum_le (k := 27) (ps := rs.map itemR) (fun p hp => by
    obtain ⟨r, hr, rfl⟩ := List.mem_map.mp hp
    exact itemR_len (g r hr))
  rw [List.length_map] at this
  rw [List.length_map, lit_len.2.2.1]
  omega
theorem items_len {rs : List Row} (g : ∀ r ∈ rs, Good r) (hl : rs.length ≤ 400) : (itemsS rs).length ≤ 11200 := Nat.le_trans (join_len _ _) (items_bound g hl)
theorem word_len {h : Nat} {rs : List Row} (hh : h < 8) (g : ∀ r ∈ rs, Good r) (hl : rs.length ≤ 400) : (wordS h rs).length ≤ 11210 := by
  have h1 := nS_len (n := h) (k := 1) (by decide) (by omega)
  have h2 := items_len g hl
  unfold wordS
  rw [app_len, app_len, lit_len.2.1]
  omega
/-- rows of one house, apart from one another -/
structure One (h : Nat) (rs : List Row) : Prop where
  ne : rs ≠ []
  g : ∀ r ∈ rs, Good r
  hh : ∀ r ∈ rs, r.1 = (h : Int)
  ap : rs.Pairwise fun r q => r.2.2 + 1 < q.2.1
  len : rs.length ≤ 400
theorem rows_of_word_ok {h : Nat} {rs : List Row} {μ : Store} (o : One h rs) (h8 : h < 8) : m_rows_of_word [.str (wordS h rs)] μ = .ok (.own (.lst (rs.map rowD))) μ := by
  have wl := word_len h8 o.g o.len
  have il := items_len o.g o.len
  have sp1 := x_splitR (μ := μ) (word_split h rs) (by decide +kernel) (by omega)
  have sp2 := x_splitR (μ := μ) (items_split o.ne) (by decide +kernel) (by omega)
  have nh := number_of_ok (n := h) (μ := μ) (by omega)
  have nn : ∀ i : Int, fIs id (.d (.int i)) (.d .non) = some (.sh (.bl false)) := fun _ => rfl
  have nt : ∀ p, fIs id (.d (.tup p)) (.d .non) = some (.sh (.bl false)) := fun _ => rfl
  have ix3 : ∀ x y : D, fIx (.ob (.lst [x, y])) (.d (.int 0)) = some (.sh x) := fun _ _ => rfl
  have ix4 : ∀ x y : D, fIx (.ob (.lst [x, y])) (.d (.int 1)) = some (.sh y) := fun _ _ => rfl
  have i8 : ¬ (8 : Int) ≤ h := by omega
  refine ok_eq ?_
  unfold m_rows_of_word b_rows_of_word
  simp [List.replicate, sp1, nh, nn, ix3, ix4, i8, sp2, -List.map_map]
  have e0 : (.own (.lst []) : Sl) = .own (.lst (([] : List Row).map rowD)) := rfl
  rw [e0, List.map_map]
  refine okS_for (enc := D.str ∘ itemR) (fun left ρ ν => ∃ (done : List Row) (s0 s1 s4 s5 : Sl), ρ = [s0, s1, .sh (.int (h : Int)), .own (.lst (done.map rowD)), s4, s5] ∧ ν = μ ∧ rs = done ++ left) ?_ ?_ ⟨[], _, _, _, _, rfl, rfl, rfl⟩
  · rintro r left ρ ν N' ⟨done, s0, s1, s4, s5, rfl, rfl, hd⟩ kk
    have hm : r ∈ rs := by rw [hd]; simp
    obtain ⟨g1, g2, g3, g4, g5⟩ := o.g r hm
    have hr := o.hh r hm
    obtain ⟨rh, ra, rb⟩ := r
    simp only at g1 g2 g3 g4 g5 hr
    have st := stretch_of_ok (a := ra.toNat) (b := rb.toNat) (μ := ν) (by omega) (by omega) (by omega)
    have e1 : ((ra.toNat : Nat) : Int) = ra := by omega
    have e2 : ((rb.toNat : Nat) : Int) = rb := by omega
    rw [e1, e2] at st
    have st : m_stretch_of [.str (itemR (rh, ra, rb))] ν = _ := st
    have q := fNe_rows_nil done
    have hl : done.length < 16777216 := by
      have := congrArg List.length hd
      have := o.len
      rw [List.length_append] at *
      omega
    refine ⟨_, rfl, ?_⟩
    have fin : N' [s0, s1, .sh (.int (h : Int)), .own (.lst (done.map rowD ++ [.tup [.int (h : Int), .int ra, .int rb]])), .sh (.str (itemR (rh, ra, rb))), .sh (.tup [.int ra, .int rb])] ν := kk _ _ ⟨done ++ [(rh, ra, rb)], _, _, _, _, by rw [List.map_append, hr]; rfl, rfl, by rw [hd, List.append_assoc]; rfl⟩
    rcases List.eq_nil_or_concat done with z | ⟨pre, l, z⟩
    · subst z
      have q : fNe (.ob (.lst [])) (.ob (.lst [])) = some (.sh (.bl false)) := q
      simp [b_rows_of_word_1, st, nt, q] at fin ⊢
      exact fin
    · rw [List.concat_eq_append] at z
      subst z
      have ap : l.2.2 + 1 < ra := by
        have := o.ap
        rw [hd, List.pairwise_append] at this
        exact this.2.2 l (by simp) (rh, ra, rb) List.mem_cons_self
      obtain ⟨lh, la, lb⟩ := l
      have ap : ¬ ra ≤ lb + 1 := by simp only at ap; omega
      rw [List.map_append] at q fin
      have q : fNe (.ob (.lst (pre.map rowD ++ [rowD (lh, la, lb)]))) (.ob (.lst [])) = some (.sh (.bl true)) := by
        have := fNe_snoc_nil pre (lh, la, lb)
        exact this
      rw [List.length_append] at hl
      simp only [List.length_cons, List.length_nil] at hl
      have hl2 : pre.length + 1 < 16777216 := by omega
      simp at q fin
      simp [b_rows_of_word_1, st, nt, q, ap, hl2]
      exact fin
  · rintro ρ ν ⟨done, s0, s1, s4, s5, rfl, rfl, hd⟩
    rw [List.append_nil] at hd
    simp [hd]
end Law

/-! ### texts: rows read -/
namespace Law
open PySem L2 DL
def extR3 (ρ : Ev) (μ : Store) (o : Op) (d : D) : Option (List D) → Res (Fl × Ev)
  | none => .stk
  | some xs => match d with
    | .lst ys => if xs.length + ys.length ≤ 16777216 then putRes ρ μ o (.lst (xs ++ ys)) else .stk
    | _ => .stk
def extR (a : ME) (ρ : Ev) (μ : Store) (o : Op) : Option (List D) → Res (Fl × Ev)
  | none => .stk
  | some _ => (toD a ρ μ).bind fun d μ2 => extR3 ρ μ2 o d (lstAt ρ μ2 o)
section
variable {ρ : Ev} {μ : Store} {a b : ME} {o : Op} {xs ys : List D}
@[simp] theorem x_mExt : mExt b a ρ μ = (b ρ μ).bind fun o μ1 => extR a ρ μ1 o (lstAt ρ μ1 o) := (rfl)
@[simp] theorem x_extR : extR a ρ μ o (some xs) = (toD a ρ μ).bind fun d μ2 => extR3 ρ μ2 o d (lstAt ρ μ2 o) := (rfl)
@[simp] theorem x_extR3 : extR3 ρ μ o (.lst ys) (some xs) = if xs.length + ys.length ≤ 16777216 then putRes ρ μ o (.lst (xs ++ ys)) else .stk := (rfl)
end
abbrev Grp := Nat × List Row
def wordG (g : Grp) : Str := wordS g.1 g.2
structure GOk (gs : List Grp) : Prop where
  one : ∀ g ∈ gs, One g.1 g.2 ∧ g.1 < 8
  asc : gs.Pairwise fun a b => a.1 < b.1
theorem asc_len : ∀ {l : List Nat} {k : Nat}, l.Pairwise (· < ·) → (∀ x ∈ l, k ≤ x ∧ x < 8) → l.length + k ≤ 8 ∨ l = []
  | [], _, _, _ => .inr rfl
  | x :: l, k, hp, hb => by
    obtain ⟨h1, h2⟩ := List.pairwise_cons.mp hp
    have hx := hb x List.mem_cons_self
    rcases asc_len (k := x + 1) h2 (fun y hy => ⟨h1 y hy, (hb y (List.mem_cons_of_mem _ hy)).2⟩) with z | z
    · left; rw [List.length_cons]; omega
    · left; rw [z]; simp; omega
theorem GOk.len {gs : List Grp} (o : GOk gs) : gs.length ≤ 8 := by
  have h1 : (gs.map (·.1)).Pairwise (· < ·) := by rw [List.pairwise_map]; exact o.asc
  have := asc_len (k := 0) h1 (fun x hx => by
    obtain ⟨g, hg, rfl⟩ := List.mem_map.mp hx
    exact ⟨Nat.zero_le _, (o.one g hg).2⟩)
  rw [List.length_map] at this
  rcases this with z | z
  · omega
  · have : gs = [] := List.map_eq_nil_iff.mp z
    rw [this]; simp
theorem flat_len {gs : List Grp} (h : ∀ g ∈ gs, g.2.length ≤ 400) : (gs.flatMap (·.2)).length ≤ gs.length * 400 := by
  induction gs with
  | nil => simp
  | cons g gs ih =>
    rw [List.flatMap_cons, List.length_append, List.length_cons, Nat.add_mul, Nat.one_mul]
    have := h g List.mem_cons_self
    have := ih fun q hq => h q (List.mem_cons_of_mem _ hq)
    omega
theorem rows_read_ok {gs : List Grp} {k : Int} {μ : Store} (o : GOk gs) : m_rows_read [.lst (gs.map fun g => .str (wordG g)), .int k] μ = .ok (.own (.lst ((gs.flatMap (·.2)).map rowD))) μ := by
  have ol := o.len
  refine ok_eq ?_
  unfold m_rows_read b_rows_read
  simp [List.replicate, enumD_map, -List.map_map]
  have e0 : (.own (.lst []) : Sl) = .own (.lst (([] : List Row).map rowD)) := rfl
  rw [e0]
  refine okS_for (enc := fun p : Grp × Nat => .tup [.int (p.2 : Nat), .str (wordG p.1)]) (fun left ρ ν => ∃ (done : List Grp) (s0 s1 s3 s4 s5 : Sl), ρ = [s0, s1, .own (.lst ((done.flatMap (·.2)).map rowD)), s3, s4, s5] ∧ ν = μ ∧ gs = done ++ left.map (·.1)) ?_ ?_ ⟨[], _, _, _, _, _, rfl, rfl, by rw [List.zipIdx_map_fst]; rfl⟩
  · rintro ⟨g, i⟩ left ρ ν N' ⟨done, s0, s1, s3, s4, s5, rfl, rfl, hd⟩ kk
    rw [List.map_cons] at hd
    have hm : g ∈ gs := by rw [hd]; simp
    obtain ⟨og, g8⟩ := o.one g hm
    have rw_ := rows_of_word_ok (μ := ν) og g8
    have rw_ : m_rows_of_word [.str (wordG g)] ν = _ := rw_
    have nl : ∀ p, fIs id (.ob (.lst p)) (.d .non) = some (.sh (.bl false)) := fun _ => rfl
    have dl := flat_len (gs := done) (fun q hq => ((o.one q (by rw [hd]; exact List.mem_append_left _ hq)).1).len)
    have dn : done.length ≤ 8 := by
      have := congrArg List.length hd
      rw [List.length_append] at this
      omega
    have gl := og.len
    have n1 : (done.flatMap (·.2)).length + g.2.length ≤ 16777216 := by omega
    have q := fNe_rows_nil (done.flatMap (·.2))
    refine ⟨_, rfl, ?_⟩
    have fin : N' [s0, s1, .own (.lst ((done.flatMap (·.2)).map rowD ++ g.2.map rowD)), .sh (.int (i : Nat)), .sh (.str (wordG g)), .sh (.lst (g.2.map rowD))] ν := kk _ _ ⟨done ++ [g], s0, s1, .sh (.int (i : Nat)), .sh (.str (wordG g)), .sh (.lst (g.2.map rowD)), by rw [List.flatMap_append, List.map_append]; simp, rfl, by rw [hd, List.append_assoc]; rfl⟩
    have hlast : ∀ pre l, done.flatMap (·.2) = pre ++ [l] → l.1 < (g.1 : Int) := fun pre l e => by
      have : l ∈ done.flatMap (·.2) := by rw [e]; simp
      obtain ⟨q, hq, hl⟩ := List.mem_flatMap.mp this
      have oq := (o.one q (by rw [hd]; exact List.mem_append_left _ hq)).1
      have as := o.asc
      rw [hd, List.pairwise_append] at as
      have := as.2.2 q hq g List.mem_cons_self
      rw [oq.hh l hl]
      omega
    generalize done.flatMap (·.2) = fl at *
    obtain ⟨r0, rs0, er⟩ : ∃ r0 rs0, g.2 = r0 :: rs0 := by
      cases hg : g.2 with
      | nil => exact absurd hg og.ne
      | cons r0 rs0 => exact ⟨r0, rs0, rfl⟩
    have h0 : r0.1 = (g.1 : Int) := og.hh r0 (by rw [er]; exact List.mem_cons_self)
    rcases List.eq_nil_or_concat fl with z | ⟨pre, l, z⟩
    · subst z
      have q : fNe (.ob (.lst [])) (.ob (.lst [])) = some (.sh (.bl false)) := q
      simp at n1 fin
      simp [b_rows_read_1, rw_, nl, q, n1]
      exact fin
    · rw [List.concat_eq_append] at z
      have hlt := hlast pre l z
      subst z
      obtain ⟨lh, la, lb⟩ := l
      obtain ⟨rh, ra, rb⟩ := r0
      have ix : fIx (.ob (.lst (g.2.map rowD))) (.d (.int 0)) = some (.sh (rowD (rh, ra, rb))) := by
        rw [er]
        exact fIx_at (by omega) (by simp)
      have q := fNe_snoc_nil pre (lh, la, lb)
      have np : ¬ rh ≤ lh := by simp only at hlt h0; omega
      rw [List.length_append] at n1
      simp at n1 fin q
      simp [b_rows_read_1, rw_, nl, q, ix, np, n1]
      exact fin
  · rintro ρ ν ⟨done, s0, s1, s3, s4, s5, rfl, rfl, hd⟩
    rw [List.map_nil, List.append_nil] at hd
    subst hd
    simp
def textG (gs : List Grp) : Str := Txt.join " " (gs.map wordG)
theorem word_ne (g : Grp) : 1 ≤ (wordG g).length := by
  unfold wordG wordS
  rw [app_len, app_len, lit_len.2.1]
  omega
theorem text_split {gs : List Grp} (h : gs ≠ []) : Txt.split (textG gs) " " = gs.map wordG := TL.split_join (y := " ") space_tl low_all.2.2.2 (by simpa using h) (fun p hp z => by
  obtain ⟨g, _, rfl⟩ := List.mem_map.mp hp
  have := mem_word z
  omega)
theorem text_small (gs : List Grp) : ∀ c ∈ TL.tl (textG gs), c < 128 := fun c hc => by
  rcases mem_join hc with z | ⟨p, hp, z⟩
  · rw [space_tl] at z
    rw [show c = 32 by simpa using z]
    omega
  · obtain ⟨g, _, rfl⟩ := List.mem_map.mp hp
    have := mem_word z
    omega
theorem words_bound {gs : List Grp} (o : GOk gs) : ((gs.map wordG).map (·.length)).sum + (gs.map wordG).length * (" " : Str).length ≤ 90000 := by
  have := sum_le (k := 11210) (ps := gs.map wordG) (fun p hp => by
    obtain ⟨g, hg, rfl⟩ := List.mem_map.mp hp
    obtain ⟨og, g8⟩ := o.one g hg
    exact word_len g8 og.g og.len)
  rw [List.length_map] at this
  rw [List.length_map, lit_len.2.2.2]
  have := o.len
  omega
theorem text_len {gs : List Grp} (o : GOk gs) : (textG gs).length ≤ 90000 := Nat.le_trans (join_len _ _) (words_bound o)
theorem empty_tl : TL.tl ("" : Str) = [] := by decide +kernel
theorem text_nil : textG [] = "" := TL.ext_tl (by rw [empty_tl, textG, TL.join_eq, TL.tl_join]; rfl)
theorem text_ne {gs : List Grp} (h : gs ≠ []) : textG gs ≠ "" := fun z => by
  have sp := text_split h
  rw [z] at sp
  cases gs with
  | nil => exact h rfl
  | cons g gs =>
    have e : Txt.split "" (" " : Str) = [("" : Str)] := by decide +kernel
    rw [e] at sp
    have h1 : wordG g = "" := (List.cons.inj sp).1.symm
    have := word_ne g
    rw [h1] at this
    exact absurd this (by decide +kernel)
theorem read_ok {gs : List Grp} {μ : Store} (o : GOk gs) : m_read [.str (textG gs)] μ = .ok (.own (.lst ((gs.flatMap (·.2)).map rowD))) μ := by
  have rr := rows_read_ok (k := 0) (μ := μ) o
  have s1 : SOk (textG gs) := sok_small (text_small gs)
  have s0 : SOk ("" : Str) := sok_small (by rw [empty_tl]; simp)
  have fn := fNe_str s1 s0
  by_cases c : gs = []
  · subst c
    rw [decide_eq_true text_nil] at fn
    have rr : m_rows_read [.lst [], .int 0] μ = _ := rr
    simp [m_read, b_read, List.replicate, fn, rr]
  · rw [decide_eq_false (text_ne c)] at fn
    have sp := x_splitR (μ := μ) (text_split c) (by decide +kernel) (by have := text_len o; omega)
    have rr : m_rows_read [.lst ((gs.map wordG).map .str), .int 0] μ = .ok (.own (.lst ((gs.flatMap (·.2)).map rowD))) μ := by rw [List.map_map]; exact rr
    simp [m_read, b_read, List.replicate, fn, sp, rr, -List.map_map]
end Law

/-! ### texts: houses' groups of rows -/
namespace Law
open PySem L2 DL
def ofH (rs : List Row) (h : Nat) : List Row := rs.filter fun r => decide (r.1 = (h : Int))
def hsOf (rs : List Row) : List Nat := (List.range 8).filter fun h => !decide (ofH rs h = [])
def grpOf (rs : List Row) : List Grp := (hsOf rs).map fun h => (h, ofH rs h)
theorem mem_ofH {rs : List Row} {h : Nat} {r : Row} : r ∈ ofH rs h ↔ r ∈ rs ∧ r.1 = (h : Int) := by
  unfold ofH
  rw [List.mem_filter, decide_eq_true_eq]
theorem mem_hs {rs : List Row} {h : Nat} : h ∈ hsOf rs ↔ h < 8 ∧ ofH rs h ≠ [] := by
  unfold hsOf
  rw [List.mem_filter, List.mem_range]
  simp
theorem hs_asc (rs : List Row) : (hsOf rs).Pairwise (· < ·) := List.Pairwise.filter _ List.pairwise_lt_range
theorem ofH_can {rs : List Row} (c : St.Canon rs) (h : Nat) : St.Canon (ofH rs h) := ⟨fun r hr => c.1 r (mem_ofH.mp hr).1, c.2.filter _⟩
theorem grp_ok {rs : List Row} (c : St.Canon rs) (g : ∀ r ∈ rs, Good r) (hl : rs.length ≤ 400) : GOk (grpOf rs) := by
  refine ⟨fun q hq => ?_, ?_⟩
  · obtain ⟨h, hh, rfl⟩ := List.mem_map.mp hq
    obtain ⟨h8, hne⟩ := mem_hs.mp hh
    refine ⟨⟨hne, fun r hr => g r (mem_ofH.mp hr).1, fun r hr => (mem_ofH.mp hr).2, ?_, Nat.le_trans (List.length_filter_le _ _) hl⟩, h8⟩
    have p := (ofH_can c h).2
    exact p.imp_of_mem fun {a b} ha hb s => by
      have e1 := (mem_ofH.mp ha).2
      have e2 := (mem_ofH.mp hb).2
      rcases s with z | z
      · omega
      · exact z.2
  · unfold grpOf
    rw [List.pairwise_map]
    exact hs_asc rs
theorem grp_flat {rs : List Row} (c : St.Canon rs) (g : ∀ r ∈ rs, Good r) : (grpOf rs).flatMap (·.2) = rs := by
  have e : (grpOf rs).flatMap (·.2) = (hsOf rs).flatMap (ofH rs) := by unfold grpOf; rw [List.flatMap_map]
  rw [e]
  have hc : ∀ hs : List Nat, hs.Pairwise (· < ·) → St.Canon (hs.flatMap (ofH rs)) := by
    intro hs
    induction hs with
    | nil => intro _; exact St.canon_nil
    | cons h hs ih =>
      intro hp
      obtain ⟨h1, h2⟩ := List.pairwise_cons.mp hp
      rw [List.flatMap_cons]
      refine St.canon_append (ofH_can c h) (ih h2) fun r hr q hq => ?_
      obtain ⟨h', hh', hq'⟩ := List.mem_flatMap.mp hq
      have e1 := (mem_ofH.mp hr).2
      have e2 := (mem_ofH.mp hq').2
      have := h1 h' hh'
      exact .inl (by omega)
  refine St.canon_ext (hc _ (hs_asc rs)) c fun a n => ?_
  constructor
  · rintro ⟨r, hr, k⟩
    obtain ⟨h, _, hr'⟩ := List.mem_flatMap.mp hr
    exact ⟨r, (mem_ofH.mp hr').1, k⟩
  · rintro ⟨r, hr, k⟩
    obtain ⟨g1, g2, _⟩ := g r hr
    have hm : r ∈ ofH rs r.1.toNat := mem_ofH.mpr ⟨hr, by omega⟩
    exact ⟨r, List.mem_flatMap.mpr ⟨r.1.toNat, mem_hs.mpr ⟨by omega, fun z => by rw [z] at hm; simp at hm⟩, hm⟩, k⟩
/-! words_of -/
theorem item_of_ok {a b : Int} {μ : Store} (h1 : 1 ≤ a) (h2 : a ≤ b) (h3 : b ≤ 1000000000000) : m_item_of [.int a, .int b] μ = .ok (.sh (.str (itemS a.toNat b.toNat))) μ := by
  have e1 : ((a.toNat : Nat) : Int) = a := by omega
  have e2 : ((b.toNat : Nat) : Int) = b := by omega
  have f1 : fStr [.d (.int a)] = some (.sh (.str (nS a.toNat))) := by
    rw [fStr_int (by omega)]
    unfold nS
    rw [e1]
  have f2 : fStr [.d (.int b)] = some (.sh (.str (nS b.toNat))) := by
    rw [fStr_int (by omega)]
    unfold nS
    rw [e2]
  have l1 := nS_len (n := a.toNat) (k := 13) (by decide) (by omega)
  have l2 := nS_len (n := b.toNat) (k := 13) (by decide) (by omega)
  have a1 := fAdd_str (a := nS a.toNat) (b := "-") (by rw [lit_len.1]; omega)
  have a2 := fAdd_str (a := nS a.toNat ++ ("-" : Str)) (b := nS b.toNat) (by rw [app_len, lit_len.1]; omega)
  by_cases c : a = b
  · subst c
    simp [m_item_of, b_item_of, List.replicate, f1, itemS]
  · have c2 : ¬ a.toNat = b.toNat := by omega
    simp [m_item_of, b_item_of, List.replicate, c, c2, f1, f2, a1, a2, itemS]
end Law

/-! ### texts: words written -/
namespace Law
open PySem L2 DL
def kI (i : Int) : Key := .inl i
theorem kI_inj (a b : Int) (h : kI a = kI b) : a = b := by
  unfold kI at h
  exact Sum.inl.inj h
section
variable {ν : Type} {val : ν → D} {xs : List (Int × ν)}
theorem fSet_kI {h : Int} {v : ν} {d : D} (hd : d = val v) (hl : xs.length < 16777216) : fSet (.dK (dctD kI val xs)) (.int h) d = some (.dK (dctD kI val (putA xs h v))) := by
  subst hd
  show (if (dctD kI val xs).length < 16777216 then some (Ob.dK (putD (dctD kI val xs) (kI h) (val v))) else none) = _
  rw [dctD_len, if_pos hl, dctD_put kI_inj]
theorem fGet_kI {h : Int} : fGet (.ob (.dK (dctD kI val xs))) (.d (.int h)) = some ((getA xs h).map val) := by
  show some (getK (dctD kI val xs) (kI h)) = _
  rw [dctD_get kI_inj]
theorem fIx_kI {h : Int} {v : ν} (e : getA xs h = some v) : fIx (.ob (.dK (dctD kI val xs))) (.d (.int h)) = some (.sh (val v)) := by
  show (match fGet (.ob (.dK (dctD kI val xs))) (.d (.int h)) with | some (some d) => some (Rv.sh d) | _ => none) = _
  rw [fGet_kI, e]
  rfl
theorem keyInts_kI : ∀ ks : List Int, keyInts (ks.map kI) = some ks
  | [] => rfl
  | k :: ks => by
    show (keyInts (ks.map kI)).map (k :: ·) = _
    rw [keyInts_kI ks]
    rfl
theorem fSrt_kI (hl : xs.length < 64) : fSrt [.ob (.dK (dctD kI val xs))] = some (.own (.lst ((sortI (xs.map (·.1))).map .int))) := by
  show ((keyInts ((dctD kI val xs).map (·.1))).bind fun ns => if ns.length < 64 then some (Rv.own (.lst ((sortI ns).map .int))) else none) = _
  rw [dctD_keys, keyInts_kI]
  show (if (xs.map (·.1)).length < 64 then some (Rv.own (.lst ((sortI (xs.map (·.1))).map .int))) else none) = _
  rw [List.length_map, if_pos hl]
end
def ofI (rs : List Row) (h : Int) : List Row := rs.filter fun r => decide (r.1 = h)
def valI (l : List Row) : D := .lst (l.map fun r => .str (itemR r))
theorem ofI_snoc (rs : List Row) (r : Row) (h : Int) : ofI (rs ++ [r]) h = ofI rs h ++ (if r.1 = h then [r] else []) := by
  unfold ofI
  rw [List.filter_append]
  congr 1
  by_cases c : r.1 = h <;> simp [c]
theorem words_of_ok {x : D} {rs : List Row} {μ : Store} (hx : x.items = some (rs.map rowD)) (g : ∀ r ∈ rs, Good r) (hl : rs.length ≤ 400) : m_words_of [x] μ = .ok (.own (.lst ((grpOf rs).map fun g => .str (wordG g)))) μ := by
  refine ok_eq ?_
  unfold m_words_of b_words_of
  simp [List.replicate, hx]
  have e0 : (.own (.dK []) : Sl) = .own (.dK (dctD kI valI ([] : List (Int × List Row)))) := rfl
  rw [e0]
  refine okS_for (enc := rowD) (fun left ρ ν => ∃ (done : List Row) (kvs : List (Int × List Row)) (s2 s3 s4 : Sl), ρ = [.sh x, .own (.dK (dctD kI valI kvs)), s2, s3, s4] ∧ ν = μ ∧ rs = done ++ left ∧ (kvs.map (·.1)).Nodup ∧ (∀ h, getA kvs h = if ofI done h = [] then none else some (ofI done h))) ?_ ?_ ⟨[], [], .no, .no, .no, rfl, rfl, rfl, List.nodup_nil, fun h => rfl⟩
  · rintro r left ρ ν N' ⟨done, kvs, s2, s3, s4, rfl, rfl, hd, nd, hk⟩ kk
    have hm : r ∈ rs := by rw [hd]; simp
    obtain ⟨g1, g2, g3, g4, g5⟩ := g r hm
    obtain ⟨rh, ra, rb⟩ := r
    simp only at g1 g2 g3 g4 g5
    have it := item_of_ok (μ := ν) g3 g4 g5
    have fg := fGet_kI (val := valI) (xs := kvs) (h := rh)
    have ek : ((getA kvs rh).map valI).getD (.lst []) = valI (ofI done rh) := by
      rw [hk]
      split
      · next c => rw [c]; rfl
      · rfl
    have dl : done.length ≤ 400 := by
      have := congrArg List.length hd
      rw [List.length_append] at this
      omega
    have ol : (ofI done rh).length ≤ done.length := List.length_filter_le _ _
    have kl : kvs.length ≤ 8 := by
      have h8 : ∀ y ∈ kvs.map (·.1), y ∈ [0, 1, 2, 3, 4, 5, 6, (7 : Int)] := fun y hy => by
        have hs : (getA kvs y).isSome = true := by rw [isSome_getA]; exact decide_eq_true hy
        rw [hk] at hs
        split at hs
        · cases hs
        · next c =>
          obtain ⟨q, hq⟩ := List.exists_mem_of_ne_nil _ c
          obtain ⟨hq1, hq2⟩ := List.mem_filter.mp hq
          have gq := g q (by rw [hd]; exact List.mem_append_left _ hq1)
          have := of_decide_eq_true hq2
          obtain ⟨k1, k2, _⟩ := gq
          simp only [List.mem_cons, List.not_mem_nil, or_false]
          omega
      have := St.nodup_len nd h8
      rw [List.length_map] at this
      exact this
    have n1 : (ofI done rh).length ≤ 16777215 := by omega
    have n2 : (ofI done rh).length + 1 ≤ 16777216 := by omega
    have fs := fSet_kI (val := valI) (xs := kvs) (h := rh) (v := ofI done rh ++ [(rh, ra, rb)]) (d := .lst ((ofI done rh).map (fun r => .str (itemR r)) ++ [.str (itemS ra.toNat rb.toNat)])) (by unfold valI; rw [List.map_append]; rfl) (by omega)
    have ek : ((getA kvs rh).map valI).getD (.lst []) = .lst ((ofI done rh).map fun r => .str (itemR r)) := ek
    refine ⟨_, rfl, ?_⟩
    simp [b_words_of_1, fg, ek, it, n1, n2, fs]
    refine kk _ _ ⟨done ++ [(rh, ra, rb)], _, _, _, _, rfl, rfl, by rw [hd, List.append_assoc]; rfl, putA_nodup _ _ nd, fun h => ?_⟩
    rw [getA_put, ofI_snoc]
    by_cases c : h = rh
    · rw [if_pos c, if_pos c.symm, if_neg (by simp), c]
    · have e : (if (rh, ra, rb).1 = h then [(rh, ra, rb)] else []) = ([] : List Row) := if_neg (fun z => c z.symm)
      rw [if_neg c, e, List.append_nil, hk]
  · rintro ρ ν ⟨done, kvs, s2, s3, s4, rfl, rfl, hd, nd, hk⟩
    rw [List.append_nil] at hd
    subst hd
    have mem : ∀ y : Int, y ∈ kvs.map (·.1) ↔ ofI rs y ≠ [] := fun y => by
      have := isSome_getA (xs := kvs) (k := y)
      rw [hk] at this
      by_cases c : ofI rs y = []
      · rw [if_pos c] at this
        exact ⟨fun z => (by rw [decide_eq_true z] at this; cases this), fun z => absurd c z⟩
      · rw [if_neg c] at this
        exact ⟨fun _ => c, fun _ => of_decide_eq_true this.symm⟩
    have hnat : ∀ h : Nat, ofI rs (h : Int) = ofH rs h := fun h => rfl
    have key : sortI (kvs.map (·.1)) = (hsOf rs).map fun h : Nat => (h : Int) := by
      refine sortI_uniq (sortI_sorted _) ?_ ((sortI_perm _).trans ((List.perm_ext_iff_of_nodup nd ?_).mpr fun y => ?_))
      · rw [List.pairwise_map]
        exact (hs_asc rs).imp fun h => by omega
      · rw [List.Nodup, List.pairwise_map]
        exact (hs_asc rs).imp fun h => by omega
      · rw [mem]
        constructor
        · intro c
          obtain ⟨q, hq⟩ := List.exists_mem_of_ne_nil _ c
          obtain ⟨hq1, hq2⟩ := List.mem_filter.mp hq
          have := of_decide_eq_true hq2
          obtain ⟨k1, k2, _⟩ := g q hq1
          refine List.mem_map.mpr ⟨y.toNat, mem_hs.mpr ⟨by omega, ?_⟩, by omega⟩
          rw [← hnat, show ((y.toNat : Nat) : Int) = y by omega]
          exact c
        · intro z
          obtain ⟨h, hh, rfl⟩ := List.mem_map.mp z
          rw [hnat]
          exact (mem_hs.mp hh).2
    have hlen : kvs.length < 64 := by
      have e1 := congrArg List.length key
      rw [(sortI_perm _).length_eq, List.length_map, List.length_map] at e1
      have : (hsOf rs).length ≤ 8 := by
        have := List.length_filter_le (fun h => !decide (ofH rs h = [])) (List.range 8)
        rw [List.length_range] at this
        exact this
      omega
    have sr := fSrt_kI (val := valI) hlen
    rw [key, List.map_map] at sr
    have lc := lc_fm (enc := (D.int ∘ fun h : Nat => (h : Int))) (g := gN 2) (t := mYes) (e := e_words_of_1) (ρ := [.sh x, .own (.dK (dctD kI valI kvs)), .no, s3, s4]) (μ := ν) (fun _ => true) (fun h => .str (wordS h (ofH rs h))) (hsOf rs) [] (by
      have := List.length_filter_le (fun h => !decide (ofH rs h = [])) (List.range 8)
      rw [List.length_range] at this
      show 0 + (hsOf rs).length ≤ _
      unfold hsOf
      omega) (fun h hh => ⟨_, rfl, rfl, fun _ => by
      obtain ⟨h8, hne⟩ := mem_hs.mp hh
      have gk : getA kvs (h : Int) = some (ofH rs h) := by rw [hk, hnat, if_neg hne]
      have fx := fIx_kI (val := valI) gk
      have go : ∀ r ∈ ofH rs h, Good r := fun r hr => g r (mem_ofH.mp hr).1
      have hlo : (ofH rs h).length ≤ 400 := Nat.le_trans (List.length_filter_le _ _) hl
      have fstr : fStr [.d (.int (h : Int))] = some (.sh (.str (nS h))) := fStr_int (by omega)
      have l1 := nS_len (n := h) (k := 1) (by decide) (by omega)
      have a1 := fAdd_str (a := nS h) (b := ":") (by rw [lit_len.2.1]; omega)
      have il := items_len go hlo
      have a2 := fAdd_str (a := nS h ++ (":" : Str)) (b := itemsS (ofH rs h)) (by rw [app_len, lit_len.2.1]; omega)
      have sm := strs_map ((ofH rs h).map itemR)
      rw [List.map_map] at sm
      have sm : D.strs ((ofH rs h).map fun r => .str (itemR r)) = _ := sm
      have jr := x_joinR (s := ",") (μ := ν) (ys := (ofH rs h).map itemR) (by have := items_bound go hlo; omega)
      have jr : DL.joinR "," ν (some ((ofH rs h).map itemR)) = .ok (.sh (.str (itemsS (ofH rs h)))) ν := jr
      have fx : fIx (.ob (.dK (dctD kI valI kvs))) (.d (.int (h : Int))) = some (.sh (.lst ((ofH rs h).map fun r => .str (itemR r)))) := fx
      simp [e_words_of_1, fstr, a1, fx, sm, jr, a2, wordS, -List.map_map]⟩)
    rw [List.filter_eq_self.mpr (fun _ _ => rfl), List.nil_append] at lc
    simp [sr, lc, -List.map_map]
    unfold grpOf
    rw [List.map_map]
    rfl
end Law

/-! ### need_rows -/
namespace Law
open PySem L2 DL
theorem need_loop : ∀ (rs : List Row) (k : Nat) (ρ : Ev) (μ : Store), ρ.length = 3 → k + rs.length ≤ 200 → (∀ r ∈ rs, Good r) → ∃ ρ', forL (gT [1, 2]) b_need_rows_1 (((rs.map rowD).zipIdx k).map fun p => .tup [.int (p.2 : Nat), p.1]) ρ μ = .ok (.nx, ρ') μ
  | [], k, ρ, μ, _, _, _ => ⟨ρ, rfl⟩
  | r :: rs, k, ρ, μ, hl, hk, hg => by
    obtain ⟨s0, s1, s2, rfl⟩ : ∃ a b c, ρ = [a, b, c] := by
      match ρ, hl with
      | [a, b, c], _ => exact ⟨a, b, c, rfl⟩
    obtain ⟨ρ', h⟩ := need_loop rs (k + 1) [s0, .sh (.int (k : Nat)), .sh (rowD r)] μ rfl (by simp only [List.length_cons] at hk; omega) fun q hq => hg q (List.mem_cons_of_mem _ hq)
    refine ⟨ρ', ?_⟩
    have ir := is_row_ok (μ := μ) (hg r List.mem_cons_self)
    have : (k : Int) < 200 := by simp only [List.length_cons] at hk; omega
    have nk : ¬ (200 : Int) ≤ k := by omega
    rw [List.map_cons, List.zipIdx_cons, List.map_cons, forL, ← h]
    simp [b_need_rows_1, ir, nk]
theorem need_rows_ok {rs : List Row} {μ : Store} (hg : ∀ r ∈ rs, Good r) (hl : rs.length ≤ 200) : m_need_rows [rsD rs] μ = .ok (.sh .non) μ := by
  obtain ⟨ρ', h⟩ := need_loop rs 0 [.sh (rsD rs), .no, .no] μ rfl (by omega) hg
  have h : forL (gT [1, 2]) b_need_rows_1 (enumD (rs.map rowD)) [.sh (rsD rs), .no, .no] μ = _ := h
  simp [m_need_rows, b_need_rows, h, List.replicate]
end Law

/-! ### texts: written, the law's own text -/
namespace Law
open PySem L2 DL
theorem join_words {gs : List Grp} {μ : Store} (o : GOk gs) : DL.joinR " " μ (D.strs (gs.map fun g => .str (wordG g))) = .ok (.sh (.str (textG gs))) μ := by
  have sm := strs_map (gs.map wordG)
  rw [List.map_map] at sm
  have sm : D.strs (gs.map fun g => .str (wordG g)) = _ := sm
  rw [sm]
  exact x_joinR (by have := words_bound o; omega)
theorem written_ok {xs : List Row} {μ : Store} (g : ∀ r ∈ xs, Good r) (hl : xs.length ≤ 200) : m_written [rsD xs] μ = .ok (.sh (.str (textG (grpOf (merged xs))))) μ := by
  have f : Fit 200 xs := ⟨g, hl⟩
  have ms := merged_set f
  have n1 := need_rows_ok (μ := μ) g hl
  have n2 := merged_ok (rs := xs) (μ := μ) (by omega)
  have gk := grp_ok ms.can ms.fit.good (by have := ms.fit.len; omega)
  have wo := words_of_ok (x := rsD (merged xs)) (rs := merged xs) (μ := μ) rfl ms.fit.good (by have := ms.fit.len; omega)
  have jw := join_words (μ := μ) gk
  have pl : m_plain [rsD xs] μ = .ok (.own (.lst ((merged xs).map rowD))) μ := by
    simp [m_plain, b_plain, List.replicate, n1, n2]
  simp [m_written, b_written, List.replicate, pl, wo, jw]
theorem law_text_ok {x : D} {rs : List Row} {μ : Store} (hx : x.items = some (rs.map rowD)) (g : ∀ r ∈ rs, Good r) (hl : rs.length ≤ 400) (gk : GOk (grpOf rs)) : m__law_text [x] μ = .ok (.sh (.str (textG (grpOf rs)))) μ := by
  refine ok_eq ?_
  unfold m__law_text b__law_text
  simp [List.replicate, rangeD_0 (show (0 : Int) ≤ 8 by omega) (by omega)]
  have e0 : (.own (.lst []) : Sl) = .own (.lst (([] : List Grp).map fun g => .str (wordG g))) := rfl
  rw [e0]
  refine okS_for (enc := fun i : Nat => .int (i : Int)) (fun left ρ ν => ∃ (k : Nat) (s2 s3 s4 s5 s6 : Sl), ρ = [.sh x, .own (.lst ((((List.range k).filter fun h => !decide (ofH rs h = [])).map fun h => (h, ofH rs h)).map fun g : Grp => .str (wordG g))), s2, s3, s4, s5, s6] ∧ ν = μ ∧ left = List.range' k (8 - k) ∧ k ≤ 8) ?_ ?_ ⟨0, .no, .no, .no, .no, .no, rfl, rfl, by rw [List.range_eq_range'], by omega⟩
  · rintro i left ρ ν N' ⟨k, s2, s3, s4, s5, s6, rfl, rfl, hlf, hk⟩ kk
    have hk8 : k < 8 := by
      rcases Nat.lt_or_ge k 8 with z | z
      · exact z
      · rw [Nat.sub_eq_zero_of_le z] at hlf; cases hlf
    rw [show 8 - k = 8 - (k + 1) + 1 by omega, List.range'_succ] at hlf
    injection hlf with hi hlf
    subst hi
    generalize hW : ((((List.range i).filter fun h => !decide (ofH rs h = [])).map fun h => (h, ofH rs h)).map fun g : Grp => D.str (wordG g)) = W at kk ⊢
    have hWl : W.length ≤ 8 := by
      rw [← hW, List.length_map, List.length_map]
      have := List.length_filter_le (fun h => !decide (ofH rs h = [])) (List.range i)
      rw [List.length_range] at this
      omega
    refine ⟨_, rfl, ?_⟩
    simp [b__law_text_2, hx]
    have e1 : (.own (.lst []) : Sl) = .own (.lst (([] : List Row).map fun r => .str (itemR r))) := rfl
    rw [e1]
    refine okS_for (enc := rowD) (fun lf ρ ν' => ∃ (done : List Row) (s4 s5 s6 : Sl), ρ = [.sh x, .own (.lst W), .sh (.int (i : Int)), .own (.lst ((ofH done i).map fun r => .str (itemR r))), s4, s5, s6] ∧ ν' = ν ∧ rs = done ++ lf) ?_ ?_ ⟨[], s4, s5, s6, rfl, rfl, rfl⟩
    · rintro r lf ρ ν' N2 ⟨done, s4, s5, s6, rfl, rfl, hd⟩ k2
      have hm : r ∈ rs := by rw [hd]; simp
      obtain ⟨g1, g2, g3, g4, g5⟩ := g r hm
      obtain ⟨rh, ra, rb⟩ := r
      simp only at g1 g2 g3 g4 g5
      have dl : done.length ≤ 400 := by
        have := congrArg List.length hd
        rw [List.length_append] at this
        omega
      have ol : (ofH done i).length ≤ done.length := List.length_filter_le _ _
      have n1 : (ofH done i).length < 16777216 := by omega
      have sn : ofH (done ++ [(rh, ra, rb)]) i = ofH done i ++ (if rh = (i : Int) then [(rh, ra, rb)] else []) := ofI_snoc done (rh, ra, rb) i
      refine ⟨_, rfl, ?_⟩
      have fin : ∀ l, l = ofH (done ++ [(rh, ra, rb)]) i → N2 [.sh x, .own (.lst W), .sh (.int (i : Int)), .own (.lst (l.map fun r => .str (itemR r))), .sh (.int rh), .sh (.int ra), .sh (.int rb)] ν' := fun l e => k2 _ _ ⟨done ++ [(rh, ra, rb)], .sh (.int rh), .sh (.int ra), .sh (.int rb), by rw [e], rfl, by rw [hd, List.append_assoc]; rfl⟩
      have f1 : fStr [.d (.int ra)] = some (.sh (.str (nS ra.toNat))) := by
        rw [fStr_int (by omega)]
        unfold nS
        rw [show ((ra.toNat : Nat) : Int) = ra by omega]
      have f2 : fStr [.d (.int rb)] = some (.sh (.str (nS rb.toNat))) := by
        rw [fStr_int (by omega)]
        unfold nS
        rw [show ((rb.toNat : Nat) : Int) = rb by omega]
      have l1 := nS_len (n := ra.toNat) (k := 13) (by decide) (by omega)
      have l2 := nS_len (n := rb.toNat) (k := 13) (by decide) (by omega)
      have a1 := fAdd_str (a := nS ra.toNat) (b := "-") (by rw [lit_len.1]; omega)
      have a2 := fAdd_str (a := nS ra.toNat ++ ("-" : Str)) (b := nS rb.toNat) (by rw [app_len, lit_len.1]; omega)
      by_cases c : rh = (i : Int)
      · subst c
        rw [if_pos rfl] at sn
        have fi := fin _ sn.symm
        rw [List.map_append] at fi
        by_cases c2 : ra = rb
        · subst c2
          have e : itemR ((i : Int), ra, ra) = nS ra.toNat := by unfold itemR itemS; rw [if_pos rfl]
          simp [b__law_text_1, f1, n1]
          rw [← e]
          exact fi
        · have c3 : ¬ ra.toNat = rb.toNat := by omega
          have e : itemR ((i : Int), ra, rb) = nS ra.toNat ++ ("-" : Str) ++ nS rb.toNat := by unfold itemR itemS; rw [if_neg c3]
          simp [b__law_text_1, c2, f1, f2, a1, a2, n1]
          rw [← e]
          exact fi
      · rw [if_neg c, List.append_nil] at sn
        simp [b__law_text_1, c]
        exact fin _ sn.symm
    · rintro ρ ν' ⟨done, s4, s5, s6, rfl, rfl, hd⟩
      rw [List.append_nil] at hd
      subst hd
      have go : ∀ r ∈ ofH rs i, Good r := fun r hr => g r (mem_ofH.mp hr).1
      have hlo : (ofH rs i).length ≤ 400 := Nat.le_trans (List.length_filter_le _ _) hl
      have q : fNe (.ob (.lst ((ofH rs i).map fun r => .str (itemR r)))) (.ob (.lst [])) = some (.sh (.bl (!decide (ofH rs i = [])))) := by
        have hs : ∀ y ∈ (ofH rs i).map itemR, SOk y := fun y hy => by
          obtain ⟨r, _, rfl⟩ := List.mem_map.mp hy
          exact sok_small fun c hc => by have := mem_item hc; omega
        have py : ∀ ys : List Str, D.pys (ys.map .str) = some (ys.map .str) := by
          intro ys
          induction ys with
          | nil => rfl
          | cons y ys ih =>
            show (D.pys (ys.map .str)).map (PyData.str y :: ·) = _
            rw [ih]
            rfl
        have sh : SeqAt.shaped (.list (((ofH rs i).map itemR).map .str)) = true := by
          unfold SeqAt.shaped
          rw [Bool.and_eq_true]
          constructor
          · have : ∀ ys : List Str, (∀ y ∈ ys, SOk y) → PyData.canLayAll0 (ys.map .str) = true := by
              intro ys
              induction ys with
              | nil => intro _; rfl
              | cons y ys ih =>
                intro h
                show (PyData.canLay0 (.str y) && PyData.canLayAll0 (ys.map .str)) = true
                have h1 := h y List.mem_cons_self
                unfold SOk SeqAt.shaped at h1
                rw [Bool.and_eq_true] at h1
                rw [h1.1, ih fun z hz => h z (List.mem_cons_of_mem _ hz)]
                rfl
            exact this _ hs
          · have : ∀ ys : List Str, PyData.depthAll (ys.map .str) ≤ 0 := by
              intro ys
              induction ys with
              | nil => exact Nat.le_refl _
              | cons y ys ih =>
                show max 0 (PyData.depthAll (ys.map .str)) ≤ 0
                omega
            have := this ((ofH rs i).map itemR)
            refine decide_eq_true ?_
            show PyData.depthAll _ + 1 ≤ 64
            omega
        have e1 : D.pys ((ofH rs i).map fun r => .str (itemR r)) = some (((ofH rs i).map itemR).map .str) := by
          have := py ((ofH rs i).map itemR)
          rw [List.map_map] at this
          exact this
        show (Option.bind ((D.pys ((ofH rs i).map fun r => .str (itemR r))).map PyData.list) fun p => Option.bind ((D.pys []).map PyData.list) fun q => if SeqAt.shaped p = true ∧ SeqAt.shaped q = true then some (Rv.sh (.bl (not (PyData.eqv p q)))) else none) = _
        rw [e1]
        show (if SeqAt.shaped (.list (((ofH rs i).map itemR).map .str)) = true ∧ SeqAt.shaped (.list []) = true then some (Rv.sh (.bl (!(PyData.eqvAll (((ofH rs i).map itemR).map .str) [])))) else none) = _
        rw [if_pos ⟨sh, rfl⟩]
        cases ofH rs i <;> rfl
      have fstr : fStr [.d (.int (i : Int))] = some (.sh (.str (nS i))) := fStr_int (by omega)
      have l1 := nS_len (n := i) (k := 1) (by decide) (by omega)
      have a1 := fAdd_str (a := nS i) (b := ":") (by rw [lit_len.2.1]; omega)
      have il := items_len go hlo
      have a2 := fAdd_str (a := nS i ++ (":" : Str)) (b := itemsS (ofH rs i)) (by rw [app_len, lit_len.2.1]; omega)
      have sm := strs_map ((ofH rs i).map itemR)
      rw [List.map_map] at sm
      have sm : D.strs ((ofH rs i).map fun r => .str (itemR r)) = _ := sm
      have jr := x_joinR (s := ",") (μ := ν') (ys := (ofH rs i).map itemR) (by have := items_bound go hlo; omega)
      have jr : DL.joinR "," ν' (some ((ofH rs i).map itemR)) = .ok (.sh (.str (itemsS (ofH rs i)))) ν' := jr
      have n1 : W.length < 16777216 := by omega
      have rs1 : (List.range (i + 1)).filter (fun h => !decide (ofH rs h = [])) = (List.range i).filter (fun h => !decide (ofH rs h = [])) ++ (if ofH rs i = [] then [] else [i]) := by
        rw [List.range_succ, List.filter_append]
        congr 1
        by_cases c : ofH rs i = [] <;> simp [c]
      by_cases c : ofH rs i = []
      · rw [decide_eq_true c] at q
        rw [if_pos c, List.append_nil] at rs1
        simp [q, -List.map_map]
        exact kk _ _ ⟨i + 1, _, _, _, _, _, by rw [rs1, hW], rfl, hlf, hk8⟩
      · rw [decide_eq_false c] at q
        rw [if_neg c] at rs1
        simp [q, fstr, a1, sm, jr, a2, n1, -List.map_map]
        exact kk _ _ ⟨i + 1, .sh (.int (i : Int)), .sh (.lst ((ofH rs i).map fun r => .str (itemR r))), s4, s5, s6, by rw [rs1, List.map_append, List.map_append, hW]; rfl, rfl, hlf, hk8⟩
  · rintro ρ ν ⟨k, s2, s3, s4, s5, s6, rfl, rfl, hlf, hk⟩
    have : k = 8 := by
      have := congrArg List.length hlf
      rw [List.length_range'] at this
      simp at this
      omega
    subst this
    have jw := join_words (μ := ν) gk
    have eg : ((List.range 8).filter fun h => !decide (ofH rs h = [])).map (fun h => (h, ofH rs h)) = grpOf rs := rfl
    rw [eg]
    simp [jw, -List.map_map]
end Law

namespace DL
open PySem L2
/-! ### deeds in order, taken back: plain -/
section
variable {κ ν : Type} [DecidableEq κ]
theorem putsA_cons (xs : List (κ × ν)) (p : κ × ν) (ys : List (κ × ν)) : putsA xs (p :: ys) = putsA (putA xs p.1 p.2) ys := rfl
theorem putsA_nodup : ∀ {ys xs : List (κ × ν)}, (xs.map (·.1)).Nodup → ((putsA xs ys).map (·.1)).Nodup
  | [], _, h => h
  | p :: ys, xs, h => putsA_nodup (ys := ys) (putA_nodup p.1 p.2 h)
theorem putsA_mem {x : κ} : ∀ {ys xs : List (κ × ν)}, x ∈ (putsA xs ys).map (·.1) ↔ x ∈ xs.map (·.1) ∨ x ∈ ys.map (·.1)
  | [], xs => by simp [putsA]
  | p :: ys, xs => by
    rw [putsA_cons, putsA_mem (ys := ys), putA_mem, List.map_cons, List.mem_cons, or_assoc]
theorem putsA_len : ∀ {ys xs : List (κ × ν)}, (putsA xs ys).length ≤ xs.length + ys.length
  | [], xs => Nat.le_refl _
  | p :: ys, xs => by
    rw [putsA_cons, List.length_cons]
    have := putsA_len (ys := ys) (xs := putA xs p.1 p.2)
    have := putA_len xs p.1 p.2
    omega
theorem putsA_get {k : κ} {v : ν} : ∀ {ys xs : List (κ × ν)}, getA (putsA xs ys) k = some v → getA xs k = some v ∨ (k, v) ∈ ys
  | [], xs, h => .inl h
  | p :: ys, xs, h => by
    rcases putsA_get (ys := ys) h with h | h
    · rw [getA_put] at h
      split at h
      · next c =>
        cases h
        exact .inr (by rw [c]; exact List.mem_cons_self)
      · exact .inl h
    · exact .inr (List.mem_cons_of_mem _ h)
end
def Uq (ds : List Deed) : Prop := ∀ a ∈ ds, ∀ b ∈ ds, a.nm = b.nm → a = b
theorem st_nm {a b : Deed} (h : a.st = b.st) : a.nm = b.nm := by
  unfold Deed.st at h
  unfold Deed.nm
  injection h with _ h
def known (ds : List Deed) : List (Row × Deed) := putsA [] (ds.map fun d => (d.st, d))
def inOrd (ds : List Deed) : List Deed := (sortR ((known ds).map (·.1))).map fun s => (getA (known ds) s).getD default
theorem known_snoc (ds : List Deed) (d : Deed) : known (ds ++ [d]) = putA (known ds) d.st d := by
  unfold known putsA
  rw [List.map_append, List.foldl_append]
  rfl
theorem known_nodup (ds : List Deed) : ((known ds).map (·.1)).Nodup := putsA_nodup List.nodup_nil
theorem known_len (ds : List Deed) : (known ds).length ≤ ds.length := by
  have := putsA_len (xs := []) (ys := ds.map fun d => (d.st, d))
  rw [List.length_map] at this
  unfold known
  simpa using this
theorem known_get {ds : List Deed} {s : Row} (h : s ∈ (known ds).map (·.1)) : ∃ d, getA (known ds) s = some d ∧ d ∈ ds ∧ d.st = s := by
  cases c : getA (known ds) s with
  | none => exact absurd h (getA_none.mp c)
  | some d =>
    rcases putsA_get c with z | z
    · cases z
    · obtain ⟨e, he, z⟩ := List.mem_map.mp z
      injection z with z1 z2
      subst z2
      exact ⟨e, rfl, he, z1⟩
theorem inOrd_len (ds : List Deed) : (inOrd ds).length ≤ ds.length := by
  unfold inOrd
  rw [List.length_map, (sortR_perm' _).length_eq, List.length_map]
  exact known_len ds
theorem inOrd_st (ds : List Deed) : (inOrd ds).map Deed.st = sortR ((known ds).map (·.1)) := by
  unfold inOrd
  rw [List.map_map]
  refine (List.map_congr_left (g := id) fun s hs => ?_).trans (List.map_id _)
  obtain ⟨d, e, _, h⟩ := known_get ((sortR_perm' _).mem_iff.mp hs)
  show ((getA (known ds) s).getD default).st = s
  rw [e]
  exact h
def SltD (a b : Deed) : Prop := slt a.st b.st
theorem inOrd_asc (ds : List Deed) : (inOrd ds).Pairwise SltD := by
  have := sortR_strict (known_nodup ds)
  rw [← inOrd_st, List.pairwise_map] at this
  exact this
theorem inOrd_sub {ds : List Deed} {d : Deed} (h : d ∈ inOrd ds) : d ∈ ds := by
  obtain ⟨s, hs, rfl⟩ := List.mem_map.mp h
  obtain ⟨e, he, hm, _⟩ := known_get ((sortR_perm' _).mem_iff.mp hs)
  rw [he]
  exact hm
theorem inOrd_mem {ds : List Deed} (hu : Uq ds) {d : Deed} : d ∈ inOrd ds ↔ d ∈ ds := by
  refine ⟨inOrd_sub, fun h => ?_⟩
  have hk : d.st ∈ (known ds).map (·.1) := putsA_mem.mpr (.inr (List.mem_map.mpr ⟨(d.st, d), List.mem_map.mpr ⟨d, h, rfl⟩, rfl⟩))
  obtain ⟨e, he, hm, hs⟩ := known_get hk
  refine List.mem_map.mpr ⟨d.st, (sortR_perm' _).mem_iff.mpr hk, ?_⟩
  rw [he]
  exact hu e hm d h (st_nm hs)
theorem Uq.ord {ds : List Deed} (hu : Uq ds) : Uq (inOrd ds) := fun a ha b hb => hu a (inOrd_sub ha) b (inOrd_sub hb)
theorem sltD_irr {a : Deed} : ¬ SltD a a := slt_irr
theorem sltD_trans {a b c : Deed} (h : SltD a b) (k : SltD b c) : SltD a c := slt_trans h k
theorem asc_ext : ∀ {xs ys : List Deed}, xs.Pairwise SltD → ys.Pairwise SltD → (∀ x, x ∈ xs ↔ x ∈ ys) → xs = ys
  | [], [], _, _, _ => rfl
  | [], y :: ys, _, _, h => absurd ((h y).mpr List.mem_cons_self) (by simp)
  | x :: xs, [], _, _, h => absurd ((h x).mp List.mem_cons_self) (by simp)
  | x :: xs, y :: ys, hx, hy, h => by
    obtain ⟨x1, x2⟩ := List.pairwise_cons.mp hx
    obtain ⟨y1, y2⟩ := List.pairwise_cons.mp hy
    have e : x = y := by
      rcases List.mem_cons.mp ((h x).mp List.mem_cons_self) with z | z
      · exact z
      · rcases List.mem_cons.mp ((h y).mpr List.mem_cons_self) with w | w
        · exact w.symm
        · exact absurd (sltD_trans (y1 x z) (x1 y w)) sltD_irr
    subst e
    rw [asc_ext x2 y2 fun z => ?_]
    constructor
    · intro hz
      rcases List.mem_cons.mp ((h z).mp (List.mem_cons_of_mem _ hz)) with w | w
      · subst w; exact absurd (x1 _ hz) sltD_irr
      · exact w
    · intro hz
      rcases List.mem_cons.mp ((h z).mpr (List.mem_cons_of_mem _ hz)) with w | w
      · subst w; exact absurd (y1 _ hz) sltD_irr
      · exact w
theorem inOrd_ext {ds es : List Deed} (hd : Uq ds) (he : Uq es) (h : ∀ x, x ∈ ds ↔ x ∈ es) : inOrd ds = inOrd es :=
  asc_ext (inOrd_asc _) (inOrd_asc _) fun x => by rw [inOrd_mem hd, inOrd_mem he, h]
/-! void -/
def tgt : What → Name
  | .back h n => (h, n)
  | _ => (0, 0)
def hasR (rs : List Row) (x : Name) : Bool := rs.any fun r => decide (r.1 = x.1) && (decide (r.2.1 ≤ x.2) && decide (x.2 ≤ r.2.2))
def sealAt (x : Name) (s : Row) (e : Deed) : Bool := match e.w with
  | .sealed rs => decide (slt e.st s) && hasR rs x
  | _ => false
def voidAt (x : Name) (s : Row) (e : Deed) : Bool := (decide (e.nm = x) && decide (¬ slt e.st s)) || sealAt x s e
def voidB (ds : List Deed) (d : Deed) : Bool := ds.any (voidAt (tgt d.w) d.st)
theorem any_ext {α : Type} {p : α → Bool} {xs ys : List α} (h : ∀ x, x ∈ xs ↔ x ∈ ys) : xs.any p = ys.any p := by
  rw [Bool.eq_iff_iff, List.any_eq_true, List.any_eq_true]
  constructor
  · rintro ⟨x, hx, k⟩
    exact ⟨x, (h x).mp hx, k⟩
  · rintro ⟨x, hx, k⟩
    exact ⟨x, (h x).mpr hx, k⟩
theorem voidB_ext {ds es : List Deed} (h : ∀ x, x ∈ ds ↔ x ∈ es) (d : Deed) : voidB ds d = voidB es d := any_ext h
theorem nonvoid {ds : List Deed} {d e : Deed} (h : voidB ds d = false) (he : e ∈ ds) (hn : e.nm = tgt d.w) : slt e.st d.st := by
  unfold voidB at h
  rw [List.any_eq_false] at h
  have := h e he
  unfold voidAt at this
  rw [Bool.or_eq_true, not_or, Bool.and_eq_true, decide_eq_true_eq, decide_eq_true_eq] at this
  have := this.1
  by_cases c : slt e.st d.st
  · exact c
  · exact absurd ⟨hn, c⟩ this
/-! dead, marks -/
abbrev SB (d : Deed) : Prop := d.w.kind = .sealed ∨ d.w.kind = .bye
def deadStep (vd : Deed → Bool) (F : List (Name × Unit)) (d : Deed) : List (Name × Unit) := if d.w.kind = .back ∧ d.nm ∉ F.map (·.1) ∧ vd d = false then putA F (tgt d.w) () else F
def mine (bs : List Deed) (M : List (Name × Bool)) (x : Name) : List Deed := bs.filter fun b => decide (tgt b.w = x) && !((getA M b.nm).getD false)
def markStep (bs : List Deed) (M : List (Name × Bool)) (d : Deed) : List (Name × Bool) := putA M d.nm (!decide (mine bs M d.nm = []) && !decide (SB d))
def backs (vd : Deed → Bool) (rows : List Deed) : List Deed := rows.filter fun d => decide (d.w.kind = .back) && !vd d
structure MInv (vd : Deed → Bool) (P : List Deed) (F : List (Name × Unit)) (M : List (Name × Bool)) : Prop where
  i1 : ∀ d ∈ P, getA M d.nm = some (!decide (SB d) && decide (d.nm ∈ F.map (·.1)))
  i2 : ∀ x, x ∈ F.map (·.1) ↔ ∃ c ∈ P, c.w.kind = .back ∧ vd c = false ∧ c.nm ∉ F.map (·.1) ∧ tgt c.w = x
theorem minv_nil {vd : Deed → Bool} : MInv vd [] [] [] := ⟨fun d h => by simp at h, fun x => by simp⟩
section
variable {vd : Deed → Bool} {rows P l : List Deed} {d b : Deed} {F : List (Name × Unit)} {M : List (Name × Bool)}
/-- a back that counts stands ahead of what it takes back -/
theorem back_ahead (ha : rows.Pairwise SltD) (hv : ∀ c ∈ rows, ∀ e ∈ rows, vd c = false → e.nm = tgt c.w → slt e.st c.st) (hr : rows.reverse = P ++ d :: l) (hb : b ∈ backs vd rows) (ht : tgt b.w = d.nm) : b ∈ P := by
  obtain ⟨b1, b2⟩ := List.mem_filter.mp hb
  rw [Bool.and_eq_true] at b2
  have bv : vd b = false := by simpa using b2.2
  have hm : ∀ x, x ∈ rows ↔ x ∈ P ++ d :: l := fun x => by rw [← hr, List.mem_reverse]
  have hd : d ∈ rows := (hm d).mpr (by simp)
  have hs := hv b b1 d hd bv ht.symm
  have hp : (P ++ d :: l).Pairwise (fun a b => SltD b a) := by rw [← hr, List.pairwise_reverse]; exact ha
  rcases List.mem_append.mp ((hm b).mp b1) with z | z
  · exact z
  · rcases List.mem_cons.mp z with z | z
    · subst z; exact absurd hs slt_irr
    · have := (List.pairwise_cons.mp (List.pairwise_append.mp hp).2.1).1 b z
      exact absurd (slt_trans hs this) slt_irr
theorem mine_iff (ha : rows.Pairwise SltD) (hv : ∀ c ∈ rows, ∀ e ∈ rows, vd c = false → e.nm = tgt c.w → slt e.st c.st) (hr : rows.reverse = P ++ d :: l) (I : MInv vd P F M) : mine (backs vd rows) M d.nm = [] ↔ d.nm ∉ F.map (·.1) := by
  have hm : ∀ x, x ∈ P → x ∈ rows := fun x hx => by rw [← List.mem_reverse, hr]; exact List.mem_append_left _ hx
  rw [I.i2]
  constructor
  · rintro h ⟨c, hc, c1, c2, c3, c4⟩
    have : c ∈ mine (backs vd rows) M d.nm := by
      refine List.mem_filter.mpr ⟨List.mem_filter.mpr ⟨hm c hc, by simp [c1, c2]⟩, ?_⟩
      rw [I.i1 c hc]
      simp [c3, c4]
    rw [h] at this
    simp at this
  · intro h
    rw [List.eq_nil_iff_forall_not_mem]
    intro c hc
    obtain ⟨c1, c2⟩ := List.mem_filter.mp hc
    rw [Bool.and_eq_true, decide_eq_true_eq] at c2
    have hp := back_ahead ha hv hr c1 c2.1
    obtain ⟨c3, c4⟩ := List.mem_filter.mp c1
    rw [Bool.and_eq_true, decide_eq_true_eq] at c4
    have hk : ¬ SB c := by unfold SB; rw [c4.1]; simp
    have c5 := c2.2
    rw [I.i1 c hp] at c5
    simp [hk] at c5
    exact h ⟨c, hp, c4.1, by simpa using c4.2, by simpa using c5, c2.1⟩
theorem minv_step (hu : Uq rows) (ha : rows.Pairwise SltD) (hv : ∀ c ∈ rows, ∀ e ∈ rows, vd c = false → e.nm = tgt c.w → slt e.st c.st) (hr : rows.reverse = P ++ d :: l) (I : MInv vd P F M) : MInv vd (P ++ [d]) (deadStep vd F d) (markStep (backs vd rows) M d) := by
  have hm : ∀ x, x ∈ P ++ d :: l → x ∈ rows := fun x hx => by rw [← List.mem_reverse, hr]; exact hx
  have hp : (P ++ d :: l).Pairwise (fun a b => SltD b a) := by rw [← hr, List.pairwise_reverse]; exact ha
  have hd : d ∈ rows := hm d (by simp)
  have hpd : ∀ c ∈ P, SltD d c := fun c hc => (List.pairwise_append.mp hp).2.2 c hc d List.mem_cons_self
  have mi := mine_iff ha hv hr I
  -- the names of what was gone through stay as they are
  have keep : ∀ e ∈ P ++ [d], (e.nm ∈ (deadStep vd F d).map (·.1) ↔ e.nm ∈ F.map (·.1)) := fun e he => by
    unfold deadStep
    split
    · next c =>
      rw [putA_mem]
      refine ⟨fun z => z.elim id fun z => ?_, .inl⟩
      have he' : e ∈ rows := hm e (by rcases List.mem_append.mp he with w | w <;> simp at * <;> simp [w])
      have := hv d hd e he' c.2.2 z
      rcases List.mem_append.mp he with w | w
      · exact absurd (slt_trans this (hpd e w)) slt_irr
      · have : e = d := by simpa using w
        subst this
        exact absurd this slt_irr
    · exact Iff.rfl
  refine ⟨fun e he => ?_, fun x => ?_⟩
  · unfold markStep
    rw [getA_put]
    have kk := keep e he
    by_cases c : e.nm = d.nm
    · have he' : e ∈ rows := hm e (by rcases List.mem_append.mp he with w | w <;> simp at * <;> simp [w])
      have : e = d := hu e he' d hd c
      subst this
      rw [if_pos rfl]
      congr 1
      by_cases c2 : e.nm ∈ F.map (·.1)
      · have : ¬ mine (backs vd rows) M e.nm = [] := fun z => mi.mp z c2
        rw [decide_eq_false this, decide_eq_true (kk.mpr c2)]
        simp
      · rw [decide_eq_true (mi.mpr c2), decide_eq_false (fun z => c2 (kk.mp z))]
        simp
    · rw [if_neg c]
      rcases List.mem_append.mp he with w | w
      · rw [I.i1 e w]
        by_cases c2 : e.nm ∈ F.map (·.1)
        · rw [decide_eq_true c2, decide_eq_true (kk.mpr c2)]
        · rw [decide_eq_false c2, decide_eq_false (fun z => c2 (kk.mp z))]
      · exact absurd (by rw [show e = d by simpa using w]) c
  · have key : (∃ c ∈ P ++ [d], c.w.kind = .back ∧ vd c = false ∧ c.nm ∉ (deadStep vd F d).map (·.1) ∧ tgt c.w = x) ↔ (∃ c ∈ P ++ [d], c.w.kind = .back ∧ vd c = false ∧ c.nm ∉ F.map (·.1) ∧ tgt c.w = x) :=
      ⟨fun ⟨c, a, b, g, h, k⟩ => ⟨c, a, b, g, fun z => h ((keep c a).mpr z), k⟩, fun ⟨c, a, b, g, h, k⟩ => ⟨c, a, b, g, fun z => h ((keep c a).mp z), k⟩⟩
    rw [key]
    have sp : (∃ c ∈ P ++ [d], c.w.kind = .back ∧ vd c = false ∧ c.nm ∉ F.map (·.1) ∧ tgt c.w = x) ↔ x ∈ F.map (·.1) ∨ (d.w.kind = .back ∧ vd d = false ∧ d.nm ∉ F.map (·.1) ∧ tgt d.w = x) := by
      rw [I.i2]
      constructor
      · rintro ⟨c, hc, r⟩
        rcases List.mem_append.mp hc with w | w
        · exact .inl ⟨c, w, r⟩
        · rw [show c = d by simpa using w] at r
          exact .inr r
      · rintro (⟨c, hc, r⟩ | r)
        · exact ⟨c, List.mem_append_left _ hc, r⟩
        · exact ⟨d, by simp, r⟩
    rw [sp]
    unfold deadStep
    split
    · next c =>
      rw [putA_mem]
      exact or_congr Iff.rfl ⟨fun z => ⟨c.1, c.2.2, c.2.1, z.symm⟩, fun z => z.2.2.2.symm⟩
    · next c =>
      refine ⟨.inl, fun z => z.elim id fun z => absurd ⟨z.1, z.2.2.1, z.2.1⟩ c⟩
end
def deadL (vd : Deed → Bool) (rows : List Deed) : List (Name × Unit) := rows.reverse.foldl (deadStep vd) []
def marksL (vd : Deed → Bool) (rows : List Deed) : List (Name × Bool) := rows.reverse.foldl (markStep (backs vd rows)) []
theorem minv_all {vd : Deed → Bool} {rows : List Deed} (hu : Uq rows) (ha : rows.Pairwise SltD) (hv : ∀ c ∈ rows, ∀ e ∈ rows, vd c = false → e.nm = tgt c.w → slt e.st c.st) : ∀ (l P : List Deed) (F : List (Name × Unit)) (M : List (Name × Bool)), rows.reverse = P ++ l → MInv vd P F M → MInv vd rows.reverse (l.foldl (deadStep vd) F) (l.foldl (markStep (backs vd rows)) M)
  | [], P, F, M, hr, I => by rw [hr, List.append_nil]; exact I
  | d :: l, P, F, M, hr, I => minv_all hu ha hv l (P ++ [d]) _ _ (by rw [hr, List.append_assoc]; rfl) (minv_step hu ha hv hr I)
theorem deadStep_len (vd : Deed → Bool) (F : List (Name × Unit)) (d : Deed) : (deadStep vd F d).length ≤ F.length + 1 := by
  unfold deadStep
  split
  · exact putA_len _ _ _
  · omega
/-- who is alive -/
def aliveL (rows : List Deed) : List Deed := rows.filter fun d => decide (SB d) || !decide (d.nm ∈ (deadL (voidB rows) rows).map (·.1))
theorem alive_marks {rows : List Deed} (hu : Uq rows) (ha : rows.Pairwise SltD) : (rows.filter fun d => !((getA (marksL (voidB rows) rows) d.nm).getD false)) = aliveL rows := by
  have I := minv_all (vd := voidB rows) hu ha (fun c hc e he hv hn => nonvoid hv he hn) rows.reverse [] [] [] rfl minv_nil
  refine List.filter_congr fun d hd => ?_
  have := I.i1 d (List.mem_reverse.mpr hd)
  show (!((getA (rows.reverse.foldl (markStep (backs (voidB rows) rows)) []) d.nm).getD false)) = _
  rw [this]
  show (!(!decide (SB d) && decide _)) = _
  rw [Bool.not_and, Bool.not_not]
  rfl
/-- worths -/
def worthStep (ws : List Int) (d : Deed) : List Int := match d.w with
  | .put k w => ws.set k.toNat w
  | .add k w => ws.set k.toNat (ws.getD k.toNat 0 + w)
  | _ => ws
def worthsL (rows : List Deed) : List Int := (aliveL rows).foldl worthStep [0, 0, 0, 0, 0, 0]
theorem worthStep_len (ws : List Int) (d : Deed) : (worthStep ws d).length = ws.length := by
  unfold worthStep
  split <;> simp
end DL

/-! ### deeds: what is refused, in order -/
namespace Law
open PySem L2 DL
def GoodW : What → Prop
  | .put k w => 0 ≤ k ∧ k < 6 ∧ -1000000000000 ≤ w ∧ w ≤ 1000000000000
  | .add k w => 0 ≤ k ∧ k < 6 ∧ -1000000000000 ≤ w ∧ w ≤ 1000000000000
  | .back h n => 0 ≤ h ∧ h < 8 ∧ 1 ≤ n ∧ n ≤ 1000000000000
  | .sealed rs => Set 200 rs
  | .bye => True
structure GoodD (d : Deed) : Prop where
  h0 : 0 ≤ d.h
  h1 : d.h < 8
  n1 : 1 ≤ d.n
  n2 : d.n ≤ 1000000000000
  t1 : d.n ≤ d.t
  t2 : d.t ≤ 1000000000000
  w : GoodW d.w
theorem is_name_ok {h n : Int} {μ : Store} (a : 0 ≤ h) (b : h < 8) (c : 1 ≤ n) (d : n ≤ 1000000000000) : m_is_name [.int h, .int n] μ = .ok (.sh (.bl true)) μ := by
  simp [m_is_name, b_is_name, a, b, c, d]
theorem are_plain_ok {rs : List Row} {μ : Store} (s : Set 200 rs) : m_are_plain [.tup (rs.map rowD)] μ = .ok (.sh (.bl true)) μ := by
  have hl := s.fit.len
  have h := lc_fm (enc := rowD) (g := gN 1) (t := t_are_plain_1) (e := e_are_plain_1) (ρ := [.sh (.tup (rs.map rowD)), .no]) (μ := μ) (fun _ => false) rowD rs [] (by simp; omega) (fun r hr => ⟨_, rfl, by
    have := is_row_ok (μ := μ) (s.fit.good r hr)
    simp [t_are_plain_1, this], fun z => by cases z⟩)
  have hf : (rs.filter fun _ => false) = [] := by simp
  rw [hf] at h
  have i1 : isiB "tuple" "tuple" = true := by decide
  have e0 : fNe (.ob (.lst [])) (.ob (.lst [])) = some (.sh (.bl false)) := fNe_rows [] []
  have m := merged_ok_t (rs := rs) (μ := μ) (by omega)
  rw [merged_id s.can] at m
  have q := fEq_rows rs rs
  simp [m_are_plain, b_are_plain, List.replicate, fIsi_tup, i1, h, e0, m, q]
theorem len_what {w : What} : fLenB [.d (whatD w)] = some (.sh (.int (match w with | .bye => 1 | .sealed _ => 2 | _ => 3))) := by cases w <;> rfl
theorem is_what_ok {w : What} {μ : Store} (g : GoodW w) : m_is_what [whatD w] μ = .ok (.sh (.bl true)) μ := by
  have fw := fun (a b : Wd) => fEq_wd a b
  match w, g with
  | .bye, _ =>
    have q : fEq (.d (.str "bye")) (.d (.str "bye")) = some (.sh (.bl true)) := fw .bye .bye
    simp [m_is_what, b_is_what, List.replicate, whatD, q]
  | .sealed rs, g =>
    have q : fEq (.d (.str "seal")) (.d (.str "seal")) = some (.sh (.bl true)) := fw .sealed .sealed
    have p := are_plain_ok (μ := μ) g
    simp [m_is_what, b_is_what, List.replicate, whatD, q, p]
  | .back h n, g =>
    have q : fEq (.d (.str "back")) (.d (.str "back")) = some (.sh (.bl true)) := fw .back .back
    have p := is_name_ok (μ := μ) g.1 g.2.1 g.2.2.1 g.2.2.2
    simp [m_is_what, b_is_what, List.replicate, whatD, q, p]
  | .put k v, g =>
    have q : fEq (.d (.str "put")) (.d (.str "back")) = some (.sh (.bl false)) := fw .put .back
    have p : fIn id (.d (.str "put")) (.d (.tup [.str "put", .str "add"])) = some (.sh (.bl true)) := fIn_pa (g := id) (a := .put)
    obtain ⟨g1, g2, g3, g4⟩ := g
    simp [m_is_what, b_is_what, List.replicate, whatD, q, p, g1, g2, g3, g4]
  | .add k v, g =>
    have q : fEq (.d (.str "add")) (.d (.str "back")) = some (.sh (.bl false)) := fw .add .back
    have p : fIn id (.d (.str "add")) (.d (.tup [.str "put", .str "add"])) = some (.sh (.bl true)) := fIn_pa (g := id) (a := .add)
    obtain ⟨g1, g2, g3, g4⟩ := g
    simp [m_is_what, b_is_what, List.replicate, whatD, q, p, g1, g2, g3, g4]
theorem is_deed_ok {d : Deed} {μ : Store} (g : GoodD d) : m_is_deed [deedD d] μ = .ok (.sh (.bl true)) μ := by
  have p := is_name_ok (μ := μ) g.h0 g.h1 g.n1 g.n2
  have q := is_what_ok (μ := μ) g.w
  simp [m_is_deed, b_is_deed, List.replicate, p, q, g.t1, g.t2]
abbrev dsD (ds : List Deed) : D := .lst (ds.map deedD)
theorem need_deeds_ok {ds : List Deed} {μ : Store} (hg : ∀ d ∈ ds, GoodD d) : m_need_deeds [dsD ds] μ = .ok (.sh .non) μ := by
  refine ok_eq ?_
  unfold m_need_deeds b_need_deeds
  simp [List.replicate, enumD_map]
  refine okS_for (enc := fun p : Deed × Nat => .tup [.int (p.2 : Nat), deedD p.1]) (fun left ρ ν => ∃ s1 s2, ρ = [.sh (dsD ds), s1, s2] ∧ ν = μ ∧ ∀ p ∈ left, p.1 ∈ ds) ?_ ?_ ⟨.no, .no, rfl, rfl, fun p hp => by
    have := List.mem_map_of_mem (f := Prod.fst) hp
    rwa [List.zipIdx_map_fst] at this⟩
  · rintro ⟨d, i⟩ left ρ ν N' ⟨s1, s2, rfl, rfl, hm⟩ kk
    refine ⟨_, rfl, ?_⟩
    have q := is_deed_ok (μ := ν) (hg d (hm (d, i) List.mem_cons_self))
    simp [b_need_deeds_1, q]
    exact kk _ _ ⟨_, _, rfl, rfl, fun p hp => hm p (List.mem_cons_of_mem _ hp)⟩
  · rintro ρ ν ⟨s1, s2, rfl, rfl, _⟩
    simp
end Law

/-! ### texts of deeds -/
namespace Law
open PySem L2 DL
/-- the text of an int -/
def iS (i : Int) : Str := if 0 ≤ i then nS i.toNat else ("-" : Str) ++ nS (-i).toNat
theorem neg_tl {n : Nat} (h : 0 < n) : Str.ofString (toString (-(n : Int))) = ("-" : Str) ++ nS n := by
  have e := PyProof.Rows.toString_neg (n := -(n : Int)) (by omega)
  rw [e, show (0 : Int) - -(n : Int) = (n : Int) by omega]
  refine TL.ext_tl ?_
  rw [TL.tl_append, TL.tl_ofString, TL.tl_ofString]
  unfold nS
  rw [TL.tl_ofString, String.toList_append, List.map_append]
theorem fStr_iS {i : Int} (h : i.natAbs < 2 ^ 100) : fStr [.d (.int i)] = some (.sh (.str (iS i))) := by
  rw [fStr_int h]
  unfold iS
  split
  · unfold nS
    rw [show ((i.toNat : Nat) : Int) = i by omega]
  · have := neg_tl (n := (-i).toNat) (by omega)
    rw [← this, show -(((-i).toNat : Nat) : Int) = i by omega]
theorem cut_to {z : Str} {l : List Nat} (e : TL.tl z = l) (h : z.length ≤ 16777216) : fCut (.d (.str z)) none (some 1) = some (.sh (.str ⟨(l.take 1).toArray⟩)) := by
  show (if z.length ≤ 16777216 then some (Rv.sh (.str (cutS z none (some 1)))) else none) = _
  rw [if_pos h, C8.cutS_slice, ← TL.mk_tl z, e, SX.slice_to (by omega)]
  rfl
theorem cut_from {z : Str} {l : List Nat} (e : TL.tl z = l) (h : z.length ≤ 16777216) : fCut (.d (.str z)) (some 1) none = some (.sh (.str ⟨(l.drop 1).toArray⟩)) := by
  show (if z.length ≤ 16777216 then some (Rv.sh (.str (cutS z (some 1) none))) else none) = _
  rw [if_pos h, C8.cutS_slice, ← TL.mk_tl z, e, SX.slice_from (by omega)]
  rfl
theorem signed_ok {i : Int} {μ : Store} (h : i.natAbs < 10 ^ 13) : m_signed_of [.str (iS i)] μ = .ok (.sh (.int i)) μ := by
  have sd : SOk ("-" : Str) := sok_small (by rw [dash_tl]; simp)
  have nn : ∀ i : Int, fIs id (.d (.int i)) (.d .non) = some (.sh (.bl false)) := fun _ => rfl
  unfold iS
  split
  · next c =>
    have no := number_of_ok (n := i.toNat) (μ := μ) (by omega)
    rw [show ((i.toNat : Nat) : Int) = i by omega] at no
    have l2 := nS_len (n := i.toNat) (k := 13) (by decide) (by omega)
    obtain ⟨d, r, e⟩ : ∃ d r, TL.numL i.toNat = d :: r := by
      cases hh : TL.numL i.toNat with
      | nil => exact absurd hh (TL.numL_ne _)
      | cons d r => exact ⟨d, r, rfl⟩
    have ct := cut_to (z := nS i.toNat) ((tl_nS _).trans e) (by omega)
    have dd := TL.numL_digits i.toNat d (by rw [e]; exact List.mem_cons_self)
    have ct : fCut (.d (.str (nS i.toNat))) none (some 1) = some (.sh (.str ⟨#[d]⟩)) := ct
    have s1 : SOk (⟨#[d]⟩ : Str) := sok_small (fun c hc => by rw [show c = d by simpa [TL.tl] using hc]; omega)
    have fn := fNe_str s1 sd
    have ne : (⟨#[d]⟩ : Str) ≠ "-" := fun z => by
      have := congrArg TL.tl z
      rw [dash_tl] at this
      have : d = 45 := by simpa [TL.tl] using this
      omega
    rw [decide_eq_false ne] at fn
    simp [m_signed_of, b_signed_of, List.replicate, ct, fn, no]
  · next c =>
    have no := number_of_ok (n := (-i).toNat) (μ := μ) (by omega)
    rw [show (((-i).toNat : Nat) : Int) = -i by omega] at no
    have l2 := nS_len (n := (-i).toNat) (k := 13) (by decide) (by omega)
    have e : TL.tl (("-" : Str) ++ nS (-i).toNat) = 45 :: TL.numL (-i).toNat := by rw [TL.tl_append, dash_tl, tl_nS]; rfl
    have hl : (("-" : Str) ++ nS (-i).toNat).length ≤ 16777216 := by rw [app_len, lit_len.1]; omega
    have ct := cut_to e hl
    have cf := cut_from e hl
    have e45 : (⟨((45 :: TL.numL (-i).toNat).take 1).toArray⟩ : Str) = "-" := TL.ext_tl (by rw [dash_tl]; rfl)
    have en : (⟨((45 :: TL.numL (-i).toNat).drop 1).toArray⟩ : Str) = nS (-i).toNat := TL.ext_tl (by rw [tl_nS]; rfl)
    rw [e45] at ct
    rw [en] at cf
    have fn := fNe_str sd sd
    rw [decide_eq_true rfl] at fn
    have n0 : ¬ -i = 0 := by omega
    have n1 : ¬ i = 0 := by omega
    simp [m_signed_of, b_signed_of, List.replicate, ct, fn, cf, no, nn, n0, n1]
end Law

/-! ### texts of deeds, whole -/
namespace Law
open PySem L2 DL
def parts : What → List Int
  | .put k v => [k, v]
  | .add k v => [k, v]
  | .back h n => [h, n]
  | _ => []
def tailW : What → List Str
  | .sealed rs => (grpOf rs).map wordG
  | w => (parts w).map iS
def deedWords (d : Deed) : List Str := [nS d.h.toNat, nS d.n.toNat, nS d.t.toNat, wdS d.w.kind] ++ tailW d.w
def deedText (d : Deed) : Str := Txt.join " " (deedWords d)
theorem cut_parts {w : What} (h : w.kind ≠ .sealed) : fCut (.d (whatD w)) (some 1) none = some (.sh (.tup ((parts w).map .int))) := by
  cases w with
  | sealed rs => exact absurd rfl h
  | _ => rfl
theorem fStr_nS {i : Int} (h0 : 0 ≤ i) (h : i ≤ 1000000000000) : fStr [.d (.int i)] = some (.sh (.str (nS i.toNat))) := by
  rw [fStr_int (by omega)]
  unfold nS
  rw [show ((i.toNat : Nat) : Int) = i by omega]
theorem parts_good {w : What} (g : GoodW w) : ∀ i ∈ parts w, i.natAbs ≤ 1000000000000 := by
  match w, g with
  | .put k v, g => intro i hi; simp only [parts, List.mem_cons, List.not_mem_nil, or_false] at hi; obtain ⟨a, b, c, d⟩ := g; rcases hi with rfl | rfl <;> omega
  | .add k v, g => intro i hi; simp only [parts, List.mem_cons, List.not_mem_nil, or_false] at hi; obtain ⟨a, b, c, d⟩ := g; rcases hi with rfl | rfl <;> omega
  | .back h n, g => intro i hi; simp only [parts, List.mem_cons, List.not_mem_nil, or_false] at hi; obtain ⟨a, b, c, d⟩ := g; rcases hi with rfl | rfl <;> omega
  | .sealed rs, _ => intro i hi; simp [parts] at hi
  | .bye, _ => intro i hi; simp [parts] at hi
theorem deed_words_ok {d : Deed} {μ : Store} (g : GoodD d) : m_deed_words [deedD d] μ = .ok (.own (.lst ((deedWords d).map .str))) μ := by
  have f1 := fStr_nS (i := d.h) g.h0 (by have := g.h1; omega)
  have f2 := fStr_nS (i := d.n) (by have := g.n1; omega) g.n2
  have f3 := fStr_nS (i := d.t) (by have := g.n1; have := g.t1; omega) g.t2
  by_cases c : d.w.kind = .sealed
  · obtain ⟨rs, e⟩ := kind_seal.mp c
    have gw := g.w
    rw [e] at gw
    have i1 : fIx (.d (whatD d.w)) (.d (.int 1)) = some (.sh (.tup (rs.map rowD))) := by rw [e]; rfl
    have wo := words_of_ok (x := .tup (rs.map rowD)) (rs := rs) (μ := μ) rfl gw.fit.good (by have := gw.fit.len; omega)
    have gk := (grp_ok gw.can gw.fit.good (by have := gw.fit.len; omega)).len
    have n1 : 4 + (grpOf rs).length ≤ 16777216 := by omega
    have ed : (deedWords d).map D.str = [.str (nS d.h.toNat), .str (nS d.n.toNat), .str (nS d.t.toNat), .str (wdS d.w.kind)] ++ (grpOf rs).map fun g => .str (wordG g) := by
      unfold deedWords tailW
      rw [e, List.map_append, List.map_map]
      rfl
    rw [ed]
    simp [m_deed_words, b_deed_words, List.replicate, f1, f2, f3, c, i1, wo, n1]
  · have cp := cut_parts c
    have pg := parts_good g.w
    have hp : (parts d.w).length ≤ 2 := by cases d.w <;> simp [parts]
    have lc : ∀ s0 s1 s2 s3 s4 s5 : Sl, lcL (gN 6) mYes e_deed_words_1 [s0, s1, s2, s3, s4, s5, .no] ((parts d.w).map .int) μ [] = .ok (((parts d.w).map iS).map .str) μ := fun s0 s1 s2 s3 s4 s5 => by
      rw [lc_fm (enc := D.int) (fun _ => true) (fun i => .str (iS i)) (parts d.w) [] (by simp; omega) (fun i hi => ⟨_, rfl, rfl, fun _ => by
        have := fStr_iS (i := i) (by have := pg i hi; omega)
        simp [e_deed_words_1, this]⟩), List.nil_append, List.filter_eq_self.mpr (fun _ _ => rfl), List.map_map]
      rfl
    have n1 : 4 + (parts d.w).length ≤ 16777216 := by omega
    have ed : (deedWords d).map D.str = [.str (nS d.h.toNat), .str (nS d.n.toNat), .str (nS d.t.toNat), .str (wdS d.w.kind)] ++ ((parts d.w).map iS).map .str := by
      unfold deedWords tailW
      rw [List.map_append]
      cases hw : d.w with
      | sealed rs => rw [hw] at c; exact absurd rfl c
      | _ => rfl
    rw [ed]
    simp [m_deed_words, b_deed_words, List.replicate, f1, f2, f3, c, cp, lc, n1, -List.map_map]
end Law

/-! ### texts of deeds: written -/
namespace Law
open PySem L2 DL
theorem iS_len {i : Int} (h : i.natAbs ≤ 1000000000000) : (iS i).length ≤ 14 := by
  unfold iS
  split
  · have := nS_len (n := i.toNat) (k := 13) (by decide) (by omega)
    omega
  · have := nS_len (n := (-i).toNat) (k := 13) (by decide) (by omega)
    rw [app_len, lit_len.1]
    omega
theorem wd_len (a : Wd) : (wdS a).length ≤ 4 := by cases a <;> decide +kernel
theorem dw_bound {d : Deed} (g : GoodD d) : ((deedWords d).map (·.length)).sum + (deedWords d).length * (" " : Str).length ≤ 100000 := by
  have l1 := nS_len (n := d.h.toNat) (k := 13) (by decide) (by have := g.h0; have := g.h1; omega)
  have l2 := nS_len (n := d.n.toNat) (k := 13) (by decide) (by have := g.n1; have := g.n2; omega)
  have l3 := nS_len (n := d.t.toNat) (k := 13) (by decide) (by have := g.t1; have := g.t2; have := g.n1; omega)
  have l4 := wd_len d.w.kind
  have tb : ((tailW d.w).map (·.length)).sum + (tailW d.w).length ≤ 90000 := by
    have gw := g.w
    have key : ∀ w, GoodW w → w.kind ≠ .sealed → (((parts w).map iS).map (·.length)).sum + ((parts w).map iS).length ≤ 90000 := fun w gw _ => by
      have hp : (parts w).length ≤ 2 := by cases w <;> simp [parts]
      have := sum_le (k := 14) (ps := (parts w).map iS) (fun p hp => by
        obtain ⟨i, hi, rfl⟩ := List.mem_map.mp hp
        exact iS_len (parts_good gw i hi))
      rw [List.length_map] at this ⊢
      omega
    match hw : d.w, gw with
    | .sealed rs, gw =>
      have gk := grp_ok gw.can gw.fit.good (by have := gw.fit.len; omega)
      have := words_bound gk
      rw [lit_len.2.2.2, Nat.mul_one] at this
      exact this
    | .put k v, gw => exact key _ gw (by simp [What.kind])
    | .add k v, gw => exact key _ gw (by simp [What.kind])
    | .back k v, gw => exact key _ gw (by simp [What.kind])
    | .bye, gw => exact key _ gw (by simp [What.kind])
  unfold deedWords
  rw [List.map_append, List.sum_append, List.length_append, lit_len.2.2.2]
  simp
  omega
theorem written_deed_ok {d : Deed} {μ : Store} (g : GoodD d) : m_written_deed [deedD d] μ = .ok (.sh (.str (deedText d))) μ := by
  have nd := need_deeds_ok (ds := [d]) (μ := μ) (fun e he => by rw [show e = d by simpa using he]; exact g)
  have nd : m_need_deeds [.lst [deedD d]] μ = _ := nd
  have dw := deed_words_ok (μ := μ) g
  have jr := x_joinR (s := " ") (μ := μ) (ys := deedWords d) (by have := dw_bound g; omega)
  have sm := strs_map (deedWords d)
  have jr : DL.joinR " " μ (some (deedWords d)) = .ok (.sh (.str (deedText d))) μ := jr
  simp [m_written_deed, b_written_deed, List.replicate, nd, dw, sm, jr]
theorem join_app (y : Str) : ∀ (A ws : List Str), ws ≠ [] → Txt.join y (A ++ [Txt.join y ws]) = Txt.join y (A ++ ws) := by
  intro A ws hne
  refine TL.ext_tl ?_
  rw [TL.join_eq, TL.join_eq, TL.join_eq, TL.tl_join, TL.tl_join, List.map_append, List.map_append]
  rw [show [Str.join y ws].map TL.tl = [TL.joinL (TL.tl y) (ws.map TL.tl)] by rw [List.map_cons, TL.tl_join]; rfl]
  induction A with
  | nil => rfl
  | cons a A ih =>
    have nz : A.map TL.tl ++ ws.map TL.tl ≠ [] := by
      intro z
      exact hne (List.map_eq_nil_iff.mp (List.append_eq_nil_iff.mp z).2)
    have step : ∀ (S p : List Nat) (q : List (List Nat)), q ≠ [] → TL.joinL S (p :: q) = p ++ (S ++ TL.joinL S q) := fun S p q hq => by
      cases q with
      | nil => exact absurd rfl hq
      | cons q r => rfl
    rw [List.map_cons, List.cons_append, List.cons_append, step _ _ _ (by simp), step _ _ _ nz, ih]
theorem law_deed_text_ok {d : Deed} {μ : Store} (g : GoodD d) : m__law_deed_text [deedD d] μ = .ok (.sh (.str (deedText d))) μ := by
  have f1 := fStr_nS (i := d.h) g.h0 (by have := g.h1; omega)
  have f2 := fStr_nS (i := d.n) (by have := g.n1; omega) g.n2
  have f3 := fStr_nS (i := d.t) (by have := g.n1; have := g.t1; omega) g.t2
  have bd := dw_bound g
  have jr := x_joinR (s := " ") (μ := μ) (ys := deedWords d) (by omega)
  have sm := strs_map (deedWords d)
  have jr : DL.joinR " " μ (some (deedWords d)) = .ok (.sh (.str (deedText d))) μ := jr
  by_cases c : d.w.kind = .sealed
  · obtain ⟨rs, e⟩ := kind_seal.mp c
    have gw := g.w
    rw [e] at gw
    have gk := grp_ok gw.can gw.fit.good (by have := gw.fit.len; omega)
    have i1 : fIx (.d (whatD d.w)) (.d (.int 1)) = some (.sh (.tup (rs.map rowD))) := by rw [e]; rfl
    have lt := law_text_ok (x := .tup (rs.map rowD)) (rs := rs) (μ := μ) rfl gw.fit.good (by have := gw.fit.len; omega) gk
    have qn := pdRow.tup.ne2 (by decide) (w := .d (.tup (rs.map rowD))) (w' := .d (.tup [])) (a := rs) (b := []) (pdRow.tup.hpy rs) (pdRow.tup.hpy [])
    have fm0 : ∀ x : D, fMul (.ob (.lst [x])) (.d (.int 0)) = some (.own (.lst [])) := fun _ => rfl
    have fm1 : ∀ x : D, fMul (.ob (.lst [x])) (.d (.int 1)) = some (.own (.lst [x])) := fun _ => rfl
    by_cases c2 : rs = []
    · rw [decide_eq_true c2] at qn
      have ed : (deedWords d).map D.str = [.str (nS d.h.toNat), .str (nS d.n.toNat), .str (nS d.t.toNat), .str (wdS d.w.kind)] := by
        unfold deedWords tailW
        rw [e, c2]
        rfl
      rw [ed] at sm
      simp [m__law_deed_text, b__law_deed_text, List.replicate, f1, f2, f3, c, i1, lt, qn, fm0] at sm ⊢
      simp [sm, jr]
    · rw [decide_eq_false c2] at qn
      have hg : (grpOf rs).map wordG ≠ [] := fun z => by
        have z2 : grpOf rs = [] := List.map_eq_nil_iff.mp z
        have := grp_flat gw.can gw.fit.good
        rw [z2] at this
        exact c2 this.symm
      have ej : Txt.join " " ([nS d.h.toNat, nS d.n.toNat, nS d.t.toNat, wdS d.w.kind] ++ [textG (grpOf rs)]) = deedText d := by
        unfold textG
        rw [join_app " " _ _ hg]
        unfold deedText deedWords tailW
        rw [e]
      have l1 := nS_len (n := d.h.toNat) (k := 13) (by decide) (by have := g.h0; have := g.h1; omega)
      have l2 := nS_len (n := d.n.toNat) (k := 13) (by decide) (by have := g.n1; have := g.n2; omega)
      have l3 := nS_len (n := d.t.toNat) (k := 13) (by decide) (by have := g.t1; have := g.t2; have := g.n1; omega)
      have l4 := wd_len d.w.kind
      have l5 := text_len gk
      have sm2 := strs_map ([nS d.h.toNat, nS d.n.toNat, nS d.t.toNat, wdS d.w.kind] ++ [textG (grpOf rs)])
      have jr2 := x_joinR (s := " ") (μ := μ) (ys := [nS d.h.toNat, nS d.n.toNat, nS d.t.toNat, wdS d.w.kind] ++ [textG (grpOf rs)]) (by rw [lit_len.2.2.2]; simp; omega)
      rw [ej] at jr2
      simp [m__law_deed_text, b__law_deed_text, List.replicate, f1, f2, f3, c, i1, lt, qn, fm1] at sm2 jr2 ⊢
      simp [sm2, jr2]
  · have cp := cut_parts c
    have pg := parts_good g.w
    have hp : (parts d.w).length ≤ 2 := by cases d.w <;> simp [parts]
    have lc : ∀ s0 s1 s2 s3 s4 s5 : Sl, lcL (gN 6) mYes e__law_deed_text_1 [s0, s1, s2, s3, s4, s5, .no] ((parts d.w).map .int) μ [] = .ok (((parts d.w).map iS).map .str) μ := fun s0 s1 s2 s3 s4 s5 => by
      rw [lc_fm (enc := D.int) (fun _ => true) (fun i => .str (iS i)) (parts d.w) [] (by simp; omega) (fun i hi => ⟨_, rfl, rfl, fun _ => by
        have := fStr_iS (i := i) (by have := pg i hi; omega)
        simp [e__law_deed_text_1, this]⟩), List.nil_append, List.filter_eq_self.mpr (fun _ _ => rfl), List.map_map]
      rfl
    have n1 : 4 + (parts d.w).length ≤ 16777216 := by omega
    have ed : (deedWords d).map D.str = [.str (nS d.h.toNat), .str (nS d.n.toNat), .str (nS d.t.toNat), .str (wdS d.w.kind)] ++ ((parts d.w).map iS).map .str := by
      unfold deedWords tailW
      rw [List.map_append]
      cases hw : d.w with
      | sealed rs => rw [hw] at c; exact absurd rfl c
      | _ => rfl
    rw [ed] at sm
    simp at sm
    simp [m__law_deed_text, b__law_deed_text, List.replicate, f1, f2, f3, c, cp, lc, n1, sm, jr]
end Law

/-! ### texts of deeds: read -/
namespace Law
open PySem L2 DL
theorem mem_iS {i : Int} {c : Nat} (h : c ∈ TL.tl (iS i)) : (48 ≤ c ∧ c ≤ 57) ∨ c = 45 := by
  unfold iS at h
  split at h
  · exact .inl (dig_nS h)
  · rw [TL.tl_append, dash_tl] at h
    rcases List.mem_append.mp h with z | z
    · exact .inr (by simpa using z)
    · exact .inl (dig_nS z)
theorem wd_tl (a : Wd) : ∀ c ∈ TL.tl (wdS a), 97 ≤ c ∧ c ≤ 122 := by cases a <;> decide +kernel
theorem word_free {d : Deed} : ∀ p ∈ deedWords d, ∀ c ∈ TL.tl p, c ≠ 32 ∧ c < 128 := by
  intro p hp c hc
  unfold deedWords at hp
  rcases List.mem_append.mp hp with z | z
  · simp only [List.mem_cons, List.not_mem_nil, or_false] at z
    rcases z with rfl | rfl | rfl | rfl
    · have := dig_nS hc; omega
    · have := dig_nS hc; omega
    · have := dig_nS hc; omega
    · have := wd_tl _ c hc; omega
  · unfold tailW at z
    split at z
    · obtain ⟨g, _, rfl⟩ := List.mem_map.mp z
      have := mem_word hc
      omega
    · obtain ⟨i, _, rfl⟩ := List.mem_map.mp z
      have := mem_iS hc
      omega
theorem deed_split (d : Deed) : Txt.split (deedText d) " " = deedWords d := TL.split_join (y := " ") space_tl low_all.2.2.2 (by unfold deedWords; simp) (fun p hp z => (word_free p hp 32 z).1 rfl)
theorem text_small_d (d : Deed) : ∀ c ∈ TL.tl (deedText d), c < 128 := fun c hc => by
  rcases mem_join hc with z | ⟨p, hp, z⟩
  · rw [space_tl] at z
    rw [show c = 32 by simpa using z]
    omega
  · exact (word_free p hp c z).2
theorem deed_ne (d : Deed) : deedText d ≠ "" := fun z => by
  have sp := deed_split d
  rw [z] at sp
  have e : Txt.split "" (" " : Str) = [("" : Str)] := by decide +kernel
  rw [e] at sp
  have := congrArg List.length sp
  unfold deedWords at this
  simp at this
theorem ixW {W : List Str} {k : Nat} {w : Str} (h : W[k]? = some w) : fIx (.ob (.lst (W.map .str))) (.d (.int (k : Int))) = some (.sh (.str w)) := fIx_lstAt (by rw [List.getElem?_map, h]; rfl)
theorem numbers_read_ok {a b c : Nat} {r : List Str} {μ : Store} (ha : a < 10 ^ 13) (hb : b < 10 ^ 13) (hc : c < 10 ^ 13) (hr : r.length ≤ 1000) : m_numbers_read [.lst ((nS a :: nS b :: nS c :: r).map .str)] μ = .ok (.sh (.tup [.int a, .int b, .int c])) μ := by
  have n1 := number_of_ok (n := a) (μ := μ) ha
  have n2 := number_of_ok (n := b) (μ := μ) hb
  have n3 := number_of_ok (n := c) (μ := μ) hc
  have i0 := ixW (W := nS a :: nS b :: nS c :: r) (k := 0) rfl
  have i1 := ixW (W := nS a :: nS b :: nS c :: r) (k := 1) rfl
  have i2 := ixW (W := nS a :: nS b :: nS c :: r) (k := 2) rfl
  have nn : ∀ i : Int, fIs id (.d (.int i)) (.d .non) = some (.sh (.bl false)) := fun _ => rfl
  have hl : ((nS a :: nS b :: nS c :: r).map D.str).length = r.length + 3 := by simp
  generalize (nS a :: nS b :: nS c :: r).map D.str = W at i0 i1 i2 hl ⊢
  have p0 : (0 : Int) < r.length + 3 := by omega
  have p1 : (1 : Int) < r.length + 3 := by omega
  have p2 : (2 : Int) < r.length + 3 := by omega
  have rg : rangeD 0 3 = some [.int 0, .int 1, .int 2] := by rw [rangeD_0 (by omega) (by omega)]; rfl
  have i0 : fIx (.ob (.lst W)) (.d (.int 0)) = _ := i0
  have i1 : fIx (.ob (.lst W)) (.d (.int 1)) = _ := i1
  have i2 : fIx (.ob (.lst W)) (.d (.int 2)) = _ := i2
  simp [m_numbers_read, b_numbers_read, List.replicate, rg, forL, b_numbers_read_1, hl, p0, p1, p2, i0, i1, i2, n1, n2, n3, nn]
theorem what3_ok {x0 x1 x2 : Str} {a : Wd} {p q : Int} {μ : Store} (ha : a = .put ∨ a = .add ∨ a = .back) (p0 : 0 ≤ p) (pb : p.natAbs < 10 ^ 13) (qb : q.natAbs < 10 ^ 13) (q0 : a = .back → 0 ≤ q) : m_what_read [.lst ([x0, x1, x2, wdS a, iS p, iS q].map .str)] μ = .ok (.sh (.tup [.str (wdS a), .int p, .int q])) μ := by
  have s1 := signed_ok (μ := μ) pb
  have s2 := signed_ok (μ := μ) qb
  have i3 : fIx (.ob (.lst [.str x0, .str x1, .str x2, .str (wdS a), .str (iS p), .str (iS q)])) (.d (.int 3)) = some (.sh (.str (wdS a))) := rfl
  have i4 : fIx (.ob (.lst [.str x0, .str x1, .str x2, .str (wdS a), .str (iS p), .str (iS q)])) (.d (.int 4)) = some (.sh (.str (iS p))) := rfl
  have i5 : fIx (.ob (.lst [.str x0, .str x1, .str x2, .str (wdS a), .str (iS p), .str (iS q)])) (.d (.int 5)) = some (.sh (.str (iS q))) := rfl
  have nn : ∀ i : Int, fIs id (.d (.int i)) (.d .non) = some (.sh (.bl false)) := fun _ => rfl
  have fb : fNe (.d (.str (wdS a))) (.d (.str "bye")) = some (.sh (.bl true)) := by
    have := fNe_str (sok_wd a) (sok_wd .bye)
    have ne : wdS a ≠ wdS .bye := fun z => by
      have := wdS_inj _ _ z
      rcases ha with rfl | rfl | rfl <;> cases this
    rw [decide_eq_false ne] at this
    exact this
  have np : ¬ p < 0 := by omega
  by_cases c : a = .back
  · have nq : ¬ q < 0 := by have := q0 c; omega
    simp [m_what_read, b_what_read, List.replicate, i3, fb, forL, b_what_read_1, i4, i5, s1, s2, nn, np, nq]
  · by_cases nq : q < 0
    · simp [m_what_read, b_what_read, List.replicate, i3, fb, forL, b_what_read_1, i4, i5, s1, s2, nn, np, nq, c]
    · simp [m_what_read, b_what_read, List.replicate, i3, fb, forL, b_what_read_1, i4, i5, s1, s2, nn, np, nq]
theorem what1_ok {x0 x1 x2 : Str} {μ : Store} : m_what_read [.lst ([x0, x1, x2, wdS .bye].map .str)] μ = .ok (.sh (.tup [.str "bye"])) μ := by
  have i3 : fIx (.ob (.lst [.str x0, .str x1, .str x2, .str (wdS .bye)])) (.d (.int 3)) = some (.sh (.str (wdS .bye))) := rfl
  have fb : fNe (.d (.str (wdS .bye))) (.d (.str "bye")) = some (.sh (.bl false)) := by
    have := fNe_str (sok_wd .bye) (sok_wd .bye)
    rw [decide_eq_true rfl] at this
    exact this
  simp [m_what_read, b_what_read, List.replicate, i3, fb, forL]
  rfl
end Law

namespace Law
open PySem L2 DL
theorem wd_in (a : Wd) : decide (wdS a ∈ (["put", "add", "back", "seal", "bye"] : List Str)) = true := decide_eq_true (by cases a <;> simp [wdS])
theorem read_deed_ok {d : Deed} {μ : Store} (g : GoodD d) : m_read_deed [.str (deedText d)] μ = .ok (.sh (deedD d)) μ := by
  have s1 : SOk (deedText d) := sok_small (text_small_d d)
  have s0 : SOk ("" : Str) := sok_small (by rw [empty_tl]; simp)
  have fn := fNe_str s1 s0
  rw [decide_eq_false (deed_ne d)] at fn
  have tl := Nat.le_trans (join_len " " (deedWords d)) (dw_bound g)
  have tl : (deedText d).length ≤ 100000 := tl
  have sp := x_splitR (μ := μ) (deed_split d) (by decide +kernel) (by omega)
  obtain ⟨g1, g2, g3, g4, g5, g6, gw⟩ := g
  have isd := is_deed_ok (d := d) (μ := μ) ⟨g1, g2, g3, g4, g5, g6, gw⟩
  have wi := wd_in d.w.kind
  have e1 : ((d.h.toNat : Nat) : Int) = d.h := by omega
  have e2 : ((d.n.toNat : Nat) : Int) = d.n := by omega
  have e3 : ((d.t.toNat : Nat) : Int) = d.t := by omega
  have nr := fun (r : List Str) (hr : r.length ≤ 1000) => numbers_read_ok (a := d.h.toNat) (b := d.n.toNat) (c := d.t.toNat) (r := r) (μ := μ) (by omega) (by omega) (by omega) hr
  rw [e1, e2, e3] at nr
  obtain ⟨dh, dn, dt, w⟩ := d
  simp only at *
  have i3 : ∀ (a b c e : D) (r : List D), fIx (.ob (.lst (a :: b :: c :: e :: r))) (.d (.int 3)) = some (.sh e) := fun a b c e r => fIx_at (by omega) (by simp; omega)
  have len4 : ∀ r : List D, ¬ ((r.length : Int) + 1 + 1 + 1 + 1 < 4) := fun r => by omega
  have k3 : ∀ (a : Wd) (p q : Int), (a = .put ∨ a = .add ∨ a = .back) → 0 ≤ p → p.natAbs < 10 ^ 13 → q.natAbs < 10 ^ 13 → (a = .back → 0 ≤ q) → deedWords ⟨dh, dn, dt, w⟩ = [nS dh.toNat, nS dn.toNat, nS dt.toNat, wdS a, iS p, iS q] → whatD w = .tup [.str (wdS a), .int p, .int q] → w.kind = a → m_read_deed [.str (deedText ⟨dh, dn, dt, w⟩)] μ = .ok (.sh (deedD ⟨dh, dn, dt, w⟩)) μ := fun a p q ha p0 pb qb q0 ew ewd ek => by
    rw [ew] at sp
    have n0 := nr [wdS a, iS p, iS q] (by simp)
    have wr := what3_ok (x0 := nS dh.toNat) (x1 := nS dn.toNat) (x2 := nS dt.toNat) (μ := μ) ha p0 pb qb q0
    have ca : ¬ a = .sealed := by rcases ha with rfl | rfl | rfl <;> simp
    rw [ek] at wi
    have ed : deedD ⟨dh, dn, dt, w⟩ = .tup [.int dh, .int dn, .int dt, .tup [.str (wdS a), .int p, .int q]] := by unfold deedD; rw [ewd]
    rw [ed] at isd ⊢
    simp at sp n0 wr wi
    simp [m_read_deed, b_read_deed, List.replicate, fn, sp, n0, i3, wi, ca, wr, isd]
  cases w with
  | put k v => exact k3 .put k v (.inl rfl) gw.1 (by have := gw.2.1; have := gw.1; omega) (by have := gw.2.2; omega) (fun z => by cases z) (by simp [deedWords, tailW, parts, What.kind]) (by simp [whatD, wdS]) (by simp [What.kind])
  | add k v => exact k3 .add k v (.inr (.inl rfl)) gw.1 (by have := gw.2.1; have := gw.1; omega) (by have := gw.2.2; omega) (fun z => by cases z) (by simp [deedWords, tailW, parts, What.kind]) (by simp [whatD, wdS]) (by simp [What.kind])
  | back k v => exact k3 .back k v (.inr (.inr rfl)) gw.1 (by have := gw.2.1; have := gw.1; omega) (by have := gw.2.2; omega) (fun _ => by have := gw.2.2.1; omega) (by simp [deedWords, tailW, parts, What.kind]) (by simp [whatD, wdS]) (by simp [What.kind])
  | bye =>
    have ew : deedWords ⟨dh, dn, dt, .bye⟩ = [nS dh.toNat, nS dn.toNat, nS dt.toNat, wdS .bye] := by simp [deedWords, tailW, parts, What.kind]
    rw [ew] at sp
    have n0 := nr [wdS .bye] (by simp)
    have wr := what1_ok (x0 := nS dh.toNat) (x1 := nS dn.toNat) (x2 := nS dt.toNat) (μ := μ)
    have ed : deedD ⟨dh, dn, dt, .bye⟩ = .tup [.int dh, .int dn, .int dt, .tup [.str "bye"]] := by simp [deedD, whatD]
    rw [ed] at isd ⊢
    simp [What.kind] at sp n0 wr wi
    simp [m_read_deed, b_read_deed, List.replicate, fn, sp, n0, i3, wi, wr, isd]
  | sealed rs =>
    have ew : deedWords ⟨dh, dn, dt, .sealed rs⟩ = nS dh.toNat :: nS dn.toNat :: nS dt.toNat :: wdS .sealed :: (grpOf rs).map wordG := by simp [deedWords, tailW, What.kind]
    rw [ew] at sp
    have gk := grp_ok gw.can gw.fit.good (by have := gw.fit.len; omega)
    have gl := gk.len
    have n0 := nr (wdS .sealed :: (grpOf rs).map wordG) (by simp; omega)
    have rr := rows_read_ok (gs := grpOf rs) (k := 4) (μ := μ) gk
    rw [grp_flat gw.can gw.fit.good] at rr
    have ed : deedD ⟨dh, dn, dt, .sealed rs⟩ = .tup [.int dh, .int dn, .int dt, .tup [.str "seal", .tup (rs.map rowD)]] := by simp [deedD, whatD]
    rw [ed] at isd ⊢
    have ct : ∀ (a b c e : D) (r : List D), cutD (a :: b :: c :: e :: r) (some 4) none = r := fun a b c e r => by
      rw [cutD_drop _ (by omega)]
      rfl
    have rr : m_rows_read [.lst (((grpOf rs).map wordG).map .str), .int 4] μ = .ok (.own (.lst (rs.map rowD))) μ := by rw [List.map_map]; exact rr
    simp [What.kind, -List.map_map] at sp n0 wi
    simp [m_read_deed, b_read_deed, List.replicate, fn, sp, n0, i3, wi, ct, rr, isd, -List.map_map]
    intro z
    omega
end Law

/-! ### rows thrown -/
namespace Law
open PySem L2 DL
theorem rows_ok {d : Ob} {far hs most : Int} {μ : Store} {Q : Rv → Store → Prop} (hd : Dice d) (hf : 1 ≤ far) (hf2 : far ≤ 1000000000000) (hh : 0 < hs) (hh2 : hs ≤ 8) (hm : 0 ≤ most) (hm2 : most ≤ 200)
    (k : ∀ rs d', Dice d' → Fit most.toNat rs → (∀ r ∈ rs, r.1 < hs ∧ r.2.2 ≤ far) → Q (.own (.lst (rs.map rowD))) (d' :: μ)) : Ok (m__law_rows [.loc 0, .int hs, .int far, .int most] (d :: μ)) Q := by
  unfold m__law_rows b__law_rows
  simp [List.replicate]
  refine next_ok hd (by omega) (by omega) fun v d1 hd1 a1 b1 => ?_
  simp [rangeD_0 a1 (by omega)]
  refine okS_for (enc := fun i : Nat => .int (i : Int)) (fun left ρ ν => ∃ rs d' s5 s6 s7, ρ = [.sh (.loc 0), .sh (.int hs), .sh (.int far), .sh (.int most), .own (.lst (rs.map rowD)), s5, s6, s7] ∧ ν = d' :: μ ∧ Dice d' ∧ rs.length + left.length = v.toNat ∧ (∀ r ∈ rs, Good r ∧ r.1 < hs ∧ r.2.2 ≤ far)) ?_ ?_ ⟨[], d1, .no, .no, .no, rfl, rfl, hd1, by simp, fun r hr => by simp at hr⟩
  · rintro x left ρ ν N' ⟨rs, d', s5, s6, s7, rfl, rfl, hd', hl, hg⟩ kk
    simp only [List.length_cons] at hl
    have hl' : rs.length < 16777216 := by omega
    refine ⟨_, rfl, ?_⟩
    simp [b__law_rows_1]
    refine next_ok hd' (by omega) (by omega) fun v1 d1 hd1 a1 b1 => ?_
    simp
    refine next_ok hd1 (by omega) (by omega) fun v2 d2 hd2 a2 b2 => ?_
    simp
    refine next_ok hd2 (by omega) (by omega) fun v3 d3 hd3 a3 b3 => ?_
    simp
    refine next_ok hd3 (by omega) (by omega) fun v4 d4 hd4 a4 b4 => ?_
    obtain ⟨w', hw, dd⟩ := fIx_3 (a := .int 0) (b := .int v2) (c := .int v3) a4 b4
    obtain ⟨w, rfl, hw0⟩ : ∃ w : Int, w' = .int w ∧ 0 ≤ w := by
      rcases dd with rfl | rfl | rfl
      · exact ⟨0, rfl, Int.le_refl _⟩
      · exact ⟨v2, rfl, a2⟩
      · exact ⟨v3, rfl, a3⟩
    simp [hw]
    refine next_ok hd4 (by omega) (by omega) fun v5 d5 hd5 a5 b5 => ?_
    simp [hl']
    refine kk _ _ ⟨rs ++ [(v5, 1 + v1, min far (1 + v1 + w))], d5, _, _, _, by rw [List.map_append]; rfl, rfl, hd5, by simp; omega, fun r hr => ?_⟩
    simp only [List.mem_append, List.mem_singleton] at hr
    rcases hr with hr | rfl
    · exact hg _ hr
    · unfold Good
      simp only
      omega
  · rintro ρ ν ⟨rs, d', s5, s6, s7, rfl, rfl, hd', hl, hg⟩
    simp
    exact k rs d' hd' ⟨fun r hr => (hg r hr).1, by simp at hl; omega⟩ fun r hr => (hg r hr).2
end Law

/-! ### names, one by one -/
namespace St
abbrev Nm := Int × Int
def nlt (a b : Nm) : Prop := a.1 < b.1 ∨ (a.1 = b.1 ∧ a.2 < b.2)
def Asc (ns : List Nm) : Prop := ns.Pairwise nlt
theorem asc_ext : ∀ {xs ys : List Nm}, Asc xs → Asc ys → (∀ x, x ∈ xs ↔ x ∈ ys) → xs = ys
  | [], [], _, _, _ => rfl
  | [], y :: ys, _, _, e => absurd ((e y).mpr List.mem_cons_self) (by simp)
  | x :: xs, [], _, _, e => absurd ((e x).mp List.mem_cons_self) (by simp)
  | x :: xs, y :: ys, hx, hy, e => by
    obtain ⟨x1, x2⟩ := List.pairwise_cons.mp hx
    obtain ⟨y1, y2⟩ := List.pairwise_cons.mp hy
    have exy : x = y := by
      rcases List.mem_cons.mp ((e x).mp List.mem_cons_self) with z | z
      · exact z
      rcases List.mem_cons.mp ((e y).mpr List.mem_cons_self) with w | w
      · exact w.symm
      have a := y1 x z
      have b := x1 y w
      unfold nlt at a b
      omega
    subst exy
    rw [asc_ext x2 y2 fun z => ?_]
    constructor
    · intro hz
      rcases List.mem_cons.mp ((e z).mp (List.mem_cons_of_mem _ hz)) with w | w
      · rw [w] at hz
        have := x1 x hz
        unfold nlt at this
        omega
      · exact w
    · intro hz
      rcases List.mem_cons.mp ((e z).mpr (List.mem_cons_of_mem _ hz)) with w | w
      · rw [w] at hz
        have := y1 x hz
        unfold nlt at this
        omega
      · exact w
def single (x : Nm) : Row := (x.1, x.2, x.2)
def toldR (ns : List Nm) : List Row := mergeS (ns.map single)
theorem in_single {ns : List Nm} {h n : Int} : In (ns.map single) h n ↔ (h, n) ∈ ns := by
  constructor
  · rintro ⟨r, hr, a, b, c⟩
    obtain ⟨x, hx, rfl⟩ := List.mem_map.mp hr
    have a : x.1 = h := a
    have b : x.2 ≤ n := b
    have c : n ≤ x.2 := c
    have : x = (h, n) := by
      obtain ⟨p, q⟩ := x
      simp only at a b c
      rw [a, show q = n by omega]
    rw [← this]
    exact hx
  · intro hx
    exact ⟨_, List.mem_map.mpr ⟨_, hx, rfl⟩, rfl, Int.le_refl _, Int.le_refl _⟩
theorem told_spec {ns : List Nm} (ha : Asc ns) : Canon (toldR ns) ∧ ∀ h n, In (toldR ns) h n ↔ (h, n) ∈ ns := by
  have hs : (ns.map single).Pairwise Le := by
    rw [List.pairwise_map]
    refine ha.imp fun {a b} h => ?_
    unfold nlt at h
    show a.1 < b.1 ∨ (a.1 = b.1 ∧ a.2 ≤ b.2)
    omega
  have ho : ∀ r ∈ ns.map single, Ok r := fun r hr => by
    obtain ⟨x, _, rfl⟩ := List.mem_map.mp hr
    exact Int.le_refl _
  obtain ⟨a, b⟩ := mergeS_ok ho hs
  exact ⟨a, fun h n => (b h n).trans in_single⟩
def expand (rs : List Row) : List Nm := rs.flatMap fun r => (List.range (r.2.2 - r.2.1 + 1).toNat).map fun i : Nat => (r.1, r.2.1 + (i : Int))
theorem expand_mem {rs : List Row} {h n : Int} : (h, n) ∈ expand rs ↔ In rs h n := by
  unfold expand
  rw [List.mem_flatMap]
  constructor
  · rintro ⟨r, hr, hx⟩
    obtain ⟨i, hi, e⟩ := List.mem_map.mp hx
    have hi := List.mem_range.mp hi
    have e1 : r.1 = h := congrArg Prod.fst e
    have e2 : r.2.1 + (i : Int) = n := congrArg Prod.snd e
    exact ⟨r, hr, e1, by omega, by omega⟩
  · rintro ⟨r, hr, a, b, c⟩
    refine ⟨r, hr, List.mem_map.mpr ⟨(n - r.2.1).toNat, List.mem_range.mpr (by omega), ?_⟩⟩
    rw [a, show r.2.1 + ((n - r.2.1).toNat : Int) = n by omega]
theorem expand_asc : ∀ {rs : List Row}, Canon rs → Asc (expand rs)
  | [], _ => List.Pairwise.nil
  | r :: rs, c => by
    obtain ⟨c1, c2, c3⟩ := canon_cons.mp c
    show Asc (((List.range (r.2.2 - r.2.1 + 1).toNat).map fun i : Nat => (r.1, r.2.1 + (i : Int))) ++ expand rs)
    refine List.pairwise_append.mpr ⟨?_, expand_asc c3, fun x hx y hy => ?_⟩
    · rw [List.pairwise_map]
      refine List.pairwise_lt_range.imp fun {i j} h => .inr ⟨rfl, ?_⟩
      show r.2.1 + (i : Int) < r.2.1 + (j : Int)
      omega
    · obtain ⟨i, hi, rfl⟩ := List.mem_map.mp hx
      have hi := List.mem_range.mp hi
      obtain ⟨yh, yn⟩ := y
      obtain ⟨q, hq, a, b, d⟩ := expand_mem.mp hy
      have := c2 q hq
      unfold Sep at this
      show r.1 < yh ∨ (r.1 = yh ∧ r.2.1 + (i : Int) < yn)
      omega
theorem told_expand {rs : List Row} (c : Canon rs) : toldR (expand rs) = rs := by
  obtain ⟨a, b⟩ := told_spec (expand_asc c)
  exact canon_ext a c fun h n => (b h n).trans expand_mem
/-- told row by row, as the law does -/
theorem told_step {l : Row} {ns : List Nm} (ha : ∀ x ∈ ns, l.1 < x.1 ∨ (l.1 = x.1 ∧ l.2.2 < x.2)) : ∀ x ∈ ns, (l.1 = x.1 ∧ x.2 ≤ l.2.2 + 1 ↔ l.1 = x.1 ∧ l.2.2 + 1 = x.2) ∧ (l.1 = x.1 → max l.2.2 x.2 = x.2) := fun x hx => by
  have := ha x hx
  refine ⟨by omega, fun _ => by omega⟩
/-! sorted names -/
def insN (lt : Nm → Nm → Bool) (x : Nm) : List Nm → List Nm
  | [] => [x]
  | y :: ys => if lt y x = true then y :: insN lt x ys else x :: y :: ys
def moved (d : Int) (rs : List Row) : List Row := rs.map fun r => (r.1, r.2.1 + d, r.2.2 + d)
theorem in_moved {d : Int} {rs : List Row} {h n : Int} : In (moved d rs) h n ↔ In rs h (n - d) := by
  constructor
  · rintro ⟨r, hr, a, b, c⟩
    obtain ⟨q, hq, rfl⟩ := List.mem_map.mp hr
    have a : q.1 = h := a
    have b : q.2.1 + d ≤ n := b
    have c : n ≤ q.2.2 + d := c
    exact ⟨q, hq, a, by omega, by omega⟩
  · rintro ⟨q, hq, a, b, c⟩
    exact ⟨_, List.mem_map.mpr ⟨q, hq, rfl⟩, a, show q.2.1 + d ≤ n by omega, show n ≤ q.2.2 + d by omega⟩
theorem canon_moved {d : Int} {rs : List Row} (c : Canon rs) : Canon (moved d rs) := by
  obtain ⟨c1, c2⟩ := c
  refine ⟨fun r hr => ?_, ?_⟩
  · obtain ⟨q, hq, rfl⟩ := List.mem_map.mp hr
    have := c1 q hq
    unfold Ok at this ⊢
    show q.2.1 + d ≤ q.2.2 + d
    omega
  · show (rs.map fun r => (r.1, r.2.1 + d, r.2.2 + d)).Pairwise Sep
    rw [List.pairwise_map]
    refine c2.imp fun {a b} h => ?_
    unfold Sep at h ⊢
    show a.1 < b.1 ∨ (a.1 = b.1 ∧ a.2.2 + d + 1 < b.2.1 + d)
    omega
end St

/-! ### names, told rows -/
namespace Law
open PySem L2 DL
abbrev nmD (ns : List Name) : D := .lst (ns.map nameD)
theorem rangeD_2 {a b : Int} (h0 : 0 ≤ a) (h1 : b ≤ 2000000000000) (h2 : a ≤ b + 1) : rangeD a (b + 1) = some ((List.range (b - a + 1).toNat).map fun i : Nat => .int (a + (i : Int))) := by
  unfold rangeD
  rw [if_pos (by omega), show b + 1 - a = b - a + 1 by omega]
def tru : Unit → D := fun _ => .bl true
theorem names_ok {rs : List Row} {μ : Store} {F : Nat} (hg : ∀ r ∈ rs, Good r ∧ (r.2.2 - r.2.1 + 1).toNat ≤ F) (hF : rs.length * F < 16777216) : m__law_names [rsD rs] μ = .ok (.own (.lst ((St.expand (merged rs)).map nameD))) μ := by
  refine ok_eq ?_
  unfold m__law_names b__law_names
  simp [List.replicate]
  have e0 : (.own (.dT []) : Sl) = .own (.dT (dctD nkey tru ([] : List (Name × Unit)))) := rfl
  rw [e0]
  refine okS_for (enc := rowD) (fun left ρ ν => ∃ (kvs : List (Name × Unit)) (done : List Row) (s2 s3 s4 s5 : Sl), ρ = [.sh (rsD rs), .own (.dT (dctD nkey tru kvs)), s2, s3, s4, s5] ∧ ν = μ ∧ (kvs.map (·.1)).Nodup ∧ rs = done ++ left ∧ (∀ h n, (h, n) ∈ kvs.map (·.1) ↔ St.In done h n) ∧ kvs.length + left.length * F ≤ rs.length * F) ?_ ?_ ⟨[], [], .no, .no, .no, .no, rfl, rfl, List.nodup_nil, rfl, fun h n => ⟨fun z => by simp at z, fun z => absurd z St.in_nil⟩, by simp⟩
  · rintro r left ρ ν N' ⟨kvs, done, s2, s3, s4, s5, rfl, rfl, hn, hd, hm, hl⟩ kk
    obtain ⟨h, a, b⟩ := r
    have hr : (h, a, b) ∈ rs := by rw [hd]; exact List.mem_append_right _ List.mem_cons_self
    obtain ⟨g, hf⟩ := hg _ hr
    have g4 : a ≤ b := g.2.2.2.1
    have g3 : 1 ≤ a := g.2.2.1
    have g5 : b ≤ 1000000000000 := g.2.2.2.2
    have hf : (b - a + 1).toNat ≤ F := hf
    simp only [List.length_cons, Nat.add_mul, Nat.one_mul] at hl
    have hm0 : ∀ h' n, (h', n) ∈ kvs.map (·.1) ↔ St.In done h' n ∨ (h' = h ∧ a ≤ n ∧ n < a + ((0 : Nat) : Int)) := fun h' n => by
      rw [hm]
      have : ¬ (h' = h ∧ a ≤ n ∧ n < a + ((0 : Nat) : Int)) := by omega
      simp only [this, or_false]
    refine ⟨_, rfl, ?_⟩
    simp [b__law_names_2, rangeD_2 (show 0 ≤ a by omega) (show b ≤ 2000000000000 by omega) (by omega)]
    refine okS_for (enc := fun i : Nat => .int (a + (i : Int))) (fun lf ρ ν' => ∃ (kvs' : List (Name × Unit)) (i : Nat) (s5 : Sl), ρ = [.sh (rsD rs), .own (.dT (dctD nkey tru kvs')), .sh (.int h), .sh (.int a), .sh (.int b), s5] ∧ ν' = ν ∧ (kvs'.map (·.1)).Nodup ∧ lf = List.range' i ((b - a + 1).toNat - i) ∧ i ≤ (b - a + 1).toNat ∧ (∀ h' n, (h', n) ∈ kvs'.map (·.1) ↔ St.In done h' n ∨ (h' = h ∧ a ≤ n ∧ n < a + i)) ∧ kvs'.length ≤ kvs.length + i) ?_ ?_ ⟨kvs, 0, s5, rfl, rfl, hn, by rw [List.range_eq_range']; rfl, Nat.zero_le _, hm0, Nat.le_refl _⟩
    · rintro x lf ρ ν' N2 ⟨kvs', i, s5, rfl, rfl, hn', hlf, hi, hm', hl'⟩ k2
      have hi2 : i < (b - a + 1).toNat := by
        rcases Nat.lt_or_ge i (b - a + 1).toNat with z | z
        · exact z
        · rw [Nat.sub_eq_zero_of_le z] at hlf; cases hlf
      have ex : (b - a + 1).toNat - i = (b - a + 1).toNat - (i + 1) + 1 := by omega
      rw [ex, List.range'_succ] at hlf
      injection hlf with hx hlf
      subst hx
      refine ⟨_, rfl, ?_⟩
      have hs := fSet_names (val := tru) (xs := kvs') (h := h) (n := a + (x : Int)) (v := ()) (by omega)
      have hs : fSet (.dT (dctD nkey tru kvs')) (.tup [.int h, .int (a + (x : Int))]) (.bl true) = _ := hs
      simp [b__law_names_1, hs]
      refine k2 _ _ ⟨putA kvs' (h, a + (x : Int)) (), x + 1, _, rfl, rfl, putA_nodup _ _ hn', hlf, by omega, fun h' n => ?_, ?_⟩
      · rw [putA_mem, hm', Prod.mk.injEq]
        by_cases z : St.In done h' n
        · simp only [z, true_or]
        · simp only [z, false_or]
          omega
      · have := putA_len kvs' (h, a + (x : Int)) ()
        omega
    · rintro ρ ν' ⟨kvs', i, s5, rfl, rfl, hn', hlf, hi, hm', hl'⟩
      have hi2 : i = (b - a + 1).toNat := by
        have := congrArg List.length hlf
        rw [List.length_range'] at this
        simp at this
        omega
      refine kk _ _ ⟨kvs', done ++ [(h, a, b)], _, _, _, s5, rfl, rfl, hn', by rw [hd, List.append_assoc]; rfl, fun h' n => ?_, by omega⟩
      rw [hm', St.in_append, St.in_cons]
      have : ¬ St.In [] h' n := St.in_nil
      show St.In done h' n ∨ _ ↔ St.In done h' n ∨ (h = h' ∧ a ≤ n ∧ n ≤ b) ∨ _
      by_cases z : St.In done h' n
      · simp [z]
      · simp only [z, false_or, this, or_false]
        omega
  · rintro ρ ν ⟨kvs, done, s2, s3, s4, s5, rfl, rfl, hn, hd, hm, hl⟩
    rw [List.append_nil] at hd
    subst hd
    simp [fSrt_names]
    have hok : ∀ r ∈ rs, St.Ok r := fun r hr => (hg r hr).1.ok
    obtain ⟨c1, c2⟩ := merged_spec hok
    refine congrArg (List.map nameD) ?_
    exact St.asc_ext (sortN_asc hn) (St.expand_asc c1) fun x => by
      obtain ⟨xh, xn⟩ := x
      rw [(sortN_perm _).mem_iff, hm, St.expand_mem, c2]
theorem told_turn {s0 : Sl} {rs : List Row} {l : Row} {x : Name} {μ : Store} {N : Ev → Store → Prop} {T : Rv → Store → Prop} (hl : rs.length + 1 < 16777216) (hx : l.1 < x.1 ∨ (l.1 = x.1 ∧ l.2.2 < x.2))
    (k : ∀ rs' l', rs' ++ [l'] = rs ++ (if l.1 = x.1 ∧ x.2 ≤ l.2.2 + 1 then [(l.1, l.2.1, max l.2.2 x.2)] else [l, (x.1, x.2, x.2)]) → l'.1 = x.1 → l'.2.2 = x.2 → N [s0, .own (.lst (rs'.map rowD ++ [rowD l'])), .sh (.int x.1), .sh (.int x.2)] μ) : OkS (b__law_told_rows_1 [s0, .own (.lst (rs.map rowD ++ [rowD l])), .sh (.int x.1), .sh (.int x.2)] μ) N T := by
  obtain ⟨lh, la, lb⟩ := l
  obtain ⟨h, n⟩ := x
  have e0 := fNe_snoc_nil rs (lh, la, lb)
  simp only [rowD_mk] at e0 ⊢
  simp only at hx k
  by_cases c1 : lh = h
  · subst c1
    by_cases c2 : lb + 1 = n
    · subst c2
      simp [b__law_told_rows_1, e0]
      have := k rs (lh, la, lb + 1) (by rw [if_pos ⟨rfl, by omega⟩, show max lb (lb + 1) = lb + 1 by omega]) rfl rfl
      simpa using this
    · simp [b__law_told_rows_1, e0, c2, hl]
      have := k (rs ++ [(lh, la, lb)]) (lh, n, n) (by rw [if_neg (fun z => c2 (by omega)), List.append_assoc]; rfl) rfl rfl
      simpa using this
  · simp [b__law_told_rows_1, e0, c1, hl]
    have := k (rs ++ [(lh, la, lb)]) (h, n, n) (by rw [if_neg (fun z => c1 z.1), List.append_assoc]; rfl) rfl rfl
    simpa using this
theorem told_rows_ok {ns : List Name} {μ : Store} (ha : St.Asc ns) (hl : ns.length < 16777216) : m__law_told_rows [nmD ns] μ = .ok (.own (.lst ((St.toldR ns).map rowD))) μ := by
  refine ok_eq ?_
  unfold m__law_told_rows b__law_told_rows
  simp [List.replicate]
  refine okS_for (enc := nameD) (fun left ρ ν => ∃ s2 s3, ν = μ ∧ St.Asc left ∧ ((left = ns ∧ ρ = [.sh (nmD ns), .own (.lst []), s2, s3]) ∨ ∃ rs l, ρ = [.sh (nmD ns), .own (.lst (rs.map rowD ++ [rowD l])), s2, s3] ∧ rs ++ St.mergeR l (left.map St.single) = St.toldR ns ∧ rs.length + left.length + 1 ≤ ns.length ∧ ∀ x ∈ left, l.1 < x.1 ∨ (l.1 = x.1 ∧ l.2.2 < x.2))) ?_ ?_ ⟨.no, .no, rfl, ha, .inl ⟨rfl, rfl⟩⟩
  · rintro x left ρ ν N' ⟨s2, s3, rfl, hasc, h⟩ kk
    obtain ⟨a1, a2⟩ := List.pairwise_cons.mp hasc
    rcases h with ⟨rfl, rfl⟩ | ⟨rs, l, rfl, h1, h2, h3⟩
    · refine ⟨_, rfl, ?_⟩
      have e0 : fNe (.ob (.lst [])) (.ob (.lst [])) = some (.sh (.bl false)) := fNe_rows [] []
      obtain ⟨h, n⟩ := x
      simp [b__law_told_rows_1, e0]
      exact kk _ _ ⟨_, _, rfl, a2, .inr ⟨[], (h, n, n), rfl, rfl, by simp, fun y hy => a1 y hy⟩⟩
    · simp only [List.length_cons] at h2
      refine ⟨_, rfl, ?_⟩
      refine told_turn (by omega) (h3 x List.mem_cons_self) fun rs' l' e e1 e2 => ?_
      have e4 : rs.length ≤ rs'.length ∧ rs'.length ≤ rs.length + 1 := by
        have := congrArg List.length e
        simp only [List.length_append, List.length_cons, List.length_nil] at this
        split at this <;> simp at this <;> omega
      refine kk _ _ ⟨_, _, rfl, a2, .inr ⟨rs', l', rfl, ?_, by omega, fun y hy => ?_⟩⟩
      · rw [← h1, List.map_cons, St.mergeR]
        show _ = rs ++ (if l.1 = x.1 ∧ x.2 ≤ l.2.2 + 1 then St.mergeR (l.1, l.2.1, max l.2.2 x.2) (left.map St.single) else l :: St.mergeR (St.single x) (left.map St.single))
        split at e
        · next c =>
          rw [if_pos c]
          obtain ⟨e5, e6⟩ := List.append_inj' e rfl
          rw [e5]
          injection e6 with e6
          rw [e6]
        · next c =>
          rw [if_neg c]
          have e : rs' ++ [l'] = (rs ++ [l]) ++ [(x.1, x.2, x.2)] := by rw [e, List.append_assoc]; rfl
          obtain ⟨e5, e6⟩ := List.append_inj' e rfl
          rw [e5]
          injection e6 with e6
          rw [e6, List.append_assoc]
          rfl
      · have := a1 y hy
        rw [e1, e2]
        exact this
  · rintro ρ ν ⟨s2, s3, rfl, hasc, h⟩
    rcases h with ⟨h, rfl⟩ | ⟨rs, l, rfl, h1, h2, h3⟩
    · rw [← h]
      simp [St.toldR, St.mergeS]
    · have h1 : rs ++ [l] = St.toldR ns := h1
      have e : rs.map rowD ++ [rowD l] = (St.toldR ns).map rowD := by rw [← h1, List.map_append]; rfl
      simp [e]
end Law

/-! ### rows of small numbers -/
namespace Law
open PySem L2 DL
/-- rows of small numbers -/
def Low (far : Int) (k : Nat) (rs : List Row) : Prop := Fit k rs ∧ ∀ r ∈ rs, r.2.2 ≤ far
theorem Low.mono {far : Int} {k l : Nat} {rs : List Row} (h : Low far k rs) (hl : k ≤ l) : Low far l rs := ⟨h.1.mono hl, h.2⟩
theorem Low.sub {far : Int} {k l : Nat} {rs qs : List Row} (h : Low far k rs) (hs : ∀ r ∈ qs, r ∈ rs) (hl : qs.length ≤ l) : Low far l qs := ⟨⟨fun r hr => h.1.good r (hs r hr), hl⟩, fun r hr => h.2 r (hs r hr)⟩
theorem Low.app {far : Int} {k l : Nat} {rs qs : List Row} (h : Low far k rs) (g : Low far l qs) : Low far (k + l) (rs ++ qs) := ⟨h.1.app g.1, fun r hr => (List.mem_append.mp hr).elim (h.2 r) (g.2 r)⟩
theorem Low.names {far : Int} {k : Nat} {rs : List Row} {μ : Store} (h : Low far k rs) (hf : far ≤ 400) (hk : k ≤ 400) : m__law_names [rsD rs] μ = .ok (.own (.lst ((St.expand (merged rs)).map nameD))) μ := by
  refine names_ok (F := 400) (fun r hr => ⟨h.1.good r hr, ?_⟩) ?_
  · have g := h.1.good r hr
    have := h.2 r hr
    unfold Good at g
    omega
  · have := h.1.len
    omega
theorem expand_len {far : Int} {k : Nat} {rs : List Row} (h : Low far k rs) (hf : far ≤ 400) : (St.expand (merged rs)).length ≤ 3300 := by
  have c := (merged_set h.1).can
  have nd : (St.expand (merged rs)).Nodup := (St.expand_asc c).imp fun {a b} h => by
    intro e
    subst e
    unfold St.nlt at h
    omega
  have := St.nodup_len (m := (List.range 3300).map fun i : Nat => (((i / 401 : Nat) : Int), ((i % 401 : Nat) : Int))) nd fun x hx => by
    obtain ⟨xh, xn⟩ := x
    obtain ⟨r, hr, a, b, d⟩ := (merged_in h.1 xh xn).mp (St.expand_mem.mp hx)
    have g := h.1.good r hr
    have := h.2 r hr
    unfold Good at g
    refine List.mem_map.mpr ⟨xh.toNat * 401 + xn.toNat, List.mem_range.mpr (by omega), ?_⟩
    rw [Prod.mk.injEq]
    constructor
    · omega
    · omega
  rwa [List.length_map, List.length_range] at this
end Law

/-! ### deeds thrown -/
namespace Law
open PySem L2 DL
def LowW : What → Prop
  | .back h _ => h < 7
  | .sealed rs => ∀ r ∈ rs, r.1 < 7
  | _ => True
structure GoodT (d : Deed) : Prop where
  g : GoodD d
  h : d.h < 7
  w : LowW d.w
  t : d.t ≤ 2000
theorem what_ok {d : Ob} {hs : Int} {μ : Store} {Q : Rv → Store → Prop} (hd : Dice d) (h0 : 0 < hs) (h1 : hs ≤ 7) (k : ∀ w d', Dice d' → GoodW w → LowW w → Q (.sh (whatD w)) (d' :: μ)) : Ok (m__law_what [.loc 0, .int hs] (d :: μ)) Q := by
  unfold m__law_what b__law_what
  simp [List.replicate]
  refine next_ok hd (by omega) (by omega) fun v d1 hd1 a1 b1 => ?_
  by_cases c1 : v < 5
  · simp [c1]
    refine next_ok hd1 (by omega) (by omega) fun v2 d2 hd2 a2 b2 => ?_
    simp
    refine next_ok hd2 (by omega) (by omega) fun v3 d3 hd3 a3 b3 => ?_
    simp
    refine next_ok hd3 (by omega) (by omega) fun v4 d4 hd4 a4 b4 => ?_
    obtain ⟨x, hx, hy⟩ := fIx_2 (a := .int (v2 - 4)) (b := .int v3) a4 b4
    obtain ⟨w, rfl, w1, w2⟩ : ∃ w : Int, x = .int w ∧ -1000000000000 ≤ w ∧ w ≤ 1000000000000 := by
      rcases hy with ⟨_, rfl⟩ | ⟨_, rfl⟩ <;> exact ⟨_, rfl, by omega, by omega⟩
    obtain ⟨y, hp, hq⟩ := fIx_2 (a := .str "put") (b := .str "add") (i := v % 2) (by omega) (by omega)
    simp [hx, hp]
    refine next_ok hd4 (by omega) (by omega) fun v5 d5 hd5 a5 b5 => ?_
    simp
    rcases hq with ⟨_, rfl⟩ | ⟨_, rfl⟩
    · exact k (.put v5 w) d5 hd5 ⟨a5, b5, w1, w2⟩ trivial
    · exact k (.add v5 w) d5 hd5 ⟨a5, b5, w1, w2⟩ trivial
  · by_cases c2 : v = 5
    · subst c2
      simp
      refine next_ok hd1 (by omega) (by omega) fun v2 d2 hd2 a2 b2 => ?_
      simp
      refine next_ok hd2 (by omega) (by omega) fun v3 d3 hd3 a3 b3 => ?_
      simp
      exact k (.back v2 (1 + v3)) d3 hd3 ⟨a2, by omega, by omega, by omega⟩ (show v2 < 7 by omega)
    · by_cases c3 : v = 6
      · subst c3
        simp
        refine rows_ok hd1 (by omega) (by omega) (by omega) (by omega) (by omega) (by omega) fun rs d2 hd2 ft ll => ?_
        have lw : Low 8 4 rs := ⟨ft, fun r hr => (ll r hr).2⟩
        have e1 := lw.names (μ := d2 :: μ) (by omega) (by omega)
        have e2 := told_rows_ok (ns := St.expand (merged rs)) (μ := d2 :: μ) (St.expand_asc (merged_set ft).can) (by have := expand_len lw (by omega); omega)
        rw [St.told_expand (merged_set ft).can] at e2
        simp [e1, e2]
        have ms := merged_set ft
        refine k (.sealed (merged rs)) d2 hd2 ⟨ms.can, ms.fit.mono (by omega)⟩ fun r hr => ?_
        obtain ⟨r', hr', e3, _⟩ := (merged_in ft _ _).mp (St.in_row hr (Int.le_refl _) (ms.can.1 r hr))
        have := (ll r' hr').1
        omega
      · simp [c1, c2, c3]
        exact k .bye d1 hd1 trivial trivial
theorem mem_putA {κ ν : Type} [DecidableEq κ] {xs : List (κ × ν)} {k : κ} {v : ν} {p : κ × ν} (h : p ∈ putA xs k v) : p ∈ xs ∨ p = (k, v) := by
  unfold putA at h
  split at h
  · obtain ⟨q, hq, e⟩ := List.mem_map.mp h
    split at e
    · next c => exact .inr (by rw [← e, c])
    · exact .inl (e ▸ hq)
  · rcases List.mem_append.mp h with z | z
    · exact .inl z
    · exact .inr (by simpa using z)
theorem uq_of {ds : List Deed} (h : (ds.map Deed.nm).Nodup) : Uq ds := by
  induction ds with
  | nil => intro a ha; simp at ha
  | cons d ds ih =>
    rw [List.map_cons, List.nodup_cons] at h
    intro a ha b hb e
    rcases List.mem_cons.mp ha with z | z <;> rcases List.mem_cons.mp hb with w | w
    · rw [z, w]
    · subst z
      exact absurd (List.mem_map.mpr ⟨b, w, e.symm⟩) h.1
    · subst w
      exact absurd (List.mem_map.mpr ⟨a, z, e⟩) h.1
    · exact ih h.2 a z b w e
theorem erase_map {α β : Type} (f : α → β) : ∀ (l : List α) (i : Nat), (l.map f).eraseIdx i = (l.eraseIdx i).map f
  | [], _ => by simp
  | x :: l, 0 => by simp
  | x :: l, i + 1 => by simp [erase_map f l i]
theorem erase_perm {α : Type} : ∀ {l : List α} {i : Nat} (h : i < l.length), (l[i] :: l.eraseIdx i).Perm l
  | x :: l, 0, _ => by simp
  | x :: l, i + 1, h => by
    simp only [List.getElem_cons_succ, List.eraseIdx_cons_succ]
    exact (List.Perm.swap x _ _).trans ((erase_perm (l := l) (i := i) (by simpa using h)).cons x)
structure KOk (kvs : List (Name × Deed)) : Prop where
  nd : (kvs.map (·.1)).Nodup
  ok : ∀ p ∈ kvs, p.2.nm = p.1 ∧ GoodT p.2
theorem left_ok {d : Ob} {s0 s1 s2 s4 s5 s6 s7 s8 s9 : Sl} {kvs : List (Name × Deed)} {μ : Store} {N : Ev → Store → Prop} {T : Rv → Store → Prop} (hd : Dice d) (K : KOk kvs) (hl : kvs.length ≤ 100)
    (k : ∀ (ds : List Deed) (d' : Ob), Dice d' → (∀ e ∈ ds, GoodT e) → (ds.map Deed.nm).Nodup → ds.length ≤ kvs.length → T (.own (.lst (ds.map deedD))) (d' :: (μ ++ [.lst []]))) :
    OkS (r__law_deeds_2 [.sh (.loc 0), s1, s2, .own (.dT (dctD nkey deedD kvs)), s4, s5, s6, s7, s8, s9] (d :: μ)) N T := by
  unfold r__law_deeds_2
  simp [fSrt_names]
  refine okS_while (fun kk ρ ν => ∃ (left : List Name) (found : List Deed) (d' : Ob), kk = left.length ∧ ρ = [.sh (.loc 0), s1, s2, .own (.dT (dctD nkey deedD kvs)), s4, s5, s6, s7, .sh (.loc (μ.length + 1)), .own (.lst (found.map deedD))] ∧ ν = d' :: (μ ++ [.lst (left.map nameD)]) ∧ Dice d' ∧ (found.map Deed.nm ++ left).Nodup ∧ (∀ e ∈ found, GoodT e) ∧ (∀ x ∈ left, x ∈ kvs.map (·.1)) ∧ found.length + left.length = kvs.length) ?_ 1000000000 (sortN (kvs.map (·.1))).length ?_ ⟨sortN (kvs.map (·.1)), [], d, rfl, rfl, rfl, hd, by simpa using (sortN_perm _).nodup_iff.mpr K.nd, fun e he => by simp at he, fun x hx => (sortN_perm _).mem_iff.mp hx, by rw [(sortN_perm _).length_eq]; simp⟩
  · rintro kk ρ ν N' ⟨left, found, d', rfl, rfl, rfl, hd', nd, gf, hx, hn⟩ go
    have hat : ∀ o : Ob, (μ ++ [o])[μ.length]? = some o := fun o => by simp
    have q := pdName.neL0 (by decide) left
    by_cases c : left = []
    · subst c
      have q : fNe (.ob (.lst [])) (.ob (.lst [])) = some (.sh (.bl false)) := q
      simp [t__law_deeds_1, hat, q]
      rw [List.append_nil] at nd
      exact k found d' hd' gf nd (by simp at hn; omega)
    · have hp : 0 < left.length := List.length_pos_iff.mpr c
      have q : fNe (.ob (.lst (left.map nameD))) (.ob (.lst [])) = some (.sh (.bl true)) := by rw [q, decide_eq_false c]; rfl
      simp [t__law_deeds_1, b__law_deeds_2, hat, q]
      refine next_ok hd' (by omega) (by omega) fun v d2 hd2 a2 b2 => ?_
      have hv : v.toNat < left.length := by omega
      have ex : left[v.toNat]? = some left[v.toNat] := List.getElem?_eq_getElem hv
      obtain ⟨e, he, _⟩ : ∃ e, getA kvs left[v.toNat] = some e ∧ True := by
        cases cc : getA kvs left[v.toNat] with
        | none => exact absurd (hx _ (List.getElem_mem hv)) (getA_none.mp cc)
        | some e => exact ⟨e, rfl, trivial⟩
      have ok := K.ok _ (getA_mem he)
      have fx := fIx_namesD (val := deedD) he
      have pp := popR_at (μ := d2 :: (μ ++ [.lst (left.map nameD)])) (n := μ.length + 1) (xs := left.map nameD) (i := v) (d := nameD left[v.toNat]) (by simp) ⟨a2, by omega⟩ (by rw [List.getElem?_map, ex]; rfl)
      have es : (d2 :: (μ ++ [Ob.lst (left.map nameD)])).set (μ.length + 1) (.lst ((left.map nameD).eraseIdx v.toNat)) = d2 :: (μ ++ [.lst ((left.eraseIdx v.toNat).map nameD)]) := by
        rw [List.set_cons_succ, set_snoc, erase_map]
      rw [es] at pp
      have hfl : found.length < 16777216 := by omega
      simp [hat, pp, fx, hfl]
      have pm := erase_perm hv
      refine go (left.eraseIdx v.toNat).length _ _ (by rw [List.length_eraseIdx_of_lt hv]; omega) ⟨left.eraseIdx v.toNat, found ++ [e], d2, rfl, by rw [List.map_append]; rfl, rfl, hd2, ?_, fun x hh => ?_, fun x hh => hx x (List.mem_of_mem_eraseIdx hh), by rw [List.length_eraseIdx_of_lt hv, List.length_append]; simp; omega⟩
      · have e1 : (found ++ [e]).map Deed.nm ++ left.eraseIdx v.toNat = found.map Deed.nm ++ (left[v.toNat] :: left.eraseIdx v.toNat) := by
          rw [List.map_append, List.append_assoc]
          have o1 : e.nm = left[v.toNat] := ok.1
          rw [← o1]
          rfl
        rw [e1]
        exact (List.Perm.append_left _ pm).nodup_iff.mpr nd
      · rcases List.mem_append.mp hh with z | z
        · exact gf x z
        · rw [show x = e by simpa using z]
          exact ok.2
  · rw [(sortN_perm _).length_eq, List.length_map]
    omega
theorem put_ok {d : Ob} {s1 s2 s4 s8 s9 : Sl} {kvs : List (Name × Deed)} {h n : Int} {w : What} {μ : Store} {N : Ev → Store → Prop} {T : Rv → Store → Prop} (hd : Dice d) (K : KOk kvs) (hl : kvs.length < 100) (g1 : 0 ≤ h) (g2 : h < 7) (g3 : 1 ≤ n) (g4 : n ≤ 1000) (gw : GoodW w) (lw : LowW w)
    (k : ∀ (kvs' : List (Name × Deed)) (d' : Ob), Dice d' → KOk kvs' → kvs'.length ≤ kvs.length + 1 → N [.sh (.loc 0), s1, s2, .own (.dT (dctD nkey deedD kvs')), s4, .sh (.int h), .sh (.int n), .sh (whatD w), s8, s9] (d' :: μ)) :
    OkS (r__law_deeds_1 [.sh (.loc 0), s1, s2, .own (.dT (dctD nkey deedD kvs)), s4, .sh (.int h), .sh (.int n), .sh (whatD w), s8, s9] (d :: μ)) N T := by
  unfold r__law_deeds_1
  simp
  refine next_ok hd (by omega) (by omega) fun v d1 hd1 a1 b1 => ?_
  have fs := fSet_names (val := deedD) (xs := kvs) (h := h) (n := n) (v := ⟨h, n, n + v, w⟩) (by omega)
  have fs : fSet (.dT (dctD nkey deedD kvs)) (.tup [.int h, .int n]) (.tup [.int h, .int n, .int (n + v), whatD w]) = _ := fs
  simp [fs]
  refine k _ d1 hd1 ⟨putA_nodup _ _ K.nd, fun p hp => ?_⟩ (putA_len _ _ _)
  rcases mem_putA hp with z | z
  · exact K.ok p z
  · rw [z]
    exact ⟨rfl, ⟨⟨g1, by show h < 8; omega, g3, by show n ≤ _; omega, by show n ≤ n + v; omega, by show n + v ≤ _; omega, gw⟩, g2, lw, by show n + v ≤ _; omega⟩⟩
theorem deeds_ok {d : Ob} {most : Int} {μ : Store} {Q : Rv → Store → Prop} (hd : Dice d) (hm : 0 ≤ most) (hm2 : most ≤ 99) (k : ∀ (ds : List Deed) (d' : Ob), Dice d' → (∀ e ∈ ds, GoodT e) → (ds.map Deed.nm).Nodup → ds.length ≤ 100 → Q (.own (.lst (ds.map deedD))) (d' :: (μ ++ [.lst []]))) : Ok (m__law_deeds [.loc 0, .int most] (d :: μ)) Q := by
  unfold m__law_deeds b__law_deeds
  simp [List.replicate]
  refine next_ok hd (by omega) (by omega) fun v d1 hd1 a1 b1 => ?_
  simp
  refine next_ok hd1 (by omega) (by omega) fun v2 d2 hd2 a2 b2 => ?_
  simp [rangeD_0 a2 (show v2 < 1000000000 by omega)]
  have e0 : (.own (.dT []) : Sl) = .own (.dT (dctD nkey deedD ([] : List (Name × Deed)))) := rfl
  rw [e0]
  refine okS_for (enc := fun i : Nat => .int (i : Int)) (fun left ρ ν => ∃ (kvs : List (Name × Deed)) (d' : Ob) (s4 s5 s6 s7 : Sl), ρ = [.sh (.loc 0), .sh (.int most), .sh (.int (1 + v)), .own (.dT (dctD nkey deedD kvs)), s4, s5, s6, s7, .no, .no] ∧ ν = d' :: μ ∧ Dice d' ∧ KOk kvs ∧ kvs.length + left.length ≤ v2.toNat) ?_ ?_ ⟨[], d2, .no, .no, .no, .no, rfl, rfl, hd2, ⟨List.nodup_nil, fun p hp => by simp at hp⟩, by simp⟩
  · rintro i left ρ ν N' ⟨kvs, d', s4, s5, s6, s7, rfl, rfl, hd', K, hl⟩ kk
    rw [List.length_cons] at hl
    refine ⟨_, rfl, ?_⟩
    simp [b__law_deeds_1]
    refine next_ok hd' (by omega) (by omega) fun x d3 hd3 a3 b3 => ?_
    simp
    refine next_ok hd3 (by omega) (by omega) fun y d4 hd4 a4 b4 => ?_
    simp
    refine what_ok hd4 (by omega) (by omega) fun w d5 hd5 gw lw => ?_
    have fin : ∀ w d', GoodW w → LowW w → Dice d' → OkS (r__law_deeds_1 [.sh (.loc 0), .sh (.int most), .sh (.int (1 + v)), .own (.dT (dctD nkey deedD kvs)), .sh (.int (i : Int)), .sh (.int x), .sh (.int (1 + y)), .sh (whatD w), .no, .no] (d' :: μ)) N' (fun rv μ' => Q rv μ') := fun w d' gw lw hd' => put_ok hd' K (by omega) a3 (by omega) (by omega) (by omega) gw lw fun kvs' d'' h1 h2 h3 => kk _ _ ⟨kvs', d'', _, _, _, _, rfl, rfl, h1, h2, by omega⟩
    by_cases c : kvs = []
    · have q : fNeB (.ob (.dT (dctD nkey deedD kvs))) (.ob (.dK [])) = some (.sh (.bl false)) := by rw [c]; rfl
      simp [q]
      exact fin w d5 gw lw hd5
    · have q : fNeB (.ob (.dT (dctD nkey deedD kvs))) (.ob (.dK [])) = some (.sh (.bl true)) := by
        rw [fNeB_dT]
        cases kvs with
        | nil => exact absurd rfl c
        | cons p l => rfl
      have hp : 0 < kvs.length := List.length_pos_iff.mpr c
      simp [q]
      refine next_ok hd5 (by omega) (by omega) fun z d6 hd6 a6 b6 => ?_
      by_cases c2 : z = 0
      · subst c2
        simp [fSrt_names]
        refine next_ok hd6 (by omega) (by omega) fun u d7 hd7 a7 b7 => ?_
        obtain ⟨⟨xh, xn⟩, _, hmem, fx⟩ := fIx_atM (enc := nameD) (xs := sortN (kvs.map (·.1))) a7 (by rw [(sortN_perm _).length_eq, List.length_map]; exact b7)
        obtain ⟨p, hp1, hp2⟩ := List.mem_map.mp ((sortN_perm _).mem_iff.mp hmem)
        have ok := K.ok p hp1
        have g := ok.2.g
        have g7 := ok.2.h
        have e1 : p.2.h = xh ∧ p.2.n = xn := by
          have := ok.1.trans hp2
          unfold Deed.nm at this
          exact Prod.mk.inj this
        simp [fx]
        exact fin (.back xh xn) d7 (by rw [← e1.1, ← e1.2]; exact ⟨g.h0, g.h1, g.n1, g.n2⟩) (by rw [← e1.1]; exact g7) hd7
      · simp [c2]
        exact fin w d6 gw lw hd6
  · rintro ρ ν ⟨kvs, d', s4, s5, s6, s7, rfl, rfl, hd', K, hl⟩
    simp only [List.length_nil] at hl
    exact left_ok (s0 := .no) hd' K (by omega) fun ds d'' h1 h2 h3 h4 => k ds d'' h1 h2 h3 (by omega)
end Law

/-! ### moved -/
namespace Law
open PySem L2 DL
theorem moved_ok {rs : List Row} {d : Int} {μ : Store} (hl : rs.length ≤ 16777216) : m__law_moved [rsD rs, .int d] μ = .ok (.own (.lst ((St.moved d rs).map rowD))) μ := by
  have h := lc_fm (enc := rowD) (g := gT [2, 3, 4]) (t := mYes) (e := e__law_moved_1) (ρ := [.sh (rsD rs), .sh (.int d), .no, .no, .no]) (μ := μ) (fun _ => true) (fun r => rowD (r.1, r.2.1 + d, r.2.2 + d)) rs [] (by simpa using hl) (fun r _ => ⟨_, rfl, rfl, fun _ => by
    obtain ⟨h, a, b⟩ := r
    simp [e__law_moved_1]⟩)
  unfold m__law_moved b__law_moved
  simp [List.replicate, h]
  unfold St.moved
  rw [List.map_map]
  congr 1
  simp
end Law

/-! ### _law_like -/
namespace Law
open PySem L2 DL
/-- the loop over two rows of data -/
theorem like_seq {n : Nat} {x y : D} {wx wy : Vw} {xs ys : List D} {μ : Store} {Q : Rv → Store → Prop} (hn : ∀ {f d : D}, Rs μ n f d → m__law_like n [f, d] μ = .ok (.sh (.bl true)) μ) (vx : x.vw μ = some wx) (vy : y.vw μ = some wy) (hx : ∀ {i : Nat} {d : D}, xs[i]? = some d → fIx wx (.d (.int (i : Int))) = some (.sh d))
    (hy : ∀ {i : Nat} {d : D}, ys[i]? = some d → fIx wy (.d (.int (i : Int))) = some (.sh d)) (hl : xs.length ≤ 16777216) (h : RsAll μ n xs ys) {N : Ev → Store → Prop} (k : ∀ s2, N [.sh x, .sh y, s2] μ) :
    OkS (forL (gN 2) (b__law_like_1 (m__law_like n)) ((List.range ys.length).map fun i : Nat => .int (i : Int)) [.sh x, .sh y, .no] μ) N Q := by
  have ll := h.len
  refine okS_for (enc := fun i : Nat => .int (i : Int)) (fun left ρ ν => ∃ s2 i, ρ = [.sh x, .sh y, s2] ∧ ν = μ ∧ left = List.range' i (ys.length - i) ∧ i ≤ ys.length) ?_ ?_ ⟨.no, 0, rfl, rfl, by rw [List.range_eq_range']; rfl, Nat.zero_le _⟩
  · rintro j left ρ ν N' ⟨s2, i, rfl, rfl, hlf, hi⟩ kk
    have hi2 : i < ys.length := by
      rcases Nat.lt_or_ge i ys.length with z | z
      · exact z
      · rw [Nat.sub_eq_zero_of_le z] at hlf; cases hlf
    rw [show ys.length - i = ys.length - (i + 1) + 1 by omega, List.range'_succ] at hlf
    injection hlf with hk hlf
    subst hk
    have ex := List.getElem?_eq_getElem (show j < xs.length by omega)
    obtain ⟨d, ey, r⟩ := h.get ex
    have h3 := hn r
    refine ⟨_, rfl, ?_⟩
    simp [b__law_like_1, vx, vy, hx ex, hy ey, h3]
    exact kk _ _ ⟨_, j + 1, rfl, rfl, hlf, by omega⟩
  · rintro ρ ν ⟨s2, i, rfl, rfl, _⟩
    exact k s2
theorem like_true : ∀ {n : Nat} {f d : D} {μ : Store}, Rs μ n f d → m__law_like n [f, d] μ = .ok (.sh (.bl true)) μ := by
  intro n
  induction n with
  | zero => intro f d μ h; cases h
  | succ n ih =>
    intro f d μ h
    obtain ⟨i1, i2, i3, i4, i5, i6, i7, i8, i9, i10, i11, i12, i13, i14, i15, i16, i17, i18, i19, _⟩ := isiB_all
    have nt : ∀ p, fIs id (.d (.tup p)) (.d .non) = some (.sh (.bl false)) := fun _ => rfl
    have nl : ∀ p, fIs id (.ob (.lst p)) (.d .non) = some (.sh (.bl false)) := fun _ => rfl
    cases h with
    | non => simp [m__law_like, b__law_like, fIsi_non, i4, i9, i13, List.replicate]
    | bl b => simp [m__law_like, b__law_like, fIsi_bl, i1, fEq_bl, List.replicate]
    | int i => simp [m__law_like, b__law_like, fIsi_int, i2, i8, i12, List.replicate]
    | str s hs => simp [m__law_like, b__law_like, fIsi_str, i3, i7, fEq_str hs hs, List.replicate]
    | @tup _ xs ys hl t =>
      have ll := t.len
      refine ok_eq ?_
      have rg := rangeD_0 (v := (ys.length : Int)) (by omega) (by omega)
      simp [m__law_like, b__law_like, fIsi_tup, i5, i10, i14, i16, i18, fNe_bl, nt, ll, rg, List.replicate]
      exact like_seq (fun r => ih r) rfl rfl (fun e => fIx_tupAt e) (fun e => fIx_tupAt e) hl t fun s2 => by simp
    | @lst _ xs ys hl t =>
      have ll := t.len
      refine ok_eq ?_
      have rg := rangeD_0 (v := (ys.length : Int)) (by omega) (by omega)
      simp [m__law_like, b__law_like, fIsi_lst, i6, i11, i15, i17, i19, fNe_bl, nl, ll, rg, List.replicate]
      exact like_seq (fun r => ih r) rfl rfl (fun e => fIx_lstAt e) (fun e => fIx_lstAt e) hl t fun s2 => by simp
    | @loc _ k xs ys e hl t =>
      have ll := t.len
      refine ok_eq ?_
      have rg := rangeD_0 (v := (ys.length : Int)) (by omega) (by omega)
      simp [m__law_like, b__law_like, fIsi_lst, i6, i11, i15, i17, i19, fNe_bl, nl, ll, rg, e, List.replicate]
      exact like_seq (wx := .ob (.lst xs)) (fun r => ih r) (by simp [e]) rfl (fun e => fIx_lstAt e) (fun e => fIx_lstAt e) hl t fun s2 => by simp
end Law

namespace Law
open PySem L2 DL
theorem rs_what {μ : Store} {n : Nat} (w : What) (hl : ∀ rs, w = .sealed rs → rs.length ≤ 400) : Rs μ (n + 4) (whatD w) (whatD w) := by
  cases w with
  | put k v => exact .tup (by simp) (.cons (.str _ (sok_wd .put)) (.cons (.int _) (.cons (.int _) .nil)))
  | add k v => exact .tup (by simp) (.cons (.str _ (sok_wd .add)) (.cons (.int _) (.cons (.int _) .nil)))
  | back k v => exact .tup (by simp) (.cons (.str _ (sok_wd .back)) (.cons (.int _) (.cons (.int _) .nil)))
  | bye => exact .tup (by simp) (.cons (.str _ (sok_wd .bye)) .nil)
  | sealed rs => exact .tup (by simp) (.cons (.str _ (sok_wd .sealed)) (.cons (.tup (by rw [List.length_map]; have := hl rs rfl; omega) (RsAll.map fun x _ => rs_row x)) .nil))
theorem rs_deed {μ : Store} {n : Nat} {d : Deed} (g : GoodD d) : Rs μ (n + 5) (deedD d) (deedD d) :=
  .tup (by simp) (.cons (.int _) (.cons (.int _) (.cons (.int _) (.cons (rs_what d.w fun rs e => by
    have := g.w
    rw [e] at this
    have := this.fit.len
    omega) .nil))))
section
variable {s0 s2 s5 s6 s7 s8 : Sl} {d : Ob} {μ : Store} {N : Ev → Store → Prop} {T : Rv → Store → Prop}
structure Zs (z : List Row) : Prop where
  c : St.Canon z
  g : ∀ r ∈ z, Good r
  l : z.length ≤ 120
theorem merged_again {z : List Row} (h : Zs z) : merged (z.reverse ++ z.take 3) = z := by
  have g : ∀ r ∈ z.reverse ++ z.take 3, Good r := fun r hr => (List.mem_append.mp hr).elim (fun a => h.g r (List.mem_reverse.mp a)) fun a => h.g r (List.mem_of_mem_take a)
  obtain ⟨c, i⟩ := merged_spec fun r hr => (g r hr).ok
  refine St.canon_ext c h.c fun a n => (i a n).trans ?_
  unfold St.In
  constructor
  · rintro ⟨r, hr, x⟩
    exact ⟨r, (List.mem_append.mp hr).elim (fun a => List.mem_reverse.mp a) fun a => List.mem_of_mem_take a, x⟩
  · rintro ⟨r, hr, x⟩
    exact ⟨r, List.mem_append_left _ (List.mem_reverse.mpr hr), x⟩
theorem set_turn {z : List Row} {t : Str} (h : Zs z) (ht : t = textG (grpOf z)) (k : ∀ μ' t6, N [s0, .sh (.loc 0), s2, .sh (rsD z), .sh (.str t), s5, t6, s7] (d :: μ')) :
    OkS (b_law_1 [s0, .sh (.loc 0), s2, .sh (rsD z), .sh (.str t), s5, s6, s7] (d :: μ)) N T := by
  subst ht
  have hl := h.l
  have gk := grp_ok h.c h.g (by omega)
  have rd := read_ok (μ := d :: μ) gk
  rw [grp_flat h.c h.g] at rd
  have hg : ∀ r ∈ z.reverse ++ z.take 3, Good r := fun r hr => (List.mem_append.mp hr).elim (fun a => h.g r (List.mem_reverse.mp a)) fun a => h.g r (List.mem_of_mem_take a)
  have wr := written_ok (xs := z.reverse ++ z.take 3) (μ := d :: (μ ++ [.lst (z.map rowD)])) hg (by simp; omega)
  rw [merged_again h] at wr
  have wr : m_written [.lst ((z.map rowD).reverse ++ (z.take 3).map rowD)] (d :: (μ ++ [.lst (z.map rowD)])) = .ok (.sh (.str (textG (grpOf z)))) (d :: (μ ++ [.lst (z.map rowD)])) := by
    rw [← List.map_reverse, ← List.map_append]
    exact wr
  have l1 := like_true (n := 8) (f := .str (textG (grpOf z))) (d := .str (textG (grpOf z))) (μ := d :: (μ ++ [.lst (z.map rowD)])) (.str _ (sok_small (text_small _)))
  have l2 := like_true (n := 8) (f := .loc (μ.length + 1)) (d := rsD z) (μ := d :: (μ ++ [.lst (z.map rowD)])) (rs_loc (f := rowD) (by simp) (by omega) fun x _ => rs_row x)
  have ct : cutD (z.map rowD) none (some 3) = (z.take 3).map rowD := by rw [List.map_take]; exact cutD_take _ (by omega)
  have cl : z.length ≤ 16777216 := by omega
  have cm : z.length + min 3 z.length ≤ 16777216 := by omega
  have ca : z.length < 16777216 := by omega
  unfold b_law_1
  simp only [rsD] at l2 ⊢
  simp [rd, ct, wr, l1, l2, cl, cm, ca, -List.map_take]
  exact k _ _
theorem deed_turn {e : Deed} (g : GoodD e) {s3 s4 : Sl} (k : ∀ t4, N [s0, .sh (.loc 0), s2, s3, t4, s5, s6, .sh (deedD e)] (d :: μ)) :
    OkS (b_law_2 [s0, .sh (.loc 0), s2, s3, s4, s5, s6, .sh (deedD e)] (d :: μ)) N T := by
  have a1 := law_deed_text_ok (μ := d :: μ) g
  have a2 := written_deed_ok (μ := d :: μ) g
  have a3 := read_deed_ok (μ := d :: μ) g
  have l1 := like_true (n := 8) (f := .str (deedText e)) (d := .str (deedText e)) (μ := d :: μ) (.str _ (sok_small (text_small_d _)))
  have l2 := like_true (n := 8) (f := deedD e) (d := deedD e) (μ := d :: μ) (rs_deed g)
  unfold b_law_2
  simp [a1, a2, a3, l1, l2]
  exact k _
end
theorem law_true (ns : List Int) (hns : ns.length ≤ 63) : ∃ μ, m_law [.scr ns] [] = .ok (.sh (.bl true)) μ := by
  have key : Ok (m_law [.scr ns] []) fun rv _ => rv = .sh (.bl true) := by
    unfold m_law b_law
    simp [List.replicate]
    refine dice_ok fun d hd => ?_
    simp [rangeD_0 (show (0 : Int) ≤ 3 by omega) (by omega)]
    refine okS_for (enc := fun i : Nat => .int (i : Int)) (fun left ρ ν => ∃ (d : Ob) (μ : Store) (t2 t3 t4 t5 t6 t7 : Sl), Dice d ∧ ν = d :: μ ∧ ρ = [.sh (.scr ns), .sh (.loc 0), t2, t3, t4, t5, t6, t7]) ?_ ?_ ⟨d, [], _, _, _, _, _, _, hd, rfl, rfl⟩
    · rintro i left ρ ν N' ⟨d, μ, t2, t3, t4, t5, t6, t7, hd, rfl, rfl⟩ kk
      refine ⟨_, rfl, ?_⟩
      simp [b_law_3]
      refine rows_ok hd (by omega) (by omega) (by omega) (by omega) (by omega) (by omega) fun ra d1 hd1 fa la => ?_
      simp
      refine rows_ok hd1 (by omega) (by omega) (by omega) (by omega) (by omega) (by omega) fun rb d2 hd2 fb lb => ?_
      have ha : Low 400 120 ra := ⟨fa.mono (by decide), fun r hr => by have := (la r hr).2; omega⟩
      have hb : Low 400 120 rb := ⟨fb.mono (by decide), fun r hr => (lb r hr).2⟩
      simp
      refine next_ok hd2 (by omega) (by omega) fun v1 d3 hd3 a1 b1 => ?_
      have q0 : 0 ≤ v1 / 3 := by omega
      have q1 : v1 / 3 < 2 := by omega
      obtain ⟨x, hx, hy⟩ := fIx_2 (a := rsD ra) (b := rsD rb) q0 q1
      obtain ⟨rs, rfl, hr⟩ : ∃ rs : List Row, x = rsD rs ∧ Low 400 120 rs := by
        rcases hy with ⟨_, rfl⟩ | ⟨_, rfl⟩
        · exact ⟨_, rfl, ha⟩
        · exact ⟨_, rfl, hb⟩
      have e1 := hr.names (μ := d3 :: μ) (by omega) (by omega)
      have ms := merged_set hr.1
      have e2 := told_rows_ok (ns := St.expand (merged rs)) (μ := d3 :: μ) (St.expand_asc ms.can) (by have := expand_len hr (by omega); omega)
      rw [St.told_expand ms.can] at e2
      simp only [rsD] at hx
      simp only [rsD, nmD] at e1 e2
      have dv := fDiv_int (i := v1) (j := 3) (by omega) (by omega)
      simp [dv, hx, e1, e2]
      refine next_ok hd3 (by omega) (by omega) fun v2 d4 hd4 a2 b2 => ?_
      simp
      refine next_ok hd4 (by omega) (by omega) fun v3 d5 hd5 a3 b3 => ?_
      obtain ⟨y, hy1, hy2⟩ := fIx_3 (a := .int 0) (b := .int 999999999600) (c := .int v2) a3 b3
      obtain ⟨by_, rfl, b0, b9⟩ : ∃ w : Int, y = .int w ∧ 0 ≤ w ∧ w ≤ 999999999600 := by
        rcases hy2 with rfl | rfl | rfl <;> exact ⟨_, rfl, by omega, by omega⟩
      have ml := ms.fit.len
      have m1 := moved_ok (rs := merged rs) (d := by_) (μ := d5 :: μ) (by omega)
      have mlow : ∀ r ∈ merged rs, r.2.2 ≤ 400 := fun r hr' => by
        have g := ms.fit.good r hr'
        have i : St.In (merged rs) r.1 r.2.2 := ⟨r, hr', rfl, g.2.2.2.1, Int.le_refl _⟩
        obtain ⟨r', hr2, _, _, hle⟩ := (merged_in hr.1 _ _).mp i
        have := hr.2 r' hr2
        omega
      have hz : Zs (St.moved by_ (merged rs)) := ⟨St.canon_moved ms.can, fun r hr' => by
        obtain ⟨q, hq, rfl⟩ := List.mem_map.mp hr'
        obtain ⟨g1, g2, g3, g4, g5⟩ := ms.fit.good q hq
        have := mlow q hq
        exact ⟨g1, g2, by show 1 ≤ q.2.1 + by_; omega, by show q.2.1 + by_ ≤ q.2.2 + by_; omega, by show q.2.2 + by_ ≤ _; omega⟩, by unfold St.moved; rw [List.length_map]; omega⟩
      have hl := hz.l
      have tx := law_text_ok (x := rsD (St.moved by_ (merged rs))) (rs := St.moved by_ (merged rs)) (μ := d5 :: μ) rfl hz.g (by omega) (grp_ok hz.c hz.g (by omega))
      simp only [rsD] at m1 tx
      simp [hy1, m1, tx, rangeD_0 (show (0 : Int) ≤ 2 by omega) (by omega)]
      refine okS_for (enc := fun i : Nat => .int (i : Int)) (fun left ρ ν => ∃ (μ : Store) (t5 t6 t7 : Sl), ν = d5 :: μ ∧ ρ = [.sh (.scr ns), .sh (.loc 0), .sh (.int (i : Int)), .sh (rsD (St.moved by_ (merged rs))), .sh (.str (textG (grpOf (St.moved by_ (merged rs))))), t5, t6, t7]) ?_ ?_ ⟨μ, _, _, _, rfl, rfl⟩
      · rintro j left' ρ ν N2 ⟨μ, t5, t6, t7, rfl, rfl⟩ k2
        refine ⟨_, rfl, ?_⟩
        exact set_turn hz rfl fun μ' t6 => k2 _ _ ⟨μ', _, _, _, rfl, rfl⟩
      · rintro ρ ν ⟨μ, t5, t6, t7, rfl, rfl⟩
        simp
        refine deeds_ok hd5 (by omega) (by omega) fun ds d6 hd6 hg _ hdl => ?_
        simp
        refine okS_for (enc := deedD) (fun left ρ ν => ∃ (t4 t7 : Sl), (∀ e ∈ left, GoodT e) ∧ ν = d6 :: (μ ++ [.lst []]) ∧ ρ = [.sh (.scr ns), .sh (.loc 0), .sh (.int (i : Int)), .sh (rsD (St.moved by_ (merged rs))), t4, t5, t6, t7]) ?_ ?_ ⟨_, _, hg, rfl, rfl⟩
        · rintro e left' ρ ν N2 ⟨t4, t7, hge, rfl, rfl⟩ k2
          refine ⟨_, rfl, ?_⟩
          exact deed_turn (hge e List.mem_cons_self).g fun t4 => k2 _ _ ⟨_, _, fun e he => hge e (List.mem_cons_of_mem _ he), rfl, rfl⟩
        · rintro ρ ν ⟨t4, t7, _, rfl, rfl⟩
          exact kk _ _ ⟨d6, _, _, _, _, _, _, _, hd6, rfl, rfl⟩
    · rintro ρ ν ⟨d, μ, t2, t3, t4, t5, t6, t7, hd, rfl, rfl⟩
      have r0 := read_ok (gs := []) (μ := d :: μ) ⟨by simp, by simp⟩
      have w0 := written_ok (xs := []) (μ := d :: μ) (by simp) (by simp)
      rw [text_nil] at r0
      have e0 : textG (grpOf (merged [])) = "" := by
        rw [show merged [] = [] from rfl, show grpOf [] = [] by decide, text_nil]
      rw [e0] at w0
      simp only [rsD, List.map_nil, List.flatMap_nil] at r0 w0
      have q1 := fEq_str (a := ("" : Str)) (b := "") (sok_small (by rw [empty_tl]; simp)) (sok_small (by rw [empty_tl]; simp))
      have q2 : fEq (.ob (.lst [])) (.ob (.lst [])) = some (.sh (.bl true)) := rfl
      simp [r0, w0, q1, q2]
  obtain ⟨rv, μ, e, rfl⟩ := key.ex
  exact ⟨μ, e⟩
end Law

namespace Law
open PySem PySem.Spec PyProof.Rows L2 DL
def dd_is_row : He.DefD := ⟨("is_row", none), "is_row", "is_row", defArgs s_is_row, defBody s_is_row, defScope s_is_row, [], []⟩
def dd_need_rows : He.DefD := ⟨("need_rows", none), "need_rows", "need_rows", defArgs s_need_rows, defBody s_need_rows, defScope s_need_rows, [], []⟩
def dd_merged : He.DefD := ⟨("merged", none), "merged", "merged", defArgs s_merged, defBody s_merged, defScope s_merged, [], []⟩
def dd_plain : He.DefD := ⟨("plain", none), "plain", "plain", defArgs s_plain, defBody s_plain, defScope s_plain, [], []⟩
def dd_is_name : He.DefD := ⟨("is_name", none), "is_name", "is_name", defArgs s_is_name, defBody s_is_name, defScope s_is_name, [], []⟩
def dd_are_plain : He.DefD := ⟨("are_plain", none), "are_plain", "are_plain", defArgs s_are_plain, defBody s_are_plain, defScope s_are_plain, [], []⟩
def dd_is_what : He.DefD := ⟨("is_what", none), "is_what", "is_what", defArgs s_is_what, defBody s_is_what, defScope s_is_what, [], []⟩
def dd_is_deed : He.DefD := ⟨("is_deed", none), "is_deed", "is_deed", defArgs s_is_deed, defBody s_is_deed, defScope s_is_deed, [], []⟩
def dd_need_deeds : He.DefD := ⟨("need_deeds", none), "need_deeds", "need_deeds", defArgs s_need_deeds, defBody s_need_deeds, defScope s_need_deeds, [], []⟩
def dd_item_of : He.DefD := ⟨("item_of", none), "item_of", "item_of", defArgs s_item_of, defBody s_item_of, defScope s_item_of, [], []⟩
def dd_words_of : He.DefD := ⟨("words_of", none), "words_of", "words_of", defArgs s_words_of, defBody s_words_of, defScope s_words_of, [], []⟩
def dd_written : He.DefD := ⟨("written", none), "written", "written", defArgs s_written, defBody s_written, defScope s_written, [], []⟩
def dd_number_of : He.DefD := ⟨("number_of", none), "number_of", "number_of", defArgs s_number_of, defBody s_number_of, defScope s_number_of, [], []⟩
def dd_stretch_of : He.DefD := ⟨("stretch_of", none), "stretch_of", "stretch_of", defArgs s_stretch_of, defBody s_stretch_of, defScope s_stretch_of, [], []⟩
def dd_rows_of_word : He.DefD := ⟨("rows_of_word", none), "rows_of_word", "rows_of_word", defArgs s_rows_of_word, defBody s_rows_of_word, defScope s_rows_of_word, [], []⟩
def dd_rows_read : He.DefD := ⟨("rows_read", none), "rows_read", "rows_read", defArgs s_rows_read, defBody s_rows_read, defScope s_rows_read, [], []⟩
def dd_read : He.DefD := ⟨("read", none), "read", "read", defArgs s_read, defBody s_read, defScope s_read, [], []⟩
def dd_deed_words : He.DefD := ⟨("deed_words", none), "deed_words", "deed_words", defArgs s_deed_words, defBody s_deed_words, defScope s_deed_words, [], []⟩
def dd_written_deed : He.DefD := ⟨("written_deed", none), "written_deed", "written_deed", defArgs s_written_deed, defBody s_written_deed, defScope s_written_deed, [], []⟩
def dd_signed_of : He.DefD := ⟨("signed_of", none), "signed_of", "signed_of", defArgs s_signed_of, defBody s_signed_of, defScope s_signed_of, [], []⟩
def dd_numbers_read : He.DefD := ⟨("numbers_read", none), "numbers_read", "numbers_read", defArgs s_numbers_read, defBody s_numbers_read, defScope s_numbers_read, [], []⟩
def dd_what_read : He.DefD := ⟨("what_read", none), "what_read", "what_read", defArgs s_what_read, defBody s_what_read, defScope s_what_read, [], []⟩
def dd_read_deed : He.DefD := ⟨("read_deed", none), "read_deed", "read_deed", defArgs s_read_deed, defBody s_read_deed, defScope s_read_deed, [], []⟩
def dd__law_dice : He.DefD := ⟨("_law_dice", none), "_law_dice", "_law_dice", defArgs s__law_dice, defBody s__law_dice, defScope s__law_dice, [], []⟩
def dd__law_next : He.DefD := ⟨("_law_next", none), "_law_next", "_law_next", defArgs s__law_next, defBody s__law_next, defScope s__law_next, [], []⟩
def dd__law_like : He.DefD := ⟨("_law_like", none), "_law_like", "_law_like", defArgs s__law_like, defBody s__law_like, defScope s__law_like, [], []⟩
def dd__law_rows : He.DefD := ⟨("_law_rows", none), "_law_rows", "_law_rows", defArgs s__law_rows, defBody s__law_rows, defScope s__law_rows, [], []⟩
def dd__law_moved : He.DefD := ⟨("_law_moved", none), "_law_moved", "_law_moved", defArgs s__law_moved, defBody s__law_moved, defScope s__law_moved, [], []⟩
def dd__law_names : He.DefD := ⟨("_law_names", none), "_law_names", "_law_names", defArgs s__law_names, defBody s__law_names, defScope s__law_names, [], []⟩
def dd__law_told_rows : He.DefD := ⟨("_law_told_rows", none), "_law_told_rows", "_law_told_rows", defArgs s__law_told_rows, defBody s__law_told_rows, defScope s__law_told_rows, [], []⟩
def dd__law_what : He.DefD := ⟨("_law_what", none), "_law_what", "_law_what", defArgs s__law_what, defBody s__law_what, defScope s__law_what, [], []⟩
def dd__law_deeds : He.DefD := ⟨("_law_deeds", none), "_law_deeds", "_law_deeds", defArgs s__law_deeds, defBody s__law_deeds, defScope s__law_deeds, [], []⟩
def dd__law_text : He.DefD := ⟨("_law_text", none), "_law_text", "_law_text", defArgs s__law_text, defBody s__law_text, defScope s__law_text, [], []⟩
def dd__law_deed_text : He.DefD := ⟨("_law_deed_text", none), "_law_deed_text", "_law_deed_text", defArgs s__law_deed_text, defBody s__law_deed_text, defScope s__law_deed_text, [], []⟩
def dd_law : He.DefD := ⟨("law", none), "law", "law", defArgs s_law, defBody s_law, defScope s_law, [], []⟩
def fn0 : List He.DefD := [dd_is_row, dd_need_rows, dd_merged, dd_plain, dd_is_name, dd_are_plain, dd_is_what, dd_is_deed, dd_need_deeds, dd_item_of, dd_words_of, dd_written, dd_number_of, dd_stretch_of, dd_rows_of_word, dd_rows_read, dd_read, dd_deed_words, dd_written_deed, dd_signed_of, dd_numbers_read, dd_what_read, dd_read_deed, dd__law_dice, dd__law_next]
def fn1 : List He.DefD := [dd__law_like, dd__law_rows, dd__law_moved, dd__law_names, dd__law_told_rows, dd__law_what, dd__law_deeds, dd__law_text, dd__law_deed_text, dd_law]
def fn : List He.DefD := fn0 ++ fn1
def ck_WORDS : He.Chk := fun K => He.tupB K "WORDS" [.str "put", .str "add", .str "back", .str "seal", .str "bye"]
def fa0 : List He.Fa := [.glo "is_row", .glo "need_rows", .glo "merged", .glo "plain", .glo "is_name", .glo "are_plain", .glo "is_what", .glo "is_deed", .glo "need_deeds", .glo "item_of", .glo "words_of", .glo "written", .glo "number_of", .glo "stretch_of", .glo "rows_of_word", .glo "rows_read", .glo "read", .glo "deed_words", .glo "written_deed", .glo "signed_of", .glo "numbers_read", .glo "what_read", .glo "read_deed", .glo "_law_dice", .glo "_law_next"]
def fa1 : List He.Fa := [.glo "_law_like", .glo "_law_rows", .glo "_law_moved", .glo "_law_names", .glo "_law_told_rows", .glo "_law_what", .glo "_law_deeds", .glo "_law_text", .glo "_law_deed_text", .glo "law", .free "bool", .free "enumerate", .free "int", .free "isinstance", .free "len", .free "list", .free "max", .free "min", .free "range", .free "sorted", .free "str", .free "tuple", .int "MOST_HOUSES" 8, .int "MOST_NUMBER" 1000000000000, .int "MOST_ROWS" 200]
def fa2 : List He.Fa := [.int "KEYS" 6, .int "MOST_WORTH" 1000000000000, .str "PUT" "put", .str "ADD" "add", .str "BACK" "back", .str "SEAL" "seal", .str "BYE" "bye", .str "FIGURES" "0123456789", .int "MOST_FIGURES" 13, .glo "WORDS"]
def fa : List He.Fa := fa0 ++ fa1 ++ fa2
def ex : List He.Chk := [ck_WORDS]
def loose0 : List Str := ["DoneError", "BadStretches", "BadDeed", "BadText", "MOST_HOUSES", "MOST_NUMBER", "MOST_ROWS", "is_row", "need_rows", "merged", "plain", "KEYS", "MOST_WORTH", "PUT", "ADD", "BACK", "SEAL", "BYE", "is_name", "are_plain", "is_what", "is_deed", "need_deeds", "FIGURES", "MOST_FIGURES", "WORDS", "item_of", "words_of", "written", "number_of"]
def loose1 : List Str := ["stretch_of", "rows_of_word", "rows_read", "read", "deed_words", "written_deed", "signed_of", "numbers_read", "read_deed", "what_read", "_law_dice", "_law_next", "_law_like", "_law_rows", "_law_moved", "_law_names", "_law_told_rows", "_law_what", "_law_deeds", "_law_text", "_law_deed_text"]
def loose : List Str := loose0 ++ loose1
abbrev R : PySem.W.OpenRow := PySem.W.OpenLaw.row PySem.Challenge.rw_doneranges_k05_texts
abbrev hk : PySem.W.Hook := He.hookQ 4 fa fn ex
def ob (s : PySem.W.SharedT) : He.AlD := He.obsQG 4 fa fn ex (HandSHeadRun.getT s)
theorem ob_eq (s : PySem.W.SharedT) : ob s = hk.obs s.abs := He.obsQG_eq (HandSHeadRun.getT_eq s)
set_option maxHeartbeats 0 in
theorem run (w : World) : HandSHeadRun.RunEq R (PySem.W.view R.prog [56]) hk ob 30000 loose w := by
  intro os
  kernel_rfl
theorem facts {P : Program} {w : World} {K : PySem.W.Frag} {h : Heap} {mg : Str → Option Value} {f : Addr} (X : K.In h) (G : h.Ns mainGlobals mg) (hfa : mg ("law" : Str) = some (.ref f)) (cE : He.SaysQ fa fn ex K) :
    ∃ fd : FuncData, (∀ (s : Shared) (v : Value), BindsTo s fd ⟨[v], []⟩ [("_law_script", v)]) ∧ ∀ base : Heap, K.In base → base.Ns mainGlobals mg → FnOk P w K mg base CX0 10 f fd ["_law_script"] (spM K (He.ga K) 1 (noX m_law)) := by
  have c := cE.d
  have gm : Glob mg := {
    bool := He.free_ok X G (c.fact 35 (f := .free "bool") rfl),
    enumerate := He.free_ok X G (c.fact 36 (f := .free "enumerate") rfl),
    int := He.free_ok X G (c.fact 37 (f := .free "int") rfl),
    isinstance := He.free_ok X G (c.fact 38 (f := .free "isinstance") rfl),
    len := He.free_ok X G (c.fact 39 (f := .free "len") rfl),
    list := He.free_ok X G (c.fact 40 (f := .free "list") rfl),
    max := He.free_ok X G (c.fact 41 (f := .free "max") rfl),
    min := He.free_ok X G (c.fact 42 (f := .free "min") rfl),
    range := He.free_ok X G (c.fact 43 (f := .free "range") rfl),
    sorted := He.free_ok X G (c.fact 44 (f := .free "sorted") rfl),
    str := He.free_ok X G (c.fact 45 (f := .free "str") rfl),
    tuple := He.free_ok X G (c.fact 46 (f := .free "tuple") rfl),
    c_MOST_HOUSES := He.int_ok X G (c.fact 47 (f := .int "MOST_HOUSES" 8) rfl),
    c_MOST_NUMBER := He.int_ok X G (c.fact 48 (f := .int "MOST_NUMBER" 1000000000000) rfl),
    c_MOST_ROWS := He.int_ok X G (c.fact 49 (f := .int "MOST_ROWS" 200) rfl),
    c_KEYS := He.int_ok X G (c.fact 50 (f := .int "KEYS" 6) rfl),
    c_MOST_WORTH := He.int_ok X G (c.fact 51 (f := .int "MOST_WORTH" 1000000000000) rfl),
    c_PUT := He.str_ok X G (c.fact 52 (f := .str "PUT" "put") rfl),
    c_ADD := He.str_ok X G (c.fact 53 (f := .str "ADD" "add") rfl),
    c_BACK := He.str_ok X G (c.fact 54 (f := .str "BACK" "back") rfl),
    c_SEAL := He.str_ok X G (c.fact 55 (f := .str "SEAL" "seal") rfl),
    c_BYE := He.str_ok X G (c.fact 56 (f := .str "BYE" "bye") rfl),
    c_FIGURES := He.str_ok X G (c.fact 57 (f := .str "FIGURES" "0123456789") rfl),
    c_MOST_FIGURES := He.int_ok X G (c.fact 58 (f := .int "MOST_FIGURES" 13) rfl) }
  have cf : ClsF K (He.ga K) mg := {
    t_WORDS := ⟨He.glo_ok X G (c.fact 59 (f := .glo "WORDS") rfl), fun H => He.tupB_ok (x := "WORDS") (vs := [.str "put", .str "add", .str "back", .str "seal", .str "bye"]) (cE.chk 0 (f := ck_WORDS) rfl) H⟩ }
  obtain ⟨fd_is_row, F0_is_row⟩ := c.def_ 0 (d := dd_is_row) rfl
  have g_is_row : mg "is_row" = some (.ref (He.ga K "is_row")) := He.glo_ok X G (c.fact 0 (f := .glo "is_row") rfl)
  have F_is_row : Fun K "is_row" "is_row" s_is_row (He.ga K "is_row") fd_is_row := He5.fun_of F0_is_row
  obtain ⟨fd_need_rows, F0_need_rows⟩ := c.def_ 1 (d := dd_need_rows) rfl
  have g_need_rows : mg "need_rows" = some (.ref (He.ga K "need_rows")) := He.glo_ok X G (c.fact 1 (f := .glo "need_rows") rfl)
  have F_need_rows : Fun K "need_rows" "need_rows" s_need_rows (He.ga K "need_rows") fd_need_rows := He5.fun_of F0_need_rows
  obtain ⟨fd_merged, F0_merged⟩ := c.def_ 2 (d := dd_merged) rfl
  have g_merged : mg "merged" = some (.ref (He.ga K "merged")) := He.glo_ok X G (c.fact 2 (f := .glo "merged") rfl)
  have F_merged : Fun K "merged" "merged" s_merged (He.ga K "merged") fd_merged := He5.fun_of F0_merged
  obtain ⟨fd_plain, F0_plain⟩ := c.def_ 3 (d := dd_plain) rfl
  have g_plain : mg "plain" = some (.ref (He.ga K "plain")) := He.glo_ok X G (c.fact 3 (f := .glo "plain") rfl)
  have F_plain : Fun K "plain" "plain" s_plain (He.ga K "plain") fd_plain := He5.fun_of F0_plain
  obtain ⟨fd_is_name, F0_is_name⟩ := c.def_ 4 (d := dd_is_name) rfl
  have g_is_name : mg "is_name" = some (.ref (He.ga K "is_name")) := He.glo_ok X G (c.fact 4 (f := .glo "is_name") rfl)
  have F_is_name : Fun K "is_name" "is_name" s_is_name (He.ga K "is_name") fd_is_name := He5.fun_of F0_is_name
  obtain ⟨fd_are_plain, F0_are_plain⟩ := c.def_ 5 (d := dd_are_plain) rfl
  have g_are_plain : mg "are_plain" = some (.ref (He.ga K "are_plain")) := He.glo_ok X G (c.fact 5 (f := .glo "are_plain") rfl)
  have F_are_plain : Fun K "are_plain" "are_plain" s_are_plain (He.ga K "are_plain") fd_are_plain := He5.fun_of F0_are_plain
  obtain ⟨fd_is_what, F0_is_what⟩ := c.def_ 6 (d := dd_is_what) rfl
  have g_is_what : mg "is_what" = some (.ref (He.ga K "is_what")) := He.glo_ok X G (c.fact 6 (f := .glo "is_what") rfl)
  have F_is_what : Fun K "is_what" "is_what" s_is_what (He.ga K "is_what") fd_is_what := He5.fun_of F0_is_what
  obtain ⟨fd_is_deed, F0_is_deed⟩ := c.def_ 7 (d := dd_is_deed) rfl
  have g_is_deed : mg "is_deed" = some (.ref (He.ga K "is_deed")) := He.glo_ok X G (c.fact 7 (f := .glo "is_deed") rfl)
  have F_is_deed : Fun K "is_deed" "is_deed" s_is_deed (He.ga K "is_deed") fd_is_deed := He5.fun_of F0_is_deed
  obtain ⟨fd_need_deeds, F0_need_deeds⟩ := c.def_ 8 (d := dd_need_deeds) rfl
  have g_need_deeds : mg "need_deeds" = some (.ref (He.ga K "need_deeds")) := He.glo_ok X G (c.fact 8 (f := .glo "need_deeds") rfl)
  have F_need_deeds : Fun K "need_deeds" "need_deeds" s_need_deeds (He.ga K "need_deeds") fd_need_deeds := He5.fun_of F0_need_deeds
  obtain ⟨fd_item_of, F0_item_of⟩ := c.def_ 9 (d := dd_item_of) rfl
  have g_item_of : mg "item_of" = some (.ref (He.ga K "item_of")) := He.glo_ok X G (c.fact 9 (f := .glo "item_of") rfl)
  have F_item_of : Fun K "item_of" "item_of" s_item_of (He.ga K "item_of") fd_item_of := He5.fun_of F0_item_of
  obtain ⟨fd_words_of, F0_words_of⟩ := c.def_ 10 (d := dd_words_of) rfl
  have g_words_of : mg "words_of" = some (.ref (He.ga K "words_of")) := He.glo_ok X G (c.fact 10 (f := .glo "words_of") rfl)
  have F_words_of : Fun K "words_of" "words_of" s_words_of (He.ga K "words_of") fd_words_of := He5.fun_of F0_words_of
  obtain ⟨fd_written, F0_written⟩ := c.def_ 11 (d := dd_written) rfl
  have g_written : mg "written" = some (.ref (He.ga K "written")) := He.glo_ok X G (c.fact 11 (f := .glo "written") rfl)
  have F_written : Fun K "written" "written" s_written (He.ga K "written") fd_written := He5.fun_of F0_written
  obtain ⟨fd_number_of, F0_number_of⟩ := c.def_ 12 (d := dd_number_of) rfl
  have g_number_of : mg "number_of" = some (.ref (He.ga K "number_of")) := He.glo_ok X G (c.fact 12 (f := .glo "number_of") rfl)
  have F_number_of : Fun K "number_of" "number_of" s_number_of (He.ga K "number_of") fd_number_of := He5.fun_of F0_number_of
  obtain ⟨fd_stretch_of, F0_stretch_of⟩ := c.def_ 13 (d := dd_stretch_of) rfl
  have g_stretch_of : mg "stretch_of" = some (.ref (He.ga K "stretch_of")) := He.glo_ok X G (c.fact 13 (f := .glo "stretch_of") rfl)
  have F_stretch_of : Fun K "stretch_of" "stretch_of" s_stretch_of (He.ga K "stretch_of") fd_stretch_of := He5.fun_of F0_stretch_of
  obtain ⟨fd_rows_of_word, F0_rows_of_word⟩ := c.def_ 14 (d := dd_rows_of_word) rfl
  have g_rows_of_word : mg "rows_of_word" = some (.ref (He.ga K "rows_of_word")) := He.glo_ok X G (c.fact 14 (f := .glo "rows_of_word") rfl)
  have F_rows_of_word : Fun K "rows_of_word" "rows_of_word" s_rows_of_word (He.ga K "rows_of_word") fd_rows_of_word := He5.fun_of F0_rows_of_word
  obtain ⟨fd_rows_read, F0_rows_read⟩ := c.def_ 15 (d := dd_rows_read) rfl
  have g_rows_read : mg "rows_read" = some (.ref (He.ga K "rows_read")) := He.glo_ok X G (c.fact 15 (f := .glo "rows_read") rfl)
  have F_rows_read : Fun K "rows_read" "rows_read" s_rows_read (He.ga K "rows_read") fd_rows_read := He5.fun_of F0_rows_read
  obtain ⟨fd_read, F0_read⟩ := c.def_ 16 (d := dd_read) rfl
  have g_read : mg "read" = some (.ref (He.ga K "read")) := He.glo_ok X G (c.fact 16 (f := .glo "read") rfl)
  have F_read : Fun K "read" "read" s_read (He.ga K "read") fd_read := He5.fun_of F0_read
  obtain ⟨fd_deed_words, F0_deed_words⟩ := c.def_ 17 (d := dd_deed_words) rfl
  have g_deed_words : mg "deed_words" = some (.ref (He.ga K "deed_words")) := He.glo_ok X G (c.fact 17 (f := .glo "deed_words") rfl)
  have F_deed_words : Fun K "deed_words" "deed_words" s_deed_words (He.ga K "deed_words") fd_deed_words := He5.fun_of F0_deed_words
  obtain ⟨fd_written_deed, F0_written_deed⟩ := c.def_ 18 (d := dd_written_deed) rfl
  have g_written_deed : mg "written_deed" = some (.ref (He.ga K "written_deed")) := He.glo_ok X G (c.fact 18 (f := .glo "written_deed") rfl)
  have F_written_deed : Fun K "written_deed" "written_deed" s_written_deed (He.ga K "written_deed") fd_written_deed := He5.fun_of F0_written_deed
  obtain ⟨fd_signed_of, F0_signed_of⟩ := c.def_ 19 (d := dd_signed_of) rfl
  have g_signed_of : mg "signed_of" = some (.ref (He.ga K "signed_of")) := He.glo_ok X G (c.fact 19 (f := .glo "signed_of") rfl)
  have F_signed_of : Fun K "signed_of" "signed_of" s_signed_of (He.ga K "signed_of") fd_signed_of := He5.fun_of F0_signed_of
  obtain ⟨fd_numbers_read, F0_numbers_read⟩ := c.def_ 20 (d := dd_numbers_read) rfl
  have g_numbers_read : mg "numbers_read" = some (.ref (He.ga K "numbers_read")) := He.glo_ok X G (c.fact 20 (f := .glo "numbers_read") rfl)
  have F_numbers_read : Fun K "numbers_read" "numbers_read" s_numbers_read (He.ga K "numbers_read") fd_numbers_read := He5.fun_of F0_numbers_read
  obtain ⟨fd_what_read, F0_what_read⟩ := c.def_ 21 (d := dd_what_read) rfl
  have g_what_read : mg "what_read" = some (.ref (He.ga K "what_read")) := He.glo_ok X G (c.fact 21 (f := .glo "what_read") rfl)
  have F_what_read : Fun K "what_read" "what_read" s_what_read (He.ga K "what_read") fd_what_read := He5.fun_of F0_what_read
  obtain ⟨fd_read_deed, F0_read_deed⟩ := c.def_ 22 (d := dd_read_deed) rfl
  have g_read_deed : mg "read_deed" = some (.ref (He.ga K "read_deed")) := He.glo_ok X G (c.fact 22 (f := .glo "read_deed") rfl)
  have F_read_deed : Fun K "read_deed" "read_deed" s_read_deed (He.ga K "read_deed") fd_read_deed := He5.fun_of F0_read_deed
  obtain ⟨fd__law_dice, F0__law_dice⟩ := c.def_ 23 (d := dd__law_dice) rfl
  have g__law_dice : mg "_law_dice" = some (.ref (He.ga K "_law_dice")) := He.glo_ok X G (c.fact 23 (f := .glo "_law_dice") rfl)
  have F__law_dice : Fun K "_law_dice" "_law_dice" s__law_dice (He.ga K "_law_dice") fd__law_dice := He5.fun_of F0__law_dice
  obtain ⟨fd__law_next, F0__law_next⟩ := c.def_ 24 (d := dd__law_next) rfl
  have g__law_next : mg "_law_next" = some (.ref (He.ga K "_law_next")) := He.glo_ok X G (c.fact 24 (f := .glo "_law_next") rfl)
  have F__law_next : Fun K "_law_next" "_law_next" s__law_next (He.ga K "_law_next") fd__law_next := He5.fun_of F0__law_next
  obtain ⟨fd__law_like, F0__law_like⟩ := c.def_ 25 (d := dd__law_like) rfl
  have g__law_like : mg "_law_like" = some (.ref (He.ga K "_law_like")) := He.glo_ok X G (c.fact 25 (f := .glo "_law_like") rfl)
  have F__law_like : Fun K "_law_like" "_law_like" s__law_like (He.ga K "_law_like") fd__law_like := He5.fun_of F0__law_like
  obtain ⟨fd__law_rows, F0__law_rows⟩ := c.def_ 26 (d := dd__law_rows) rfl
  have g__law_rows : mg "_law_rows" = some (.ref (He.ga K "_law_rows")) := He.glo_ok X G (c.fact 26 (f := .glo "_law_rows") rfl)
  have F__law_rows : Fun K "_law_rows" "_law_rows" s__law_rows (He.ga K "_law_rows") fd__law_rows := He5.fun_of F0__law_rows
  obtain ⟨fd__law_moved, F0__law_moved⟩ := c.def_ 27 (d := dd__law_moved) rfl
  have g__law_moved : mg "_law_moved" = some (.ref (He.ga K "_law_moved")) := He.glo_ok X G (c.fact 27 (f := .glo "_law_moved") rfl)
  have F__law_moved : Fun K "_law_moved" "_law_moved" s__law_moved (He.ga K "_law_moved") fd__law_moved := He5.fun_of F0__law_moved
  obtain ⟨fd__law_names, F0__law_names⟩ := c.def_ 28 (d := dd__law_names) rfl
  have g__law_names : mg "_law_names" = some (.ref (He.ga K "_law_names")) := He.glo_ok X G (c.fact 28 (f := .glo "_law_names") rfl)
  have F__law_names : Fun K "_law_names" "_law_names" s__law_names (He.ga K "_law_names") fd__law_names := He5.fun_of F0__law_names
  obtain ⟨fd__law_told_rows, F0__law_told_rows⟩ := c.def_ 29 (d := dd__law_told_rows) rfl
  have g__law_told_rows : mg "_law_told_rows" = some (.ref (He.ga K "_law_told_rows")) := He.glo_ok X G (c.fact 29 (f := .glo "_law_told_rows") rfl)
  have F__law_told_rows : Fun K "_law_told_rows" "_law_told_rows" s__law_told_rows (He.ga K "_law_told_rows") fd__law_told_rows := He5.fun_of F0__law_told_rows
  obtain ⟨fd__law_what, F0__law_what⟩ := c.def_ 30 (d := dd__law_what) rfl
  have g__law_what : mg "_law_what" = some (.ref (He.ga K "_law_what")) := He.glo_ok X G (c.fact 30 (f := .glo "_law_what") rfl)
  have F__law_what : Fun K "_law_what" "_law_what" s__law_what (He.ga K "_law_what") fd__law_what := He5.fun_of F0__law_what
  obtain ⟨fd__law_deeds, F0__law_deeds⟩ := c.def_ 31 (d := dd__law_deeds) rfl
  have g__law_deeds : mg "_law_deeds" = some (.ref (He.ga K "_law_deeds")) := He.glo_ok X G (c.fact 31 (f := .glo "_law_deeds") rfl)
  have F__law_deeds : Fun K "_law_deeds" "_law_deeds" s__law_deeds (He.ga K "_law_deeds") fd__law_deeds := He5.fun_of F0__law_deeds
  obtain ⟨fd__law_text, F0__law_text⟩ := c.def_ 32 (d := dd__law_text) rfl
  have g__law_text : mg "_law_text" = some (.ref (He.ga K "_law_text")) := He.glo_ok X G (c.fact 32 (f := .glo "_law_text") rfl)
  have F__law_text : Fun K "_law_text" "_law_text" s__law_text (He.ga K "_law_text") fd__law_text := He5.fun_of F0__law_text
  obtain ⟨fd__law_deed_text, F0__law_deed_text⟩ := c.def_ 33 (d := dd__law_deed_text) rfl
  have g__law_deed_text : mg "_law_deed_text" = some (.ref (He.ga K "_law_deed_text")) := He.glo_ok X G (c.fact 33 (f := .glo "_law_deed_text") rfl)
  have F__law_deed_text : Fun K "_law_deed_text" "_law_deed_text" s__law_deed_text (He.ga K "_law_deed_text") fd__law_deed_text := He5.fun_of F0__law_deed_text
  obtain ⟨fd_law, F0_law⟩ := c.def_ 34 (d := dd_law) rfl
  have g_law : mg "law" = some (.ref (He.ga K "law")) := He.glo_ok X G (c.fact 34 (f := .glo "law") rfl)
  have F_law : Fun K "law" "law" s_law (He.ga K "law") fd_law := He5.fun_of F0_law
  have e := hfa.symm.trans g_law
  cases e
  have bl : ∀ (s : Shared) (v : Value), BindsTo s fd_law ⟨[v], []⟩ [("_law_script", v)] := fun s v => by
    have b := FunD.bindsA (ps := ["_law_script"]) F0_law fun _ _ _ _ _ _ us hl => match us, hl with | [_], _ => rfl
    exact b s [v] rfl
  refine ⟨fd_law, bl, fun base hK hN => ?_⟩
  have d_is_row := ok_is_row (P := P) (w := w) (base := base) (cad := He.ga K) gm cf  F_is_row g_is_row
  have d_need_rows := ok_need_rows (P := P) (w := w) (base := base) (cad := He.ga K) gm cf d_is_row F_need_rows g_need_rows
  have d_merged := ok_merged (P := P) (w := w) (base := base) (cad := He.ga K) gm cf  F_merged g_merged
  have d_plain := ok_plain (P := P) (w := w) (base := base) (cad := He.ga K) gm cf d_merged d_need_rows F_plain g_plain
  have d_is_name := ok_is_name (P := P) (w := w) (base := base) (cad := He.ga K) gm cf  F_is_name g_is_name
  have d_are_plain := ok_are_plain (P := P) (w := w) (base := base) (cad := He.ga K) gm cf d_is_row d_merged F_are_plain g_are_plain
  have d_is_what := ok_is_what (P := P) (w := w) (base := base) (cad := He.ga K) gm cf d_are_plain d_is_name F_is_what g_is_what
  have d_is_deed := ok_is_deed (P := P) (w := w) (base := base) (cad := He.ga K) gm cf d_is_name d_is_what F_is_deed g_is_deed
  have d_need_deeds := ok_need_deeds (P := P) (w := w) (base := base) (cad := He.ga K) gm cf d_is_deed F_need_deeds g_need_deeds
  have d_item_of := ok_item_of (P := P) (w := w) (base := base) (cad := He.ga K) gm cf  F_item_of g_item_of
  have d_words_of := ok_words_of (P := P) (w := w) (base := base) (cad := He.ga K) gm cf d_item_of F_words_of g_words_of
  have d_written := ok_written (P := P) (w := w) (base := base) (cad := He.ga K) gm cf d_plain d_words_of F_written g_written
  have d_number_of := ok_number_of (P := P) (w := w) (base := base) (cad := He.ga K) gm cf  F_number_of g_number_of
  have d_stretch_of := ok_stretch_of (P := P) (w := w) (base := base) (cad := He.ga K) gm cf d_number_of F_stretch_of g_stretch_of
  have d_rows_of_word := ok_rows_of_word (P := P) (w := w) (base := base) (cad := He.ga K) gm cf d_number_of d_stretch_of F_rows_of_word g_rows_of_word
  have d_rows_read := ok_rows_read (P := P) (w := w) (base := base) (cad := He.ga K) gm cf d_rows_of_word F_rows_read g_rows_read
  have d_read := ok_read (P := P) (w := w) (base := base) (cad := He.ga K) gm cf d_rows_read F_read g_read
  have d_deed_words := ok_deed_words (P := P) (w := w) (base := base) (cad := He.ga K) gm cf d_words_of F_deed_words g_deed_words
  have d_written_deed := ok_written_deed (P := P) (w := w) (base := base) (cad := He.ga K) gm cf d_deed_words d_need_deeds F_written_deed g_written_deed
  have d_signed_of := ok_signed_of (P := P) (w := w) (base := base) (cad := He.ga K) gm cf d_number_of F_signed_of g_signed_of
  have d_numbers_read := ok_numbers_read (P := P) (w := w) (base := base) (cad := He.ga K) gm cf d_number_of F_numbers_read g_numbers_read
  have d_what_read := ok_what_read (P := P) (w := w) (base := base) (cad := He.ga K) gm cf d_signed_of F_what_read g_what_read
  have d_read_deed := ok_read_deed (P := P) (w := w) (base := base) (cad := He.ga K) gm cf d_is_deed d_numbers_read d_rows_read d_what_read F_read_deed g_read_deed
  have d__law_dice := ok__law_dice (P := P) (w := w) (base := base) (cad := He.ga K) gm cf  F__law_dice g__law_dice
  have d__law_next := ok__law_next (P := P) (w := w) (base := base) (cad := He.ga K) gm cf  F__law_next g__law_next
  have d__law_like := ok__law_like (P := P) (w := w) (base := base) (cad := He.ga K) gm cf  F__law_like g__law_like 8
  have d__law_rows := ok__law_rows (P := P) (w := w) (base := base) (cad := He.ga K) gm cf d__law_next F__law_rows g__law_rows
  have d__law_moved := ok__law_moved (P := P) (w := w) (base := base) (cad := He.ga K) gm cf  F__law_moved g__law_moved
  have d__law_names := ok__law_names (P := P) (w := w) (base := base) (cad := He.ga K) gm cf  F__law_names g__law_names
  have d__law_told_rows := ok__law_told_rows (P := P) (w := w) (base := base) (cad := He.ga K) gm cf  F__law_told_rows g__law_told_rows
  have d__law_what := ok__law_what (P := P) (w := w) (base := base) (cad := He.ga K) gm cf d__law_names d__law_next d__law_rows d__law_told_rows F__law_what g__law_what
  have d__law_deeds := ok__law_deeds (P := P) (w := w) (base := base) (cad := He.ga K) gm cf d__law_next d__law_what F__law_deeds g__law_deeds
  have d__law_text := ok__law_text (P := P) (w := w) (base := base) (cad := He.ga K) gm cf  F__law_text g__law_text
  have d__law_deed_text := ok__law_deed_text (P := P) (w := w) (base := base) (cad := He.ga K) gm cf d__law_text F__law_deed_text g__law_deed_text
  exact ok_law_fn (P := P) (w := w) (base := base) (cad := He.ga K) gm cf d__law_deed_text d__law_deeds d__law_dice d__law_like d__law_moved d__law_names d__law_next d__law_rows d__law_text d__law_told_rows d_read d_read_deed d_written d_written_deed F_law
end Law

open PySem PySem.W PySem.Calls PyProof.Rows
set_option maxHeartbeats 0 in
theorem PySem.Challenge.cw_doneranges_k05_texts_holds : PySem.Challenge.rw_doneranges_k05_texts.Holds := by
  w_on; o_law
  refine HandSHeadRun.head_any (r := OpenLaw.row PySem.Challenge.rw_doneranges_k05_texts) (q := view (OpenLaw.row PySem.Challenge.rw_doneranges_k05_texts).prog [56]) (H := Law.hk) (ob := Law.ob) (M := 30000) (loose := Law.loose) (d := HandSHeadRun.topDef (OpenLaw.row PySem.Challenge.rw_doneranges_k05_texts).prog 56) (kwd := []) Law.ob_eq
    (by kernel_rfl) (fun s => by kernel_rfl) Law.run (by kernel_rfl) (by kernel_rfl) (by kernel_rfl) (by rfl) (by first | assumption | decide +kernel) (by decide +kernel) ⟨rfl, rfl, rfl, rfl, rfl, by decide +kernel⟩ ?hw ?hc
  case hw => w_witness2
  case hc =>
    refine L2.walk_ofE (l := PySem.Challenge.rw_doneranges_k05_texts) (n := 63) (k := 10) (x := "_law_script") (CX := L2.CX0) rfl (by decide) (by kernel_rfl) ⟨rfl, by decide, by decide⟩ ?F (fun _ _ _ _ z => z)
    intro w mg fa h Y G hmg0
    obtain ⟨K, KX, c⟩ := Y
    have hmg : mg ("law" : PySem.Str) = some (.ref fa) := by
      have e : (HandSHeadRun.topDef (OpenLaw.row PySem.Challenge.rw_doneranges_k05_texts).prog 56).name = ("law" : PySem.Str) := by kernel_rfl
      rw [← e]
      exact hmg0
    obtain ⟨fd, hb, hF⟩ := Law.facts (P := (PySem.Challenge.rw_doneranges_k05_texts).prog) (w := w) KX G hmg c
    exact ⟨K, fd, DL.spM K (He.ga K) 1 (DL.noX Law.m_law), KX, hb, fun H a ns hl _ hS => DL.law_sp hS (Law.law_true ns hl), hF⟩


