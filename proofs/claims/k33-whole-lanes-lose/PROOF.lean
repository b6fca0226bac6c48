import PyProof.Rows.All
import Wide.All
import OpenK.AllK
import Wide.FinOn
import HandS.ForMost
import HandS.Exc
import HandS.TryOnly
import HandS.ExcOwn
import HandS.WordsExc
import HandS.IsInst
import HandS.EndBits
import HandS.Style
import HandS.CallSlots
import HandS.SortInts
import HandS.RaiseMore
import HandS.Strs
import HandS.SetFor
import HandS.Wide
import HandS.ExcIs
import HandS.Deep
import HandS.Defaults
import HandS.Conv
import HandS.SortKw
import HandS.MakeKw
import HandS.MakeKwOnly
import HandS.OwnEq
import HandS.NamedTupGet
import PySem.Challenge.RW_evenline_k33_whole_lanes_lose
set_option Elab.async false
set_option linter.all false
set_option maxRecDepth 100000
set_option maxHeartbeats 4000000
set_option autoImplicit false
/-! Zl1: deep data, the small mutable heap, heap-free readings, their lifting to HandS -/
namespace Zl
open PySem L2

/-- deep data: what a Python value is worth; ref: a thing that may change, or is not looked into -/
inductive D where
  | non | bl (b : Bool) | int (i : Int) | str (x : Str) | lst (ds : List D) | tup (ds : List D) | dct | exc (c : Str) | scr (ns : List Int) | ref (a : Addr)
/-- what may change -/
inductive MO where
  | lst (ds : List D) | ins (c : Str) (fs : List (Str × D)) | town
abbrev Mh := Addr → Option MO
def mup (M : Mh) (a : Addr) (o : MO) : Mh := fun b => if b = a then some o else M b
def mdel (M : Mh) (a : Addr) : Mh := fun b => if b = a then none else M b
@[simp] theorem mup_same {M : Mh} {a : Addr} {o : MO} : mup M a o a = some o := by unfold mup; rw [if_pos rfl]
theorem mup_ne {M : Mh} {a b : Addr} {o : MO} (h : b ≠ a) : mup M a o b = M b := by unfold mup; rw [if_neg h]
@[simp] theorem mdel_same {M : Mh} {a : Addr} : mdel M a a = none := by unfold mdel; rw [if_pos rfl]
theorem mdel_ne {M : Mh} {a b : Addr} (h : b ≠ a) : mdel M a b = M b := by unfold mdel; rw [if_neg h]
theorem mup_mup {M : Mh} {a : Addr} {o p : MO} : mup (mup M a o) a p = mup M a p := by
  funext b; unfold mup; split <;> rfl
theorem mdel_mup {M : Mh} {a : Addr} {o : MO} (h : M a = none) : mdel (mup M a o) a = M := by
  funext b; unfold mdel mup
  by_cases e : b = a
  · rw [if_pos e, e, h]
  · rw [if_neg e, if_neg e]
theorem ne_of_m {M : Mh} {a b : Addr} {o : MO} (h : M a = some o) (h' : M b = none) : a ≠ b := by
  intro e; subst e; rw [h] at h'; cases h'

abbrev Env := List (Option D)
/-- the value of a slot -/
def gt : Env → Nat → Option D
  | [], _ => none
  | d :: _, 0 => d
  | _ :: r, n + 1 => gt r n
/-- a slot stored -/
def st : Env → Nat → Option D → Env
  | [], _, _ => []
  | _ :: r, 0, x => x :: r
  | d :: r, n + 1, x => d :: st r n x
theorem st_len : ∀ (r : Env) (i : Nat) (x : Option D), (st r i x).length = r.length
  | [], _, _ => rfl
  | _ :: _, 0, _ => rfl
  | _ :: r, n + 1, x => congrArg (· + 1) (st_len r n x)
theorem gt_st_ne : ∀ (r : Env) (i j : Nat) (x : Option D), j ≠ i → gt (st r i x) j = gt r j
  | [], _, _, _, _ => rfl
  | _ :: _, 0, 0, _, h => absurd rfl h
  | _ :: _, 0, _ + 1, _, _ => rfl
  | _ :: _, _ + 1, 0, _, _ => rfl
  | _ :: r, i + 1, j + 1, x, h => gt_st_ne r i j x (fun e => h (congrArg (· + 1) e))
theorem gt_st_same : ∀ (r : Env) (i : Nat) (x : Option D) (d : D), gt (st r i x) i = some d → x = some d ∧ i < r.length
  | [], _, _, _, h => nomatch h
  | _ :: _, 0, _, _, h => ⟨h, Nat.succ_pos _⟩
  | _ :: r, i + 1, x, d, h => let ⟨a, b⟩ := gt_st_same r i x d h; ⟨a, Nat.succ_lt_succ b⟩
/-- slots forgotten -/
def zwipe (r : Env) : List Nat → Env
  | [] => r
  | v :: vs => st (zwipe r vs) v none

/-- an exception object of the class at C -/
def ExZ (C : Addr) (d : Option Addr) (a : Addr) : HO := .ext fun h => ∃ (oe : Obj) (vs : Array Value), h.get? a = some oe ∧ Zc (.ref C) d oe ∧ oe.data = .fields vs

/-- what never changes any more (f), and what others hold and nobody here touches (u) -/
structure Fz where
  f : Hp
  u : Hp
structure Le (F F' : Fz) : Prop where
  f : Same F.f F'.f
  u : F'.u = F.u
theorem Le.refl (F : Fz) : Le F F := ⟨Same.refl _, rfl⟩
theorem Le.trans {F F1 F2 : Fz} (a : Le F F1) (b : Le F1 F2) : Le F F2 := ⟨a.f.trans b.f, b.u.trans a.u⟩
structure Ge (F0 F : Fz) : Prop where
  f : Same F0.f F.f
  u : Same F0.u F.u
theorem Ge.trans {F0 F F1 : Fz} (a : Ge F0 F) (b : Le F F1) : Ge F0 F1 := ⟨a.f.trans b.f, by rw [b.u]; exact a.u⟩
theorem Ge.refl (F : Fz) : Ge F F := ⟨Same.refl _, Same.refl _⟩
def Fz.up (F : Fz) (p : Addr) (o : HO) : Fz := ⟨upd F.f p o, F.u⟩
mutual
inductive Rep (K : PySem.W.Frag) (mg : Str → Option Value) (F : Fz) : V → D → Prop
  | non : Rep K mg F .non .non
  | bl (b : Bool) : Rep K mg F (.bl b) (.bl b)
  | int (i : Int) : Rep K mg F (.int i) (.int i)
  | str {x : Str} : PyData.strOk x = true → x.length ≤ sizeLine → Rep K mg F (.str x) (.str x)
  | lst {a : Addr} {vs : List V} {ds : List D} : F.f a = some (.lst vs) → vs.length ≤ sizeLine → RepL K mg F vs ds → Rep K mg F (.ref a) (.lst ds)
  | tup {a : Addr} {vs : List V} {ds : List D} : SqT K F.f a vs → vs.length ≤ sizeLine → RepL K mg F vs ds → Rep K mg F (.ref a) (.tup ds)
  | dct {a : Addr} : F.f a = some (.dK []) → Rep K mg F (.ref a) .dct
  | exc {a C : Addr} {c : Str} : mg c = some (.ref C) → F.f a = some (ExZ C none a) → Rep K mg F (.ref a) (.exc c)
  | scr {a : Addr} {ns : List Int} : SqL K F.f a (ns.map V.int) → ns.length ≤ 63 → Rep K mg F (.ref a) (.scr ns)
  | ref (a : Addr) : Rep K mg F (.ref a) (.ref a)
inductive RepL (K : PySem.W.Frag) (mg : Str → Option Value) (F : Fz) : List V → List D → Prop
  | nil : RepL K mg F [] []
  | cons {v : V} {vs : List V} {d : D} {ds : List D} : Rep K mg F v d → RepL K mg F vs ds → RepL K mg F (v :: vs) (d :: ds)
end

section
variable {K : PySem.W.Frag} {mg : Str → Option Value} {F F' F1 F2 : Fz} {H H' : Hp}
theorem same_sqT {f f' : Hp} {a : Addr} {xs : List V} (e : Same f f') (h : SqT K f a xs) : SqT K f' a xs := by
  rcases h with (h | ⟨o, h⟩) | h
  · exact .inl (.inl (e _ _ h))
  · exact .inl (.inr ⟨o, e _ _ h⟩)
  · exact .inr h
theorem same_upd {p : Addr} {o : HO} (h : H p = none) : Same H (upd H p o) := fun b x e => by
  rw [upd_ne (ne_of_none e h)]
  exact e
mutual
theorem Rep.monoF (e : Same F.f F'.f) : ∀ {v : V} {d : D}, Rep K mg F v d → Rep K mg F' v d
  | _, _, .non => .non
  | _, _, .bl b => .bl b
  | _, _, .int i => .int i
  | _, _, .str h h' => .str h h'
  | _, _, .lst h l r => .lst (e _ _ h) l (RepL.monoF e r)
  | _, _, .tup h l r => .tup (same_sqT e h) l (RepL.monoF e r)
  | _, _, .dct h => .dct (e _ _ h)
  | _, _, .exc h h' => .exc h (e _ _ h')
  | _, _, .scr h l => .scr (e.seq h) l
  | _, _, .ref a => .ref a
theorem RepL.monoF (e : Same F.f F'.f) : ∀ {vs : List V} {ds : List D}, RepL K mg F vs ds → RepL K mg F' vs ds
  | _, _, .nil => .nil
  | _, _, .cons h t => .cons (Rep.monoF e h) (RepL.monoF e t)
end
theorem Rep.mono (e : Le F F') {v : V} {d : D} (h : Rep K mg F v d) : Rep K mg F' v d := h.monoF e.f
theorem RepL.mono (e : Le F F') {vs : List V} {ds : List D} (h : RepL K mg F vs ds) : RepL K mg F' vs ds := h.monoF e.f
theorem RepL.length : ∀ {vs : List V} {ds : List D}, RepL K mg F vs ds → vs.length = ds.length
  | _, _, .nil => rfl
  | _, _, .cons _ t => congrArg (· + 1) t.length
theorem RepL.get : ∀ {vs : List V} {ds : List D} {i : Nat} {d : D}, RepL K mg F vs ds → ds[i]? = some d → ∃ v, vs[i]? = some v ∧ Rep K mg F v d
  | _, _, _, _, .nil, e => by simp at e
  | _, _, 0, _, .cons h _, e => by simp at e; subst e; exact ⟨_, rfl, h⟩
  | _, _, i + 1, d, .cons _ t, e => by
    obtain ⟨v, h1, h2⟩ := RepL.get (i := i) (d := d) t (by simpa using e)
    exact ⟨v, by simpa using h1, h2⟩
theorem RepL.getV : ∀ {vs : List V} {ds : List D} {i : Nat} {v : V}, RepL K mg F vs ds → vs[i]? = some v → ∃ d, ds[i]? = some d ∧ Rep K mg F v d
  | _, _, _, _, .nil, e => by simp at e
  | _, _, 0, _, .cons h _, e => by simp at e; subst e; exact ⟨_, rfl, h⟩
  | _, _, i + 1, v, .cons _ t, e => by
    obtain ⟨d, h1, h2⟩ := RepL.getV (i := i) (v := v) t (by simpa using e)
    exact ⟨d, by simpa using h1, h2⟩
theorem RepL.append : ∀ {vs ws : List V} {ds es : List D}, RepL K mg F vs ds → RepL K mg F ws es → RepL K mg F (vs ++ ws) (ds ++ es)
  | _, _, _, _, .nil, s => s
  | _, _, _, _, .cons h t, s => .cons h (RepL.append t s)
theorem RepL.drop : ∀ {vs : List V} {ds : List D} (n : Nat), RepL K mg F vs ds → RepL K mg F (vs.drop n) (ds.drop n)
  | _, _, 0, r => r
  | _, _, _ + 1, .nil => .nil
  | _, _, n + 1, .cons _ t => RepL.drop n t
theorem RepL.take : ∀ {vs : List V} {ds : List D} (n : Nat), RepL K mg F vs ds → RepL K mg F (vs.take n) (ds.take n)
  | _, _, 0, _ => .nil
  | _, _, _ + 1, .nil => .nil
  | _, _, n + 1, .cons r t => .cons r (RepL.take n t)
theorem RepL.set {v : V} {d : D} (r : Rep K mg F v d) : ∀ {vs : List V} {ds : List D} (i : Nat), RepL K mg F vs ds → RepL K mg F (vs.set i v) (ds.set i d)
  | _, _, _, .nil => .nil
  | _, _, 0, .cons _ t => .cons r t
  | _, _, i + 1, .cons q t => .cons q (RepL.set r i t)
theorem RepL.eraseIdx : ∀ {vs : List V} {ds : List D} (i : Nat), RepL K mg F vs ds → RepL K mg F (vs.eraseIdx i) (ds.eraseIdx i)
  | _, _, _, .nil => .nil
  | _, _, 0, .cons _ t => t
  | _, _, i + 1, .cons q t => .cons q (RepL.eraseIdx i t)
theorem RepL.reverse {vs : List V} {ds : List D} (h : RepL K mg F vs ds) : RepL K mg F vs.reverse ds.reverse := by
  induction vs generalizing ds with
  | nil => cases h; exact .nil
  | cons v vs ih =>
    cases h with
    | cons r t =>
      rw [List.reverse_cons, List.reverse_cons]
      exact (ih t).append (.cons r .nil)
theorem RepL.flat {vs : List V} {ds : List D} (h : RepL K mg F vs ds) : ∀ n : Nat, RepL K mg F (List.replicate n vs).flatten (List.replicate n ds).flatten
  | 0 => .nil
  | n + 1 => by
    rw [List.replicate_succ, List.replicate_succ, List.flatten_cons, List.flatten_cons]
    exact h.append (h.flat n)
theorem RepL.ints : ∀ (ns : List Int), RepL K mg F (ns.map V.int) (ns.map D.int)
  | [] => .nil
  | n :: r => .cons (.int n) (RepL.ints r)
theorem RepL.ints_of : ∀ {vs : List V} {ns : List Int}, RepL K mg F vs (ns.map D.int) → vs = ns.map V.int
  | _, [], h => by cases h; rfl
  | _, n :: r, h => by
    cases h with
    | cons a t => cases a; rw [RepL.ints_of (ns := r) t]; rfl
theorem RepL.strs_of : ∀ {vs : List V} {ns : List Str}, RepL K mg F vs (ns.map D.str) → vs = ns.map V.str
  | _, [], h => by cases h; rfl
  | _, n :: r, h => by
    cases h with
    | cons a t => cases a; rw [RepL.strs_of (ns := r) t]; rfl
theorem RepL.bls_of : ∀ {vs : List V} {ns : List Bool}, RepL K mg F vs (ns.map D.bl) → vs = ns.map V.bl
  | _, [], h => by cases h; rfl
  | _, n :: r, h => by
    cases h with
    | cons a t => cases a; rw [RepL.bls_of (ns := r) t]; rfl

/-- the slots -/
def RepE (K : PySem.W.Frag) (mg : Str → Option Value) (F : Fz) (s : St) (r : Env) : Prop := s.length = r.length ∧ ∀ i d, gt r i = some d → ∃ v, s[i]? = some (some v) ∧ Rep K mg F v d
theorem RepE.mono {s : St} {r : Env} (e : Le F F') (h : RepE K mg F s r) : RepE K mg F' s r := ⟨h.1, fun i d q => let ⟨v, a, b⟩ := h.2 i d q; ⟨v, a, b.mono e⟩⟩
theorem RepE.set {s : St} {r : Env} {v : V} {d : D} (i : Nat) (h : RepE K mg F s r) (q : Rep K mg F v d) : RepE K mg F (s.set i (some v)) (st r i (some d)) := by
  refine ⟨by rw [List.length_set, st_len]; exact h.1, fun j e z => ?_⟩
  by_cases hj : j = i
  · subst hj
    obtain ⟨a, b⟩ := gt_st_same _ _ _ _ z
    cases a
    exact ⟨v, List.getElem?_set_self (by rw [h.1]; exact b), q⟩
  · rw [gt_st_ne _ _ _ _ hj] at z
    obtain ⟨w, a, b⟩ := h.2 j e z
    exact ⟨w, by rw [List.getElem?_set_ne (Ne.symm hj)]; exact a, b⟩
theorem RepE.unset {s : St} {r : Env} (i : Nat) (h : RepE K mg F s r) : RepE K mg F (s.set i none) (st r i none) := by
  refine ⟨by rw [List.length_set, st_len]; exact h.1, fun j e z => ?_⟩
  by_cases hj : j = i
  · subst hj
    obtain ⟨a, b⟩ := gt_st_same _ _ _ _ z
    cases a
  · rw [gt_st_ne _ _ _ _ hj] at z
    obtain ⟨w, a, b⟩ := h.2 j e z
    exact ⟨w, by rw [List.getElem?_set_ne (Ne.symm hj)]; exact a, b⟩
theorem RepE.wipe {s : St} {r : Env} (h : RepE K mg F s r) : ∀ vs : List Nat, RepE K mg F (wipe s vs) (zwipe r vs)
  | [] => h
  | v :: vs => by
    show RepE K mg F ((L2.wipe s vs).set v none) (st (zwipe r vs) v none)
    exact (h.wipe vs).unset v

/-- what stands at a changing address -/
def RepO (K : PySem.W.Frag) (mg : Str → Option Value) (F : Fz) (H : Hp) (M : Mh) (a : Addr) : MO → Prop
  | .lst ds => ∃ vs, H a = some (.lst vs) ∧ vs.length ≤ sizeLine ∧ RepL K mg F vs ds
  | .ins c fs => ∃ C dx vs, mg c = some (.ref C) ∧ H a = some (.ins C dx (List.zip (fs.map (·.1)) vs)) ∧ RepL K mg F vs (fs.map (·.2))
  | .town => ∃ c n cells, H a = some (.lst [.ref c, .int n]) ∧ H c = some (.lst (cells.map V.int)) ∧ F.f c = none ∧ F.u c = none ∧ M c = none ∧ cells ≠ [] ∧ cells.length ≤ 1000 ∧ ∀ t, M t = some .town → t = a
/-- F: what never changes any more; M: what may -/
structure Wd (K : PySem.W.Frag) (mg : Str → Option Value) (F : Fz) (H : Hp) (M : Mh) : Prop where
  sub : ∀ a o, F.f a = some o → H a = some o
  un : ∀ a o, F.u a = some o → H a = some o ∧ F.f a = none ∧ M a = none
  mu : ∀ a m, M a = some m → F.f a = none ∧ RepO K mg F H M a m
theorem Wd.tr {M : Mh} {a : Addr} {m : MO} (w : Wd K mg F H M) (h : M a = some m) : ∃ o, H a = some o := by
  obtain ⟨_, r⟩ := w.mu a m h
  cases m with
  | lst ds => obtain ⟨vs, e, _⟩ := r; exact ⟨_, e⟩
  | ins c fs => obtain ⟨C, dx, vs, _, e, _⟩ := r; exact ⟨_, e⟩
  | town => obtain ⟨c, n, cells, e, _⟩ := r; exact ⟨_, e⟩
theorem Wd.free {M : Mh} {a : Addr} (w : Wd K mg F H M) (h : H a = none) : M a = none ∧ F.f a = none ∧ F.u a = none := by
  refine ⟨?_, ?_, ?_⟩
  · cases e : M a with
    | none => rfl
    | some m => obtain ⟨o, q⟩ := w.tr e; rw [q] at h; cases h
  · cases e : F.f a with
    | none => rfl
    | some o => rw [w.sub a o e] at h; cases h
  · cases e : F.u a with
    | none => rfl
    | some o => rw [(w.un a o e).1] at h; cases h
/-- what is at b (not at p) looks the same, if p alone differs -/
theorem RepO.stay {M M' : Mh} {b : Addr} {m : MO} (e : Same F.f F'.f) (hb : H' b = H b) (hc : ∀ c, (∃ o, H c = some o) → F.f c = none → F.u c = none → M c = none → H' c = H c ∧ F'.f c = none ∧ F'.u c = none ∧ M' c = none) (ht : ∀ t, M' t = some .town → M t = some .town)
    (r : RepO K mg F H M b m) : RepO K mg F' H' M' b m := by
  cases m with
  | lst ds => obtain ⟨vs, h, l, q⟩ := r; exact ⟨vs, hb.trans h, l, q.monoF e⟩
  | ins c fs => obtain ⟨C, dx, vs, h0, h, q⟩ := r; exact ⟨C, dx, vs, h0, hb.trans h, q.monoF e⟩
  | town =>
    obtain ⟨c, n, cells, h1, h2, h3, h3', h4, h5, h6, h7⟩ := r
    obtain ⟨k1, k2, k2', k3⟩ := hc c ⟨_, h2⟩ h3 h3' h4
    exact ⟨c, n, cells, hb.trans h1, k1.trans h2, k2, k2', k3, h5, h6, fun t q => h7 t (ht t q)⟩
/-- a new thing is laid, frozen at once -/
theorem Wd.laidF {M : Mh} {p : Addr} {o : HO} (w : Wd K mg F H M) (hp : H p = none) : Le F (F.up p o) ∧ Wd K mg (F.up p o) (upd H p o) M := by
  obtain ⟨m0, f0, u0⟩ := w.free hp
  refine ⟨⟨same_upd f0, rfl⟩, fun a x e => ?_, fun a x e => ?_, fun a m e => ?_⟩
  · have e : upd F.f p o a = some x := e
    by_cases h : a = p
    · rw [h, upd_same] at e ⊢; exact e
    · rw [upd_ne h] at e ⊢; exact w.sub a x e
  · have h : a ≠ p := ne_of_none (show F.u a = some x from e) u0
    obtain ⟨q1, q2, q3⟩ := w.un a x e
    exact ⟨by rw [upd_ne h]; exact q1, (upd_ne h).trans q2, q3⟩
  · have h : a ≠ p := ne_of_m e m0
    obtain ⟨q, r⟩ := w.mu a m e
    refine ⟨(upd_ne h).trans q, r.stay (F' := F.up p o) (same_upd f0) (upd_ne h) (fun c ⟨x, hx⟩ hf hu hm => ?_) fun _ z => z⟩
    have hc : c ≠ p := ne_of_none hx hp
    exact ⟨upd_ne hc, (upd_ne hc).trans hf, hu, hm⟩
/-- a new thing is laid that may change -/
theorem Wd.laidM {M : Mh} {p : Addr} {o : HO} {m : MO} (w : Wd K mg F H M) (hp : H p = none) (hm : m ≠ .town) (r : RepO K mg F (upd H p o) (mup M p m) p m) : Wd K mg F (upd H p o) (mup M p m) := by
  obtain ⟨m0, f0, u0⟩ := w.free hp
  refine ⟨fun a x e => ?_, fun a x e => ?_, fun a m' e => ?_⟩
  · have h : a ≠ p := ne_of_none (w.sub a x e) hp
    rw [upd_ne h]; exact w.sub a x e
  · have h : a ≠ p := ne_of_none e u0
    obtain ⟨q1, q2, q3⟩ := w.un a x e
    exact ⟨by rw [upd_ne h]; exact q1, q2, by rw [mup_ne h]; exact q3⟩
  · by_cases h : a = p
    · subst h; rw [mup_same] at e; cases e; exact ⟨f0, r⟩
    · rw [mup_ne h] at e
      obtain ⟨q, r'⟩ := w.mu a m' e
      refine ⟨q, r'.stay (Same.refl _) (upd_ne h) (fun c ⟨x, hx⟩ hf hu hmc => ?_) fun t z => ?_⟩
      · have hc : c ≠ p := ne_of_none hx hp
        exact ⟨upd_ne hc, hf, hu, by rw [mup_ne hc]; exact hmc⟩
      · by_cases ht : t = p
        · subst ht; rw [mup_same] at z; cases z; exact absurd rfl hm
        · rw [mup_ne ht] at z; exact z
/-- a changing thing is changed -/
theorem Wd.write {M : Mh} {p : Addr} {o : HO} {m m0 : MO} (w : Wd K mg F H M) (hp : M p = some m0) (hm : m ≠ .town) (h0 : m0 ≠ .town) (r : RepO K mg F (upd H p o) (mup M p m) p m) : Wd K mg F (upd H p o) (mup M p m) := by
  obtain ⟨f0, _⟩ := w.mu p m0 hp
  refine ⟨fun a x e => ?_, fun a x e => ?_, fun a m' e => ?_⟩
  · have h : a ≠ p := fun z => by rw [z, f0] at e; cases e
    rw [upd_ne h]; exact w.sub a x e
  · obtain ⟨q1, q2, q3⟩ := w.un a x e
    have h : a ≠ p := fun z => by rw [z, hp] at q3; cases q3
    exact ⟨by rw [upd_ne h]; exact q1, q2, by rw [mup_ne h]; exact q3⟩
  · by_cases h : a = p
    · subst h; rw [mup_same] at e; cases e; exact ⟨f0, r⟩
    · rw [mup_ne h] at e
      obtain ⟨q, r'⟩ := w.mu a m' e
      refine ⟨q, r'.stay (Same.refl _) (upd_ne h) (fun c ⟨x, hx⟩ hf hu hmc => ?_) fun t z => ?_⟩
      · have hc : c ≠ p := fun z => by rw [z, hp] at hmc; cases hmc
        exact ⟨upd_ne hc, hf, hu, by rw [mup_ne hc]; exact hmc⟩
      · by_cases ht : t = p
        · subst ht; rw [mup_same] at z; cases z; exact absurd rfl hm
        · rw [mup_ne ht] at z; exact z
/-- a changing list is frozen -/
theorem Wd.freeze {M : Mh} {p : Addr} {ds : List D} (w : Wd K mg F H M) (hp : M p = some (.lst ds)) : ∃ F', Le F F' ∧ Wd K mg F' H (mdel M p) ∧ Rep K mg F' (.ref p) (.lst ds) := by
  obtain ⟨f0, vs, e, l, q⟩ := w.mu p _ hp
  have s : Le F (F.up p (.lst vs)) := ⟨same_upd f0, rfl⟩
  refine ⟨F.up p (.lst vs), s, ⟨fun a x z => ?_, fun a x z => ?_, fun a m z => ?_⟩, .lst upd_same l (q.mono s)⟩
  · have z : upd F.f p (.lst vs) a = some x := z
    by_cases h : a = p
    · subst h; rw [upd_same] at z; rw [← z]; exact e
    · rw [upd_ne h] at z; exact w.sub a x z
  · obtain ⟨q1, q2, q3⟩ := w.un a x z
    have h : a ≠ p := fun y => by rw [y, hp] at q3; cases q3
    exact ⟨q1, (upd_ne h).trans q2, by rw [mdel_ne h]; exact q3⟩
  · have h : a ≠ p := fun y => by rw [y, mdel_same] at z; cases z
    rw [mdel_ne h] at z
    obtain ⟨f1, r⟩ := w.mu a m z
    refine ⟨(upd_ne h).trans f1, r.stay (F' := F.up p (.lst vs)) s.f rfl (fun c _ hf hu hm => ?_) fun t y => ?_⟩
    · have hc : c ≠ p := fun y => by rw [y, hp] at hm; cases hm
      exact ⟨rfl, (upd_ne hc).trans hf, hu, by rw [mdel_ne hc]; exact hm⟩
    · have ht : t ≠ p := fun x => by rw [x, mdel_same] at y; cases y
      rw [mdel_ne ht] at y; exact y
/-- things are forgotten -/
theorem Wd.drop {M M' : Mh} (w : Wd K mg F H M) (h : ∀ a m, M' a = some m → M a = some m) : Wd K mg F H M' := by
  have nn : ∀ c, M c = none → M' c = none := fun c hm => by
    cases q : M' c with
    | none => rfl
    | some x => rw [h c x q] at hm; cases hm
  refine ⟨w.sub, fun a x e => let ⟨q1, q2, q3⟩ := w.un a x e; ⟨q1, q2, nn a q3⟩, fun a m e => ?_⟩
  obtain ⟨f, r⟩ := w.mu a m (h a m e)
  exact ⟨f, r.stay (Same.refl _) rfl (fun c _ hf hu hm => ⟨rfl, hf, hu, nn c hm⟩) fun t z => h t _ z⟩
/-- a thing of no one is put among the untouched -/
theorem Wd.hide {M : Mh} {a : Addr} {o : HO} (w : Wd K mg F H M) (h : H a = none) : Wd K mg ⟨F.f, upd F.u a o⟩ (upd H a o) M := by
  obtain ⟨m0, f0, u0⟩ := w.free h
  refine ⟨fun b x e => ?_, fun b x e => ?_, fun b m e => ?_⟩
  · have hb : b ≠ a := ne_of_none (w.sub b x e) h
    rw [upd_ne hb]; exact w.sub b x e
  · have e : upd F.u a o b = some x := e
    by_cases hb : b = a
    · subst hb; rw [upd_same] at e ⊢; exact ⟨e, f0, m0⟩
    · rw [upd_ne hb] at e ⊢; exact w.un b x e
  · have hb : b ≠ a := ne_of_m e m0
    obtain ⟨q, r⟩ := w.mu b m e
    refine ⟨q, r.stay (F := F) (F' := ⟨F.f, upd F.u a o⟩) (Same.refl _) (upd_ne hb) (fun c ⟨x, hx⟩ hf hu hm => ?_) fun _ z => z⟩
    have hc : c ≠ a := ne_of_none hx h
    exact ⟨upd_ne hc, hf, (upd_ne hc).trans hu, hm⟩
/-- .. and changed by its holder -/
theorem Wd.rehide {M : Mh} {a : Addr} {o o' : HO} (w : Wd K mg F H M) (h : F.u a = some o') : Wd K mg ⟨F.f, upd F.u a o⟩ (upd H a o) M := by
  obtain ⟨h0, f0, m0⟩ := w.un a o' h
  refine ⟨fun b x e => ?_, fun b x e => ?_, fun b m e => ?_⟩
  · have hb : b ≠ a := fun z => by rw [z, f0] at e; cases e
    rw [upd_ne hb]; exact w.sub b x e
  · have e : upd F.u a o b = some x := e
    by_cases hb : b = a
    · subst hb; rw [upd_same] at e ⊢; exact ⟨e, f0, m0⟩
    · rw [upd_ne hb] at e ⊢; exact w.un b x e
  · have hb : b ≠ a := ne_of_m e m0
    obtain ⟨q, r⟩ := w.mu b m e
    refine ⟨q, r.stay (F := F) (F' := ⟨F.f, upd F.u a o⟩) (Same.refl _) (upd_ne hb) (fun c ⟨x, hx⟩ hf hu hm => ?_) fun _ z => z⟩
    have hc : c ≠ a := fun z => by rw [z, h] at hu; cases hu
    exact ⟨upd_ne hc, hf, (upd_ne hc).trans hu, hm⟩
/-- fewer untouched ones -/
theorem Wd.less {M : Mh} {u : Hp} (w : Wd K mg F H M) (h : Same u F.u) : Wd K mg ⟨F.f, u⟩ H M := by
  refine ⟨w.sub, fun a o e => w.un a o (h a o e), fun b m e => ?_⟩
  obtain ⟨q, r⟩ := w.mu b m e
  refine ⟨q, r.stay (F := F) (F' := ⟨F.f, u⟩) (Same.refl _) rfl (fun c _ hf hu hm => ⟨rfl, hf, h.free hu, hm⟩) fun _ z => z⟩

abbrev QZ := D → Mh → Prop
abbrev ZE := Env → Mh → QZ → Prop
abbrev ZT := Env → Mh → (Bool → Mh → Prop) → Prop
abbrev ZA := Env → Mh → (List D → Mh → Prop) → Prop
structure ZEnds where
  nx : Env → Mh → Prop
  rt : QZ
  bk : Env → Mh → Prop := fun _ _ => False
  ct : Env → Mh → Prop := fun _ _ => False
abbrev ZS := ZEnds → Env → Mh → Prop
abbrev ZG := D → Env → Mh → (Env → Mh → Prop) → Prop
/-- an exception: its class's name, its fields -/
abbrev ZX := Str → List (Str × D) → Mh → Prop
abbrev ZW := Str → List (Str × D) → Env → Mh → Prop
abbrev ZSp := List D → Mh → QZ → ZX → Prop

/-- what is wanted of a value -/
def Kq (K : PySem.W.Frag) (mg : Str → Option Value) (F : Fz) (R : QZ) (Q : VK) : Prop := ∀ d M', R d M' → ∀ F' H' v, Le F F' → Wd K mg F' H' M' → Rep K mg F' v d → Q v H'
def upE (K : PySem.W.Frag) (mg : Str → Option Value) (F0 : Fz) (f : ZE) : TE := fun s H Q => ∃ (F : Fz) (r : Env) (M : Mh) (R : QZ), Ge F0 F ∧ Wd K mg F H M ∧ RepE K mg F s r ∧ f r M R ∧ Kq K mg F R Q
def upT (K : PySem.W.Frag) (mg : Str → Option Value) (F0 : Fz) (f : ZT) : TT := fun s H Q => ∃ (F : Fz) (r : Env) (M : Mh) (R : Bool → Mh → Prop), Ge F0 F ∧ Wd K mg F H M ∧ RepE K mg F s r ∧ f r M R ∧
  ∀ b M', R b M' → ∀ F' H', Le F F' → Wd K mg F' H' M' → Q b H'
def upA (K : PySem.W.Frag) (mg : Str → Option Value) (F0 : Fz) (f : ZA) : TA := fun s H Q => ∃ (F : Fz) (r : Env) (M : Mh) (R : List D → Mh → Prop), Ge F0 F ∧ Wd K mg F H M ∧ RepE K mg F s r ∧ f r M R ∧
  ∀ ds M', R ds M' → ∀ F' H' vs, Le F F' → Wd K mg F' H' M' → RepL K mg F' vs ds → Q vs H'
/-- what follows in a state -/
def Kn (K : PySem.W.Frag) (mg : Str → Option Value) (F : Fz) (R : Env → Mh → Prop) (Q : St → Hp → Prop) : Prop := ∀ r M, R r M → ∀ F' s H', Le F F' → Wd K mg F' H' M → RepE K mg F' s r → Q s H'
structure Ks (K : PySem.W.Frag) (mg : Str → Option Value) (F : Fz) (Z : ZEnds) (D : Ends) : Prop where
  nx : Kn K mg F Z.nx D.nx
  rt : Kq K mg F Z.rt D.rt
  bk : Kn K mg F Z.bk D.bk
  ct : Kn K mg F Z.ct D.ct
def upS (K : PySem.W.Frag) (mg : Str → Option Value) (F0 : Fz) (f : ZS) : TS := fun D s H => ∃ (F : Fz) (r : Env) (M : Mh) (Z : ZEnds), Ge F0 F ∧ Wd K mg F H M ∧ RepE K mg F s r ∧ f Z r M ∧ Ks K mg F Z D
def upG (K : PySem.W.Frag) (mg : Str → Option Value) (F0 : Fz) (g : ZG) : TG := fun v s H Q => ∃ (F : Fz) (r : Env) (M : Mh) (d : D) (R : Env → Mh → Prop), Ge F0 F ∧ Wd K mg F H M ∧ RepE K mg F s r ∧ Rep K mg F v d ∧ g d r M R ∧ Kn K mg F R Q
theorem Kq.mono {R : QZ} {Q : VK} (e : Le F F') (k : Kq K mg F R Q) : Kq K mg F' R Q := fun d M' h G H' v s w r => k d M' h G H' v (e.trans s) w r
theorem Kn.mono {R : Env → Mh → Prop} {Q : St → Hp → Prop} (e : Le F F') (k : Kn K mg F R Q) : Kn K mg F' R Q := fun d M' h G s' H' s w r => k d M' h G s' H' (e.trans s) w r
theorem Ks.mono {Z : ZEnds} {E : Ends} (e : Le F F') (k : Ks K mg F Z E) : Ks K mg F' Z E := ⟨k.nx.mono e, k.rt.mono e, k.bk.mono e, k.ct.mono e⟩

/-! ### judgements weakened -/
end
section
variable {X : Cx} {e : Expr}
theorem pe_imp {t t' : TE} (h : PE X e t) (i : ∀ s H Q, t' s H Q → t s H Q) : PE X e t' := ⟨fun pins s r H Q I q => h.run pins s r H Q I (i _ _ _ q)⟩
theorem pt_imp {t t' : TT} (h : PT X e t) (i : ∀ s H Q, t' s H Q → t s H Q) : PT X e t' := ⟨fun pins s r H Q I q => h.run pins s r H Q I (i _ _ _ q)⟩
theorem pw_imp {t t' : TT} (h : PW X e t) (i : ∀ s H Q, t' s H Q → t s H Q) : PW X e t' := ⟨fun w pins s r H Q I q => h.run w pins s r H Q I (i _ _ _ q)⟩
theorem pa_imp {es : List Expr} {t t' : TA} (h : PA X es t) (i : ∀ s H Q, t' s H Q → t s H Q) : PA X es t' := ⟨fun p pins s r H Q I q => h.run p pins s r H Q I (i _ _ _ q)⟩
theorem ps_imp {st : Stmt} {t t' : TS} (h : PS X st t) (i : ∀ E s H, t' E s H → t E s H) : PS X st t' := ⟨fun pins s r H E I q => h.run pins s r H E I (i _ _ _ q)⟩
theorem pss_imp {st : List Stmt} {t t' : TS} (h : PSs X st t) (i : ∀ E s H, t' E s H → t E s H) : PSs X st t' := ⟨fun pins s r H E I q => h.run pins s r H E I (i _ _ _ q)⟩
theorem pg_imp {t t' : TG} (h : PG X e t) (i : ∀ v s H Q, t' v s H Q → t v s H Q) : PG X e t' := ⟨fun pins s r H v u Q I rv q => h.run pins s r H v u Q I rv (i _ _ _ _ q)⟩
end
end Zl

/-! Zl2: expressions -/
namespace Zl
open PySem L2

/-! ### readings -/
/-- by a truth value -/
def bsel (b : Bool) (t u : Prop) : Prop := match b with | true => t | false => u
def onBl (d : D) (k : Bool → Prop) : Prop := match d with | .bl b => k b | _ => False
def onInt (d : D) (k : Int → Prop) : Prop := match d with | .int i => k i | _ => False
def zVar (i : Nat) : ZE := fun r M Q => match gt r i with | some d => Q d M | none => False
def zC (d : D) : ZE := fun _ M Q => Q d M
def z2 (f : D → D → Mh → QZ → Prop) (a b : ZE) : ZE := fun r M Q => a r M fun x M1 => b r M1 fun y M2 => f x y M2 Q
def z1 (f : D → Mh → QZ → Prop) (a : ZE) : ZE := fun r M Q => a r M fun x M1 => f x M1 Q
/-- the items of a list, frozen or changing -/
def zL (M : Mh) (d : D) (k : List D → Prop) : Prop := match d with
  | .lst ds => k ds
  | .ref p => (match M p with | some (.lst ds) => k ds | _ => False)
  | _ => False
/-- .. or of a tuple -/
def zLT (M : Mh) (d : D) (k : List D → Prop) : Prop := match d with
  | .tup ds => k ds
  | .lst ds => k ds
  | .ref p => (match M p with | some (.lst ds) => k ds | _ => False)
  | _ => False
@[simp] theorem zL_lst (M : Mh) (ds : List D) (k : List D → Prop) : zL M (.lst ds) k = k ds := rfl
theorem zL_ref {M : Mh} {p : Addr} {ds : List D} {k : List D → Prop} (h : M p = some (.lst ds)) : zL M (.ref p) k = k ds := by
  show (match M p with | some (.lst ds) => k ds | _ => False) = k ds
  rw [h]
@[simp] theorem zLT_lst (M : Mh) (ds : List D) (k : List D → Prop) : zLT M (.lst ds) k = k ds := rfl
@[simp] theorem zLT_tup (M : Mh) (ds : List D) (k : List D → Prop) : zLT M (.tup ds) k = k ds := rfl
theorem zLT_ref {M : Mh} {p : Addr} {ds : List D} {k : List D → Prop} (h : M p = some (.lst ds)) : zLT M (.ref p) k = k ds := by
  show (match M p with | some (.lst ds) => k ds | _ => False) = k ds
  rw [h]
/-- a new list: b tells whether it may change -/
def zNew (b : Bool) (ds : List D) (M : Mh) (Q : QZ) : Prop := match b with
  | true => ∀ p, M p = none → Q (.ref p) (mup M p (.lst ds))
  | false => Q (.lst ds) M
@[simp] theorem zNew_f (ds : List D) (M : Mh) (Q : QZ) : zNew false ds M Q = Q (.lst ds) M := rfl
@[simp] theorem zNew_t (ds : List D) (M : Mh) (Q : QZ) : zNew true ds M Q = ∀ p, M p = none → Q (.ref p) (mup M p (.lst ds)) := rfl

def dAdd (b : Bool) (x y : D) (M : Mh) (Q : QZ) : Prop := match x, y with
  | .int i, .int j => Q (.int (i + j)) M
  | .str s, .str t => s.length + t.length ≤ sizeLine ∧ Q (.str (s ++ t)) M
  | .lst xs, y => zL M y fun ys => xs.length + ys.length ≤ sizeLine ∧ zNew b (xs ++ ys) M Q
  | .ref p, y => zL M (.ref p) fun xs => zL M y fun ys => xs.length + ys.length ≤ sizeLine ∧ zNew b (xs ++ ys) M Q
  | _, _ => False
def dSub (x y : D) (M : Mh) (Q : QZ) : Prop := match x, y with
  | .int i, .int j => Q (.int (i - j)) M
  | _, _ => False
def dMul (b : Bool) (x y : D) (M : Mh) (Q : QZ) : Prop := match x, y with
  | .int i, .int j => CMul i j ∧ Q (.int (i * j)) M
  | .lst xs, .int k => -(2 ^ 63) ≤ k ∧ k < 2 ^ 63 ∧ xs.length * k.toNat ≤ sizeLine ∧ zNew b (List.replicate k.toNat xs).flatten M Q
  | .ref p, .int k => zL M (.ref p) fun xs => -(2 ^ 63) ≤ k ∧ k < 2 ^ 63 ∧ xs.length * k.toNat ≤ sizeLine ∧ zNew b (List.replicate k.toNat xs).flatten M Q
  | _, _ => False
def dDiv (x y : D) (M : Mh) (Q : QZ) : Prop := match x, y with
  | .int i, .int j => CDiv i j ∧ Q (.int (i / j)) M
  | _, _ => False
def dMod (x y : D) (M : Mh) (Q : QZ) : Prop := match x, y with
  | .int i, .int j => 0 < j ∧ Q (.int (i % j)) M
  | _, _ => False
def dPow (x y : D) (M : Mh) (Q : QZ) : Prop := match x, y with
  | .int i, .int j => CPow i j ∧ Q (.int (i ^ j.toNat)) M
  | _, _ => False
def dShr (x y : D) (M : Mh) (Q : QZ) : Prop := match x, y with
  | .int i, .int j => 0 ≤ j ∧ Q (.int (i / 2 ^ j.toNat)) M
  | _, _ => False
def dAnd (x y : D) (M : Mh) (Q : QZ) : Prop := match x, y with
  | .int i, .int j => Q (.int (Builtin.bitAnd i j)) M
  | _, _ => False
def dXor (x y : D) (M : Mh) (Q : QZ) : Prop := match x, y with
  | .int i, .int j => Q (.int (Builtin.bitXor i j)) M
  | _, _ => False
def dNeg (x : D) (M : Mh) (Q : QZ) : Prop := match x with
  | .int i => Q (.int (-i)) M
  | _ => False
def dCmp (p : Int → Int → Bool) (x y : D) (M : Mh) (Q : QZ) : Prop := match x, y with
  | .int i, .int j => Q (.bl (p i j)) M
  | _, _ => False
def pLt (i j : Int) : Bool := decide (i < j)
def pLe (i j : Int) : Bool := decide (i ≤ j)
def pGt (i j : Int) : Bool := decide (j < i)
def pGe (i j : Int) : Bool := decide (j ≤ i)

/-! ### equality of data -/
mutual
def toP : D → PyData
  | .non => .none
  | .bl b => .bool b
  | .int i => .int i
  | .str x => .str x
  | .lst ds => .list (toPs ds)
  | .tup ds => .tuple (toPs ds)
  | .dct => .none
  | .exc _ => .none
  | .scr _ => .none
  | .ref _ => .none
def toPs : List D → List PyData
  | [] => []
  | d :: r => toP d :: toPs r
end
mutual
/-- data through and through -/
def plain : D → Bool
  | .non | .bl _ | .int _ | .str _ => true
  | .lst ds => plains ds
  | .tup ds => plains ds
  | _ => false
def plains : List D → Bool
  | [] => true
  | d :: r => plain d && plains r
end
def eqD (x y : D) : Bool := PyData.eqv (toP x) (toP y)
def eqDs (x y : List D) : Bool := PyData.eqvAll (toPs x) (toPs y)
def dep (x : D) : Nat := (toP x).depth
mutual
/-- things as data: lists that may change, as they stand -/
inductive Rs (M : Mh) : D → D → Prop
  | refl (d : D) : Rs M d d
  | ref {p : Addr} {ds es : List D} : M p = some (.lst ds) → RsL M ds es → Rs M (.ref p) (.lst es)
  | lst {ds es : List D} : RsL M ds es → Rs M (.lst ds) (.lst es)
  | tup {ds es : List D} : RsL M ds es → Rs M (.tup ds) (.tup es)
inductive RsL (M : Mh) : List D → List D → Prop
  | nil : RsL M [] []
  | cons {d e : D} {ds es : List D} : Rs M d e → RsL M ds es → RsL M (d :: ds) (e :: es)
end
theorem RsL.refl (M : Mh) : ∀ ds : List D, RsL M ds ds
  | [] => .nil
  | d :: r => .cons (.refl d) (RsL.refl M r)
def zP (M : Mh) (d : D) (k : D → Prop) : Prop := ∃ e, Rs M d e ∧ k e
def dEq (x y : D) (M : Mh) (Q : QZ) : Prop := zP M x fun x => zP M y fun y => plain x = true ∧ plain y = true ∧ (dep x ≤ 64 ∨ dep y ≤ 64) ∧ Q (.bl (eqD x y)) M
def dNe (x y : D) (M : Mh) (Q : QZ) : Prop := zP M x fun x => zP M y fun y => plain x = true ∧ plain y = true ∧ (dep x ≤ 64 ∨ dep y ≤ 64) ∧ Q (.bl (!eqD x y)) M

section
variable {K : PySem.W.Frag} {mg : Str → Option Value} {F F0 : Fz} {H : Hp} {M : Mh}
mutual
theorem Rep.dp (w : Same F.f H) : ∀ {v : V} {d : D}, plain d = true → Rep K mg F v d → Dp K H v (toP d)
  | _, _, _, .non => .non
  | _, _, _, .bl b => .bl b
  | _, _, _, .int i => .int i
  | _, _, _, .str _ _ => .str _
  | _, _, p, .lst h _ r => .lst (SqL.of (w _ _ h)) (RepL.dp w p r)
  | _, _, p, .tup h _ r => .tup (same_sqT w h) (RepL.dp w p r)
  | _, _, p, .dct _ => absurd (show false = true from p) Bool.false_ne_true
  | _, _, p, .exc _ _ => absurd (show false = true from p) Bool.false_ne_true
  | _, _, p, .scr _ _ => absurd (show false = true from p) Bool.false_ne_true
  | _, _, p, .ref _ => absurd (show false = true from p) Bool.false_ne_true
theorem RepL.dp (w : Same F.f H) : ∀ {vs : List V} {ds : List D}, plains ds = true → RepL K mg F vs ds → DpAll K H vs (toPs ds)
  | _, _, _, .nil => .nil
  | _, _, p, .cons h t => by
    have q := Bool.and_eq_true_iff.mp (show (plain _ && plains _) = true from p)
    exact .cons (Rep.dp w q.1 h) (RepL.dp w q.2 t)
end
mutual
theorem Rep.lay : ∀ {v : V} {d : D}, Rep K mg F v d → (toP d).canLay0 = true
  | _, _, .non => by simp [toP, PyData.canLay0]
  | _, _, .bl b => by simp [toP, PyData.canLay0]
  | _, _, .int i => by simp [toP, PyData.canLay0]
  | _, _, .str h _ => by simpa [toP, PyData.canLay0] using h
  | _, _, .lst _ _ r => by simpa [toP, PyData.canLay0] using RepL.lay r
  | _, _, .tup _ _ r => by simpa [toP, PyData.canLay0] using RepL.lay r
  | _, _, .dct _ => by simp [toP, PyData.canLay0]
  | _, _, .exc _ _ => by simp [toP, PyData.canLay0]
  | _, _, .scr _ _ => by simp [toP, PyData.canLay0]
  | _, _, .ref a => by simp [toP, PyData.canLay0]
theorem RepL.lay : ∀ {vs : List V} {ds : List D}, RepL K mg F vs ds → PyData.canLayAll0 (toPs ds) = true
  | _, _, .nil => by simp [toPs, PyData.canLayAll0]
  | _, _, .cons h t => by
    have a := Rep.lay h
    have b := RepL.lay t
    simp [toPs, PyData.canLayAll0, a, b]
end
theorem Wd.same (w : Wd K mg F H M) : Same F.f H := fun a o e => w.sub a o e
mutual
theorem Rs.dp (w : Wd K mg F H M) : ∀ {v : V} {d e : D}, Rs M d e → Rep K mg F v d → (plain e = true → Dp K H v (toP e)) ∧ (toP e).canLay0 = true
  | _, _, _, .refl d, r => ⟨fun pl => r.dp w.same pl, r.lay⟩
  | _, _, _, .ref e q, r => by
    cases r
    obtain ⟨_, vs, hv, _, q2⟩ := w.mu _ _ e
    obtain ⟨h1, h2⟩ := RsL.dp w q q2
    exact ⟨fun pl => .lst (SqL.of hv) (h1 (by simpa [plain] using pl)), by simpa [toP, PyData.canLay0] using h2⟩
  | _, _, _, .lst q, r => by
    cases r with
    | lst e l q2 =>
      obtain ⟨h1, h2⟩ := RsL.dp w q q2
      exact ⟨fun pl => .lst (SqL.of (w.same _ _ e)) (h1 (by simpa [plain] using pl)), by simpa [toP, PyData.canLay0] using h2⟩
  | _, _, _, .tup q, r => by
    cases r with
    | tup e l q2 =>
      obtain ⟨h1, h2⟩ := RsL.dp w q q2
      exact ⟨fun pl => .tup (same_sqT w.same e) (h1 (by simpa [plain] using pl)), by simpa [toP, PyData.canLay0] using h2⟩
theorem RsL.dp (w : Wd K mg F H M) : ∀ {vs : List V} {ds es : List D}, RsL M ds es → RepL K mg F vs ds → (plains es = true → DpAll K H vs (toPs es)) ∧ PyData.canLayAll0 (toPs es) = true
  | _, _, _, .nil, r => by
    cases r
    exact ⟨fun _ => .nil, by simp [toPs, PyData.canLayAll0]⟩
  | _, _, _, .cons q t, r => by
    cases r with
    | cons h1 h2 =>
      obtain ⟨a1, a2⟩ := Rs.dp w q h1
      obtain ⟨b1, b2⟩ := RsL.dp w t h2
      refine ⟨fun pl => ?_, by simp [toPs, PyData.canLayAll0, a2, b2]⟩
      have pl := Bool.and_eq_true_iff.mp (show (plain _ && plains _) = true from pl)
      exact .cons (a1 pl.1) (b1 pl.2)
end
/-- from a thing to its data -/
theorem zP_out {d : D} {k : D → Prop} {v : V} (w : Wd K mg F H M) (r : Rep K mg F v d) (h : zP M d k) : ∃ d', k d' ∧ (plain d' = true → Dp K H v (toP d')) ∧ (toP d').canLay0 = true := by
  obtain ⟨e, q, h⟩ := h
  obtain ⟨h1, h2⟩ := Rs.dp w q r
  exact ⟨e, h, h1, h2⟩
/-- from a list to its items -/
theorem zL_out {d : D} {k : List D → Prop} {v : V} (w : Wd K mg F H M) (r : Rep K mg F v d) (h : zL M d k) : ∃ a vs ds, v = .ref a ∧ H a = some (.lst vs) ∧ vs.length ≤ sizeLine ∧ RepL K mg F vs ds ∧ k ds := by
  cases d with
  | lst ds =>
    cases r with
    | lst e l q => exact ⟨_, _, ds, rfl, w.sub _ _ e, l, q, h⟩
  | ref p =>
    cases r
    unfold zL at h
    cases e : M p with
    | none => simp [e] at h
    | some m =>
      cases m with
      | lst ds =>
        simp [e] at h
        obtain ⟨_, vs, hv, l, q⟩ := w.mu p _ e
        exact ⟨p, vs, ds, rfl, hv, l, q, h⟩
      | ins c fs => simp [e] at h
      | town => simp [e] at h
  | _ => exact False.elim h
theorem zLT_out {d : D} {k : List D → Prop} {v : V} (w : Wd K mg F H M) (r : Rep K mg F v d) (h : zLT M d k) : ∃ a vs ds, v = .ref a ∧ (SqL K H a vs ∨ SqT K H a vs) ∧ vs.length ≤ sizeLine ∧ RepL K mg F vs ds ∧ k ds := by
  cases d with
  | tup ds =>
    cases r with
    | tup e l q => exact ⟨_, _, ds, rfl, .inr (same_sqT w.same e), l, q, h⟩
  | lst ds =>
    obtain ⟨a, vs, es, e, h1, h2, h3, h4⟩ := zL_out (d := .lst ds) (k := k) w r h
    exact ⟨a, vs, es, e, .inl (SqL.of h1), h2, h3, h4⟩
  | ref p =>
    obtain ⟨a, vs, es, e, h1, h2, h3, h4⟩ := zL_out (d := .ref p) (k := k) w r h
    exact ⟨a, vs, es, e, .inl (SqL.of h1), h2, h3, h4⟩
  | _ => exact False.elim h
/-- a new list -/
theorem zNew_out {b : Bool} {vs : List V} {ds : List D} {R : QZ} {Q : VK} (w : Wd K mg F H M) (l : vs.length ≤ sizeLine) (q : RepL K mg F vs ds) (h : zNew b ds M R) (k : Kq K mg F R Q) : ∀ p, H p = none → Q (.ref p) (upd H p (.lst vs)) := by
  intro p hp
  obtain ⟨m0, f0, u0⟩ := w.free hp
  cases b with
  | false =>
    obtain ⟨s, w'⟩ := w.laidF (o := .lst vs) hp
    exact k _ _ h _ _ _ s w' (.lst upd_same l (q.mono s))
  | true =>
    refine k _ _ (h p m0) F _ _ (Le.refl F) (w.laidM hp (by intro z; cases z) ⟨vs, upd_same, l, q⟩) (.ref p)
theorem zTup_out {vs : List V} {ds : List D} {R : QZ} {Q : VK} (w : Wd K mg F H M) (l : vs.length ≤ sizeLine) (q : RepL K mg F vs ds) (h : R (.tup ds) M) (k : Kq K mg F R Q) : ∀ p, H p = none → Q (.ref p) (upd H p (.tup vs)) := by
  intro p hp
  obtain ⟨s, w'⟩ := w.laidF (o := .tup vs) hp
  exact k _ _ h _ _ _ s w' (.tup (SqT.of upd_same) l (q.mono s))
end

/-! ### lifting -/
/-- a two-place operation's soundness -/
def Snd2 (K : PySem.W.Frag) (mg : Str → Option Value) (r : R2) (f : D → D → Mh → QZ → Prop) : Prop := ∀ (F : Fz) (H : Hp) (M : Mh) (x y : V) (a b : D) (Q : VK) (R : QZ), Wd K mg F H M → Rep K mg F x a → Rep K mg F y b → f a b M R → Kq K mg F R Q → r x y H Q
def Snd1 (K : PySem.W.Frag) (mg : Str → Option Value) (r : V → Hp → VK → Prop) (f : D → Mh → QZ → Prop) : Prop := ∀ (F : Fz) (H : Hp) (M : Mh) (x : V) (a : D) (Q : VK) (R : QZ), Wd K mg F H M → Rep K mg F x a → f a M R → Kq K mg F R Q → r x H Q
/-- .. of a call by values -/
def SndA (K : PySem.W.Frag) (mg : Str → Option Value) (r : List V → Hp → VK → Prop) (f : List D → Mh → QZ → Prop) : Prop := ∀ (F : Fz) (H : Hp) (M : Mh) (xs : List V) (ds : List D) (Q : VK) (R : QZ), Wd K mg F H M → RepL K mg F xs ds → f ds M R → Kq K mg F R Q → r xs H Q
section
variable {X : Cx} {F0 : Fz}
abbrev UE (X : Cx) (F0 : Fz) (f : ZE) : TE := upE X.K X.mg F0 f
abbrev UT (X : Cx) (F0 : Fz) (f : ZT) : TT := upT X.K X.mg F0 f
abbrev UA (X : Cx) (F0 : Fz) (f : ZA) : TA := upA X.K X.mg F0 f
abbrev US (X : Cx) (F0 : Fz) (f : ZS) : TS := upS X.K X.mg F0 f
abbrev UG (X : Cx) (F0 : Fz) (f : ZG) : TG := upG X.K X.mg F0 f
theorem up2 {K : PySem.W.Frag} {mg : Str → Option Value} {fa fb : ZE} {r : R2} {f : D → D → Mh → QZ → Prop} (s2 : Snd2 K mg r f) {s : St} {H : Hp} {Q : VK} (h : upE K mg F0 (z2 f fa fb) s H Q) : tOp r (upE K mg F0 fa) (upE K mg F0 fb) s H Q := by
  obtain ⟨F, rr, M, R, s0, w, e, h, k⟩ := h
  refine ⟨F, rr, M, _, s0, w, e, h, fun x M1 h1 F1 H1 v s1 w1 r1 => ⟨F1, rr, M1, _, s0.trans s1, w1, e.mono s1, h1, fun y M2 h2 F2 H2 u s3 w2 r2 => ?_⟩⟩
  exact s2 F2 H2 M2 v u x y Q R w2 (r1.mono s3) r2 h2 (k.mono (s1.trans s3))
theorem ze_op {a b : Expr} {op : Operator} {pos : Pos} {fa fb : ZE} {r : R2} {f : D → D → Mh → QZ → Prop} (ho : OpR X (binaryOp op) r) (s2 : Snd2 X.K X.mg r f) (ha : PE X a (UE X F0 fa)) (hb : PE X b (UE X F0 fb)) :
    PE X (.BinOp a op b pos) (UE X F0 (z2 f fa fb)) := pe_imp (pe_op ho ha hb) fun _ _ _ h => up2 s2 h
theorem ze_un {a : Expr} {op : UnaryOp} {pos : Pos} {fa : ZE} {r : V → Hp → VK → Prop} {f : D → Mh → QZ → Prop} (ho : UnR X (unaryOp op) r) (s1 : Snd1 X.K X.mg r f) (ha : PE X a (UE X F0 fa)) : PE X (.UnaryOp op a pos) (UE X F0 (z1 f fa)) := by
  refine pe_imp (pe_un ho ha) fun s H Q h => ?_
  obtain ⟨F, rr, M, R, s0, w, e, h, k⟩ := h
  exact ⟨F, rr, M, _, s0, w, e, h, fun x M1 h1 F1 H1 v s2 w1 r1 => s1 F1 H1 M1 v x Q R w1 r1 h1 (k.mono s2)⟩
theorem ze_cmp {a b : Expr} {op : CmpOp} {pos : Pos} {fa fb : ZE} {r : R2} {f : D → D → Mh → QZ → Prop} (ho : OpR X (compareOp op) r) (s2 : Snd2 X.K X.mg r f) (ha : PE X a (UE X F0 fa)) (hb : PE X b (UE X F0 fb)) (hm : behindInMarks op b = false) :
    PE X (.Compare a [op] [b] pos) (UE X F0 (z2 f fa fb)) := pe_imp (pe_cmpR ho ha hb hm) fun _ _ _ h => up2 s2 h
/-- a bool as a test -/
def zB (t : ZE) : ZT := fun r M Q => t r M fun d M1 => onBl d fun b => Q b M1
theorem upB {K : PySem.W.Frag} {mg : Str → Option Value} {f : ZE} {s : St} {H : Hp} {Q : Bool → Hp → Prop} (h : upT K mg F0 (zB f) s H Q) : upE K mg F0 f s H fun x H' => ∃ k, x = .bl k ∧ Q k H' := by
  obtain ⟨F, rr, M, R, s0, w, e, h, k⟩ := h
  refine ⟨F, rr, M, _, s0, w, e, h, fun x M1 h1 F1 H1 v s2 w1 r1 => ?_⟩
  cases x with
  | bl b => cases r1; exact ⟨b, rfl, k b M1 h1 F1 H1 s2 w1⟩
  | _ => exact False.elim h1
theorem zt_cmp {a b : Expr} {op : CmpOp} {pos : Pos} {fa fb : ZE} {r : R2} {f : D → D → Mh → QZ → Prop} (ho : OpR X (compareOp op) r) (s2 : Snd2 X.K X.mg r f) (ha : PE X a (UE X F0 fa)) (hb : PE X b (UE X F0 fb)) (hm : behindInMarks op b = false) :
    PT X (.Compare a [op] [b] pos) (UT X F0 (zB (z2 f fa fb))) := pt_imp (pt_cmpR ho ha hb hm) fun s H Q h => by
  have q := upB h
  exact up2 s2 q
theorem zt_val {a : Expr} {fa : ZE} (ha : PE X a (UE X F0 fa)) (he : ∀ whole, isTrue a X.env whole = (do let v ← whole; standAt a.pos; holding [v] (truthy v)) := by intro _; rfl) : PT X a (UT X F0 (zB fa)) :=
  pt_imp (pt_val ha he) fun s H Q h => upB h
/-! names, constants -/
theorem ze_var (i : Nat) {x : Str} {pos : Pos} (hN : X.N[i]? = some x := by rfl) (hv : Vis X.env.scope x := by first | exact Or.inl rfl | exact Or.inr (Or.inl rfl) | exact Or.inr (Or.inr rfl)) (hd : (x == ("__debug__" : Str)) = false := by decide)
    (hcd : (x == ("__classdict__" : Str)) = false := by decide) : PE X (.Name x pos) (UE X F0 (zVar i)) := by
  refine pe_imp (pe_var hN hv hd hcd) fun s H Q h => ?_
  obtain ⟨F, rr, M, R, s0, w, e, h, k⟩ := h
  unfold zVar at h
  cases q : gt rr i with
  | none => simp [q] at h
  | some d =>
    simp [q] at h
    obtain ⟨v, h1, h2⟩ := e.2 i d q
    exact ⟨v, h1, k d M h F H v (Le.refl F) w h2⟩
theorem up_c {K : PySem.W.Frag} {mg : Str → Option Value} {v : V} {d : D} (hr : ∀ F, Rep K mg F v d) {s : St} {H : Hp} {Q : VK} (h : upE K mg F0 (zC d) s H Q) : Q v H := by
  obtain ⟨F, rr, M, R, s0, w, e, h, k⟩ := h
  exact k d M h F H v (Le.refl F) w (hr F)
theorem ze_int {i : Int} {j : Nat} {pos : Pos} : PE X (.Constant (.int i) j pos) (UE X F0 (zC (.int i))) := pe_imp pe_int fun _ _ _ h => up_c (fun _ => .int i) h
theorem ze_bl {b : Bool} {j : Nat} {pos : Pos} : PE X (.Constant (.bool b) j pos) (UE X F0 (zC (.bl b))) := pe_imp pe_bl fun _ _ _ h => up_c (fun _ => .bl b) h
theorem ze_non {j : Nat} {pos : Pos} : PE X (.Constant .none j pos) (UE X F0 (zC .non)) := pe_imp pe_non fun _ _ _ h => up_c (fun _ => .non) h
theorem ze_str {x : Str} {j : Nat} {pos : Pos} (h1 : PyData.strOk x = true := by decide +kernel) (h2 : x.length ≤ sizeLine := by decide +kernel) : PE X (.Constant (.str x) j pos) (UE X F0 (zC (.str x))) := pe_imp pe_str fun _ _ _ h => up_c (fun _ => .str h1 h2) h
theorem ze_glob {x : Str} {v : V} {u : Value} {d : D} {pos : Pos} (hg : Gl X x) (hm : X.mg x = some u) (r : RelV v u) (hr : ∀ F, Rep X.K X.mg F v d) (hd : (x == ("__debug__" : Str)) = false := by decide) : PE X (.Name x pos) (UE X F0 (zC d)) :=
  pe_imp (pe_glob hg hm r hd) fun _ _ _ h => up_c hr h
/-! and, or, not, if -/
def zAnd (t u : ZT) : ZT := fun r M Q => t r M fun b M1 => bsel b (u r M1 Q) (Q false M1)
def zOr (t u : ZT) : ZT := fun r M Q => t r M fun b M1 => bsel b (Q true M1) (u r M1 Q)
def zNot (t : ZT) : ZT := fun r M Q => t r M fun b M1 => Q (!b) M1
def zAndV (a b : ZE) : ZE := fun r M Q => a r M fun d M1 => onBl d fun c => bsel c (b r M1 Q) (Q (.bl false) M1)
def zOrV (a b : ZE) : ZE := fun r M Q => a r M fun d M1 => onBl d fun c => bsel c (Q (.bl true) M1) (b r M1 Q)
def zNotV (a : ZE) : ZE := fun r M Q => a r M fun d M1 => onBl d fun b => Q (.bl (!b)) M1
def zIfE (t : ZT) (a b : ZE) : ZE := fun r M Q => t r M fun c M1 => bsel c (a r M1 Q) (b r M1 Q)
variable {a b c : Expr} {rest : List Expr} {pos : Pos} {fa fb : ZE} {ta tb : ZT}
theorem zw_and1 (ha : PT X a (UT X F0 ta)) : PW X (.BoolOp .And [a] pos) (UT X F0 ta) := pw_and1 ha
theorem zw_or1 (ha : PT X a (UT X F0 ta)) : PW X (.BoolOp .Or [a] pos) (UT X F0 ta) := pw_or1 ha
theorem zw_and (ha : PT X a (UT X F0 ta)) (hb : PW X (.BoolOp .And (b :: rest) pos) (UT X F0 tb)) : PW X (.BoolOp .And (a :: b :: rest) pos) (UT X F0 (zAnd ta tb)) := pw_imp (pw_and ha hb) fun s H Q h => by
  obtain ⟨F, rr, M, R, s0, w, e, h, k⟩ := h
  refine ⟨F, rr, M, _, s0, w, e, h, fun d M1 h1 F1 H1 s2 w1 => ?_⟩
  cases d with
  | true => exact ⟨F1, rr, M1, R, s0.trans s2, w1, e.mono s2, h1, fun b M2 h2 F2 H2 s3 w2 => k b M2 h2 F2 H2 (s2.trans s3) w2⟩
  | false => exact k false M1 h1 F1 H1 s2 w1
theorem zw_or (ha : PT X a (UT X F0 ta)) (hb : PW X (.BoolOp .Or (b :: rest) pos) (UT X F0 tb)) : PW X (.BoolOp .Or (a :: b :: rest) pos) (UT X F0 (zOr ta tb)) := pw_imp (pw_or ha hb) fun s H Q h => by
  obtain ⟨F, rr, M, R, s0, w, e, h, k⟩ := h
  refine ⟨F, rr, M, _, s0, w, e, h, fun d M1 h1 F1 H1 s2 w1 => ?_⟩
  cases d with
  | false => exact ⟨F1, rr, M1, R, s0.trans s2, w1, e.mono s2, h1, fun b M2 h2 F2 H2 s3 w2 => k b M2 h2 F2 H2 (s2.trans s3) w2⟩
  | true => exact k true M1 h1 F1 H1 s2 w1
theorem zt_w (h : PW X a (UT X F0 ta)) : PT X a (UT X F0 ta) := h.pt
theorem zt_not (ha : PT X a (UT X F0 ta)) : PT X (.UnaryOp .Not a pos) (UT X F0 (zNot ta)) := pt_imp (pt_not ha) fun s H Q h => by
  obtain ⟨F, rr, M, R, s0, w, e, h, k⟩ := h
  exact ⟨F, rr, M, _, s0, w, e, h, fun d M1 h1 F1 H1 s2 w1 => k _ M1 h1 F1 H1 s2 w1⟩
theorem ze_one {op : BoolOp} (h : PE X a (UE X F0 fa)) : PE X (.BoolOp op [a] pos) (UE X F0 fa) := pe_one h
theorem ze_and (ha : PE X a (UE X F0 fa)) (hb : PE X (.BoolOp .And (b :: rest) pos) (UE X F0 fb)) : PE X (.BoolOp .And (a :: b :: rest) pos) (UE X F0 (zAndV fa fb)) := pe_imp (pe_and ha hb) fun s H Q h => by
  obtain ⟨F, rr, M, R, s0, w, e, h, k⟩ := h
  refine ⟨F, rr, M, _, s0, w, e, h, fun d M1 h1 F1 H1 v s2 w1 r1 => ?_⟩
  cases d with
  | bl c =>
    cases r1
    refine ⟨c, rfl, ?_⟩
    cases c with
    | true => exact ⟨F1, rr, M1, R, s0.trans s2, w1, e.mono s2, h1, k.mono s2⟩
    | false => exact k _ M1 h1 F1 H1 _ s2 w1 (.bl false)
  | _ => exact False.elim h1
theorem ze_or (ha : PE X a (UE X F0 fa)) (hb : PE X (.BoolOp .Or (b :: rest) pos) (UE X F0 fb)) : PE X (.BoolOp .Or (a :: b :: rest) pos) (UE X F0 (zOrV fa fb)) := pe_imp (pe_or ha hb) fun s H Q h => by
  obtain ⟨F, rr, M, R, s0, w, e, h, k⟩ := h
  refine ⟨F, rr, M, _, s0, w, e, h, fun d M1 h1 F1 H1 v s2 w1 r1 => ?_⟩
  cases d with
  | bl c =>
    cases r1
    refine ⟨c, rfl, ?_⟩
    cases c with
    | false => exact ⟨F1, rr, M1, R, s0.trans s2, w1, e.mono s2, h1, k.mono s2⟩
    | true => exact k _ M1 h1 F1 H1 _ s2 w1 (.bl true)
  | _ => exact False.elim h1
theorem ze_not (ha : PE X a (UE X F0 fa)) : PE X (.UnaryOp .Not a pos) (UE X F0 (zNotV fa)) := pe_imp (pe_not ha) fun s H Q h => by
  obtain ⟨F, rr, M, R, s0, w, e, h, k⟩ := h
  refine ⟨F, rr, M, _, s0, w, e, h, fun d M1 h1 F1 H1 v s2 w1 r1 => ?_⟩
  cases d with
  | bl c => cases r1; exact ⟨c, rfl, k _ M1 h1 F1 H1 _ s2 w1 (.bl _)⟩
  | _ => exact False.elim h1
theorem ze_if (hc : PT X c (UT X F0 ta)) (ha : PE X a (UE X F0 fa)) (hb : PE X b (UE X F0 fb)) : PE X (.IfExp c a b pos) (UE X F0 (zIfE ta fa fb)) := pe_imp (pe_ifExp hc ha hb) fun s H Q h => by
  obtain ⟨F, rr, M, R, s0, w, e, h, k⟩ := h
  refine ⟨F, rr, M, _, s0, w, e, h, fun d M1 h1 F1 H1 s2 w1 => ?_⟩
  cases d with
  | true => exact ⟨F1, rr, M1, R, s0.trans s2, w1, e.mono s2, h1, k.mono s2⟩
  | false => exact ⟨F1, rr, M1, R, s0.trans s2, w1, e.mono s2, h1, k.mono s2⟩
/-! a chain a < b < c -/
def zChain (f g : D → D → Mh → QZ → Prop) (a b c : ZE) : ZE := fun r M Q => a r M fun x M1 => b r M1 fun y M2 => f x y M2 fun z M3 => onBl z fun k => bsel k (c r M3 fun u M4 => g y u M4 Q) (Q (.bl false) M3)
theorem upChain {K : PySem.W.Frag} {mg : Str → Option Value} {fc : ZE} {r r' : R2} {f f' : D → D → Mh → QZ → Prop} (s2 : Snd2 K mg r f) (s2' : Snd2 K mg r' f') {s : St} {H : Hp} {Q : VK} (h : upE K mg F0 (zChain f f' fa fb fc) s H Q) :
    tChain r r' (upE K mg F0 fa) (upE K mg F0 fb) (upE K mg F0 fc) s H Q := by
  obtain ⟨F, rr, M, R, s0, w, e, h, k⟩ := h
  refine ⟨F, rr, M, _, s0, w, e, h, fun x M1 h1 F1 H1 v s1 w1 r1 => ⟨F1, rr, M1, _, s0.trans s1, w1, e.mono s1, h1, fun y M2 h2 F2 H2 u s3 w2 r2 => ?_⟩⟩
  refine s2 F2 H2 M2 v u x y _ _ w2 (r1.mono s3) r2 h2 fun z M3 h3 F3 H3 zv s4 w3 r3 => ?_
  cases z with
  | bl b =>
    cases r3
    refine ⟨b, rfl, ?_⟩
    have s5 := (s1.trans s3).trans s4
    cases b with
    | true =>
      exact ⟨F3, rr, M3, _, s0.trans s5, w3, e.mono s5, h3, fun p M4 h4 F4 H4 q s6 w4 r4 => s2' F4 H4 M4 u q y p Q R w4 (r2.mono (s4.trans s6)) r4 h4 (k.mono (s5.trans s6))⟩
    | false => exact k _ M3 h3 F3 H3 _ s5 w3 (.bl false)
  | _ => exact False.elim h3
theorem ze_chain {op op' : CmpOp} {fc : ZE} {r r' : R2} {f f' : D → D → Mh → QZ → Prop} (ho : OpR X (compareOp op) r) (s2 : Snd2 X.K X.mg r f) (ho' : OpR X (compareOp op') r') (s2' : Snd2 X.K X.mg r' f') (ha : PE X a (UE X F0 fa)) (hb : PE X b (UE X F0 fb)) (hc : PE X c (UE X F0 fc))
    (hm : lastMarks [op, op'] [b, c] = false := by with_unfolding_all rfl) :
    PE X (.Compare a [op, op'] [b, c] pos) (UE X F0 (zChain f f' fa fb fc)) := pe_imp (pe_chain ho ho' ha hb hc (hm := hm)) fun _ _ _ h => upChain s2 s2' h
theorem zt_chain {op op' : CmpOp} {fc : ZE} {r r' : R2} {f f' : D → D → Mh → QZ → Prop} (ho : OpR X (compareOp op) r) (s2 : Snd2 X.K X.mg r f) (ho' : OpR X (compareOp op') r') (s2' : Snd2 X.K X.mg r' f') (ha : PE X a (UE X F0 fa)) (hb : PE X b (UE X F0 fb)) (hc : PE X c (UE X F0 fc))
    (hm : lastMarks [op, op'] [b, c] = false := by with_unfolding_all rfl) :
    PT X (.Compare a [op, op'] [b, c] pos) (UT X F0 (zB (zChain f f' fa fb fc))) := pt_imp (pt_chain ho ho' ha hb hc (hm := hm)) fun s H Q h => by
  have q := upB h
  exact upChain s2 s2' q
/-! argument lists, displays -/
def zNil : ZA := fun _ M Q => Q [] M
def zCons (a : ZE) (t : ZA) : ZA := fun r M Q => a r M fun x M1 => t r M1 fun xs M2 => Q (x :: xs) M2
theorem za_nil : PA X [] (UA X F0 zNil) := pa_imp pa_nil fun s H Q h => by
  obtain ⟨F, rr, M, R, s0, w, e, h, k⟩ := h
  exact k [] M h F H [] (Le.refl F) w .nil
theorem za_cons {es : List Expr} {t : ZA} (ha : PE X a (UE X F0 fa)) (ht : PA X es (UA X F0 t)) (hs : starEach (a :: es) X.env = (false, eval a X.env) :: starEach es X.env := by rfl) : PA X (a :: es) (UA X F0 (zCons fa t)) := pa_imp (pa_cons ha ht hs) fun s H Q h => by
  obtain ⟨F, rr, M, R, s0, w, e, h, k⟩ := h
  refine ⟨F, rr, M, _, s0, w, e, h, fun x M1 h1 F1 H1 v s1 w1 r1 => ⟨F1, rr, M1, _, s0.trans s1, w1, e.mono s1, h1, fun xs M2 h2 F2 H2 vs s3 w2 r2 => ?_⟩⟩
  exact k _ M2 h2 F2 H2 _ (s1.trans s3) w2 (.cons (r1.mono s3) r2)
def zTup (t : ZA) : ZE := fun r M Q => t r M fun ds M1 => ds.length ≤ sizeLine ∧ Q (.tup ds) M1
def zLst (b : Bool) (t : ZA) : ZE := fun r M Q => t r M fun ds M1 => ds.length ≤ sizeLine ∧ zNew b ds M1 Q
theorem ze_tup {es : List Expr} {t : ZA} {x1 : Nat} (h : PA X es (UA X F0 t)) : PE X (.Tuple es x1 pos) (UE X F0 (zTup t)) := pe_imp (pe_tup h) fun s H Q h => by
  obtain ⟨F, rr, M, R, s0, w, e, h, k⟩ := h
  refine ⟨F, rr, M, _, s0, w, e, h, fun ds M1 h1 F1 H1 vs s1 w1 r1 => ?_⟩
  have l : vs.length ≤ sizeLine := by rw [r1.length]; exact h1.1
  exact ⟨l, zTup_out w1 l r1 h1.2 (k.mono s1)⟩
theorem ze_lst (b : Bool) {es : List Expr} {t : ZA} (h : PA X es (UA X F0 t)) : PE X (.List es pos) (UE X F0 (zLst b t)) := pe_imp (pe_lst h) fun s H Q h => by
  obtain ⟨F, rr, M, R, s0, w, e, h, k⟩ := h
  refine ⟨F, rr, M, _, s0, w, e, h, fun ds M1 h1 F1 H1 vs s1 w1 r1 => ?_⟩
  have l : vs.length ≤ sizeLine := by rw [r1.length]; exact h1.1
  exact ⟨l, zNew_out w1 l r1 h1.2 (k.mono s1)⟩
end
end Zl

/-! Zl3: operators, subscripts, statements -/
namespace Zl
open PySem L2
section
variable {K : PySem.W.Frag} {mg : Str → Option Value}
theorem strOk_app {s t : Str} (h : PyData.strOk s = true) (h' : PyData.strOk t = true) : PyData.strOk (s ++ t) = true := by
  unfold PyData.strOk at *
  show (s.cps ++ t.cps).all _ = true
  rw [Array.all_append, h, h']; rfl
theorem len_app (s t : Str) : (s ++ t).length = s.length + t.length := by
  show (s.cps ++ t.cps).size = _
  rw [Array.size_append]; rfl
/-! ### soundness of operators -/
def rAddZ : R2 := fun x y H Q => rI0 (fun i j => .int (i + j)) x y H Q ∨ ((∃ i j, x = .str i ∧ y = .str j ∧ i.length + j.length ≤ sizeLine ∧ Q (.str (i ++ j)) H) ∨ rCat x y H Q)
theorem snd_add (b : Bool) : Snd2 K mg rAddZ (dAdd b) := by
  intro F H M x y p q Q R w rx ry h k
  cases p with
  | int i =>
    cases q with
    | int j => cases rx; cases ry; exact .inl ⟨i, j, rfl, rfl, k _ _ h _ _ _ (Le.refl F) w (.int _)⟩
    | _ => exact False.elim h
  | str i =>
    cases q with
    | str j =>
      cases rx with
      | str a1 a2 =>
        cases ry with
        | str b1 b2 =>
          obtain ⟨h1, h2⟩ := h
          exact .inr (.inl ⟨i, j, rfl, rfl, h1, k _ _ h2 _ _ _ (Le.refl F) w (.str (strOk_app a1 b1) (by rw [len_app]; exact h1))⟩)
    | _ => exact False.elim h
  | lst xs =>
    have h' : zL M q fun ys => xs.length + ys.length ≤ sizeLine ∧ zNew b (xs ++ ys) M R := h
    obtain ⟨a, vs, ds, rfl, e, l, rl, e2⟩ := zL_out (d := .lst xs) (k := fun ds => ds = xs) w rx rfl
    subst e2
    obtain ⟨a', vs', ds', rfl, e', l', rl', h1, h2⟩ := zL_out w ry h'
    refine .inr (.inr ⟨a, a', vs, vs', rfl, rfl, e, e', by rw [rl.length, rl'.length]; exact h1, zNew_out w (by rw [List.length_append, rl.length, rl'.length]; exact h1) (rl.append rl') h2 k⟩)
  | ref pa =>
    have h' : zL M (.ref pa) fun xs => zL M q fun ys => xs.length + ys.length ≤ sizeLine ∧ zNew b (xs ++ ys) M R := h
    obtain ⟨a, vs, ds, rfl, e, l, rl, h'⟩ := zL_out w rx h'
    obtain ⟨a', vs', ds', rfl, e', l', rl', h1, h2⟩ := zL_out w ry h'
    refine .inr (.inr ⟨a, a', vs, vs', rfl, rfl, e, e', by rw [rl.length, rl'.length]; exact h1, zNew_out w (by rw [List.length_append, rl.length, rl'.length]; exact h1) (rl.append rl') h2 k⟩)
  | _ => exact False.elim h
theorem sndI {C : Int → Int → Prop} {g : Int → Int → Int} {f : D → D → Mh → QZ → Prop} (hf : ∀ x y M Q, f x y M Q → ∃ i j, x = .int i ∧ y = .int j ∧ C i j ∧ Q (.int (g i j)) M) : Snd2 K mg (rI C fun i j => .int (g i j)) f := by
  intro F H M x y p q Q R w rx ry h k
  obtain ⟨i, j, rfl, rfl, c, h2⟩ := hf _ _ _ _ h
  cases rx; cases ry
  exact ⟨i, j, rfl, rfl, c, k _ _ h2 _ _ _ (Le.refl F) w (.int _)⟩
theorem sndI0 {g : Int → Int → Int} {f : D → D → Mh → QZ → Prop} (hf : ∀ x y M Q, f x y M Q → ∃ i j, x = .int i ∧ y = .int j ∧ Q (.int (g i j)) M) : Snd2 K mg (rI0 fun i j => .int (g i j)) f := by
  intro F H M x y p q Q R w rx ry h k
  obtain ⟨i, j, rfl, rfl, h2⟩ := hf _ _ _ _ h
  cases rx; cases ry
  exact ⟨i, j, rfl, rfl, k _ _ h2 _ _ _ (Le.refl F) w (.int _)⟩
theorem sndB0 {g : Int → Int → Bool} : Snd2 K mg (rI0 fun i j => .bl (g i j)) (dCmp g) := by
  intro F H M x y p q Q R w rx ry h k
  cases p with
  | int i =>
    cases q with
    | int j => cases rx; cases ry; exact ⟨i, j, rfl, rfl, k _ _ h _ _ _ (Le.refl F) w (.bl _)⟩
    | _ => exact False.elim h
  | _ => exact False.elim h
theorem snd_sub : Snd2 K mg (rI0 fun i j => .int (i - j)) dSub := sndI0 fun x y M Q h => by
  unfold dSub at h; split at h
  · exact ⟨_, _, rfl, rfl, h⟩
  · exact h.elim
theorem snd_div : Snd2 K mg (rI CDiv fun i j => .int (i / j)) dDiv := sndI fun x y M Q h => by
  unfold dDiv at h; split at h
  · exact ⟨_, _, rfl, rfl, h.1, h.2⟩
  · exact h.elim
theorem snd_mod : Snd2 K mg (rI (fun _ j => 0 < j) fun i j => .int (i % j)) dMod := sndI fun x y M Q h => by
  unfold dMod at h; split at h
  · exact ⟨_, _, rfl, rfl, h.1, h.2⟩
  · exact h.elim
theorem snd_pow : Snd2 K mg (rI CPow fun i j => .int (i ^ j.toNat)) dPow := sndI fun x y M Q h => by
  unfold dPow at h; split at h
  · exact ⟨_, _, rfl, rfl, h.1, h.2⟩
  · exact h.elim
theorem snd_shr : Snd2 K mg (rI (fun _ j => 0 ≤ j) fun i j => .int (i / 2 ^ j.toNat)) dShr := sndI fun x y M Q h => by
  unfold dShr at h; split at h
  · exact ⟨_, _, rfl, rfl, h.1, h.2⟩
  · exact h.elim
theorem snd_and : Snd2 K mg (rI0 fun i j => .int (Builtin.bitAnd i j)) dAnd := sndI0 fun x y M Q h => by
  unfold dAnd at h; split at h
  · exact ⟨_, _, rfl, rfl, h⟩
  · exact h.elim
theorem snd_xor : Snd2 K mg (rI0 fun i j => .int (Builtin.bitXor i j)) dXor := sndI0 fun x y M Q h => by
  unfold dXor at h; split at h
  · exact ⟨_, _, rfl, rfl, h⟩
  · exact h.elim
theorem snd_neg : Snd1 K mg (rU fun i => .int (-i)) dNeg := by
  intro F H M x p Q R w rx h k
  cases p with
  | int i => cases rx; exact ⟨i, rfl, k _ _ h _ _ _ (Le.refl F) w (.int _)⟩
  | _ => exact False.elim h
def rMulZ : R2 := fun x y H Q => rI CMul (fun i j => .int (i * j)) x y H Q ∨ rRep x y H Q
theorem snd_mul (b : Bool) : Snd2 K mg rMulZ (dMul b) := by
  intro F H M x y p q Q R w rx ry h k
  cases p with
  | int i =>
    cases q with
    | int j => cases rx; cases ry; exact .inl ⟨i, j, rfl, rfl, h.1, k _ _ h.2 _ _ _ (Le.refl F) w (.int _)⟩
    | _ => exact False.elim h
  | lst xs =>
    cases q with
    | int j =>
      cases ry
      obtain ⟨a, vs, ds, rfl, e, l, rl, e2⟩ := zL_out (d := .lst xs) (k := fun ds => ds = xs) w rx rfl
      subst e2
      obtain ⟨h1, h2, h3, h4⟩ := (show -(2 ^ 63) ≤ j ∧ j < 2 ^ 63 ∧ ds.length * j.toNat ≤ sizeLine ∧ zNew b (List.replicate j.toNat ds).flatten M R from h)
      have h3' : vs.length * j.toNat ≤ sizeLine := by rw [rl.length]; exact h3
      refine .inr ⟨a, j, vs, rfl, rfl, e, h1, h2, h3', zNew_out w ?_ (rl.flat _) h4 k⟩
      rw [List.length_flatten, List.map_replicate, List.sum_replicate_nat, Nat.mul_comm]; exact h3'
    | _ => exact False.elim h
  | ref pa =>
    cases q with
    | int j =>
      cases ry
      have h' : zL M (.ref pa) fun xs => -(2 ^ 63) ≤ j ∧ j < 2 ^ 63 ∧ xs.length * j.toNat ≤ sizeLine ∧ zNew b (List.replicate j.toNat xs).flatten M R := h
      obtain ⟨a, vs, ds, rfl, e, l, rl, h1, h2, h3, h4⟩ := zL_out w rx h'
      have h3' : vs.length * j.toNat ≤ sizeLine := by rw [rl.length]; exact h3
      refine .inr ⟨a, j, vs, rfl, rfl, e, h1, h2, h3', zNew_out w ?_ (rl.flat _) h4 k⟩
      rw [List.length_flatten, List.map_replicate, List.sum_replicate_nat, Nat.mul_comm]; exact h3'
    | _ => exact False.elim h
  | _ => exact False.elim h
/-! equality -/
def rEqZ (K : PySem.W.Frag) : R2 := fun x y H Q => ∃ d e, Dp K H x d ∧ Dp K H y e ∧ d.canLay0 = true ∧ e.canLay0 = true ∧ (d.depth ≤ 64 ∨ e.depth ≤ 64) ∧ Q (.bl (PyData.eqv d e)) H
def rNeZ (K : PySem.W.Frag) : R2 := fun x y H Q => ∃ d e, Dp K H x d ∧ Dp K H y e ∧ d.canLay0 = true ∧ e.canLay0 = true ∧ (d.depth ≤ 64 ∨ e.depth ≤ 64) ∧ Q (.bl (!PyData.eqv d e)) H
theorem op_eqZ {X : Cx} (hu : X.A.units + 64 < cLine) : OpR X (compareOp .Eq) (rEqZ X.K) := by
  intro pins s r H x y v u Q I rx ry h
  obtain ⟨d, e, hd, he, sd, se, dp, q⟩ := h
  obtain ⟨_, r1⟩ := Dp.reads I d x v hd rx
  obtain ⟨_, r2⟩ := Dp.reads I e y u he ry
  exact SeqAt.compareEq_reads r1 r2 sd se (by omega) ⟨.bl _, H, I, rfl, q⟩
theorem op_neZ {X : Cx} (hu : X.A.units + 64 < cLine) : OpR X (compareOp .NotEq) (rNeZ X.K) := by
  intro pins s r H x y v u Q I rx ry h
  obtain ⟨d, e, hd, he, sd, se, dp, q⟩ := h
  obtain ⟨_, r1⟩ := Dp.reads I d x v hd rx
  obtain ⟨_, r2⟩ := Dp.reads I e y u he ry
  exact SeqAt.compareNe_reads r1 r2 sd se (by omega) ⟨.bl _, H, I, rfl, q⟩
theorem snd_eq : Snd2 K mg (rEqZ K) dEq := by
  intro F H M x y p q Q R w rx ry h k
  obtain ⟨d, h, hd, ld⟩ := zP_out w rx h
  obtain ⟨e, h, he, le⟩ := zP_out w ry h
  obtain ⟨h1, h2, h3, h4⟩ := h
  exact ⟨toP d, toP e, hd h1, he h2, ld, le, h3, k _ _ h4 _ _ _ (Le.refl F) w (.bl _)⟩
theorem snd_ne : Snd2 K mg (rNeZ K) dNe := by
  intro F H M x y p q Q R w rx ry h k
  obtain ⟨d, h, hd, ld⟩ := zP_out w rx h
  obtain ⟨e, h, he, le⟩ := zP_out w ry h
  obtain ⟨h1, h2, h3, h4⟩ := h
  exact ⟨toP d, toP e, hd h1, he h2, ld, le, h3, k _ _ h4 _ _ _ (Le.refl F) w (.bl _)⟩
/-! in -/
def flatD : D → Bool
  | .non | .bl _ | .int _ | .str _ => true
  | _ => false
theorem flat_of {F : Fz} {v : V} {d : D} (r : Rep K mg F v d) (h : flatD d = true) : flatV v = true := by
  cases r <;> first | rfl | exact absurd h Bool.false_ne_true
theorem eqV_of {F : Fz} {v u : V} {d e : D} (r : Rep K mg F v d) (r' : Rep K mg F u e) (h : flatD d = true) (h' : flatD e = true) : eqV v u = eqD d e := by
  unfold eqD
  cases r <;> first | exact absurd h Bool.false_ne_true | (cases r' <;> first | exact absurd h' Bool.false_ne_true | (simp [eqV, toP, PyData.eqv]))
theorem flats_of {F : Fz} : ∀ {vs : List V} {ds : List D}, RepL K mg F vs ds → ds.all flatD = true → vs.all flatV = true
  | _, _, .nil, _ => rfl
  | _, _, .cons h t, q => by
    rw [List.all_cons, Bool.and_eq_true] at q
    rw [List.all_cons, flat_of h q.1, flats_of t q.2]; rfl
def inD (x : D) (ds : List D) : Bool := ds.any fun y => eqD y x
theorem inV_of {F : Fz} {v : V} {d : D} (r : Rep K mg F v d) (f : flatD d = true) : ∀ {vs : List V} {ds : List D}, RepL K mg F vs ds → ds.all flatD = true → inV v vs = inD d ds
  | _, _, .nil, _ => rfl
  | _, _, .cons h t, q => by
    rw [List.all_cons, Bool.and_eq_true] at q
    have ih := inV_of r f t q.2
    unfold inV inD at *
    rw [List.any_cons, List.any_cons, eqV_of h r q.1 f, ih]
def dIn (neg : Bool) (x y : D) (M : Mh) (Q : QZ) : Prop := match y with
  | .str z => (match x with | .str s => (match s.cps.toList with | [c] => Q (.bl (if neg then !decide (c ∈ z.cps.toList) else decide (c ∈ z.cps.toList))) M | _ => False) | _ => False)
  | y => zLT M y fun ys => flatD x = true ∧ ys.all flatD = true ∧ Q (.bl (if neg then !inD x ys else inD x ys)) M
def rInZ (K : PySem.W.Frag) (neg : Bool) : R2 := fun x y H Q => rIn K neg x y H Q ∨ ∃ (c : Nat) (z : Str), x = .str ⟨#[c]⟩ ∧ y = .str z ∧ Q (.bl (if neg then !decide (c ∈ z.cps.toList) else decide (c ∈ z.cps.toList))) H
theorem snd_in (neg : Bool) : Snd2 K mg (rInZ K neg) (dIn neg) := by
  intro F H M x y p q Q R w rx ry h k
  have gen : (zLT M q fun ys => flatD p = true ∧ ys.all flatD = true ∧ R (.bl (if neg then !inD p ys else inD p ys)) M) → rInZ K neg x y H Q := fun h => by
    obtain ⟨a, vs, ds, rfl, e, l, rl, h1, h2, h3⟩ := zLT_out w ry h
    refine .inl ⟨a, vs, rfl, e, flat_of rx h1, flats_of rl h2, ?_⟩
    rw [inV_of rx h1 rl h2]
    exact k _ _ h3 _ _ _ (Le.refl F) w (.bl _)
  cases q with
  | str z =>
    cases ry
    cases p with
    | str s =>
      cases rx
      unfold dIn at h
      dsimp only at h
      split at h
      · rename_i c e
        refine .inr ⟨c, z, ?_, rfl, k _ _ h _ _ _ (Le.refl F) w (.bl _)⟩
        obtain ⟨cs⟩ := s
        have e2 : cs = #[c] := by
          apply Array.ext'
          simpa using e
        rw [e2]
      · exact h.elim
    | _ => exact False.elim h
  | _ => exact gen h
theorem op_inZ {X : Cx} : OpR X (compareOp .In) (rInZ X.K false) := OpR.or op_in_seq op_in_sign
theorem op_notInZ {X : Cx} : OpR X (compareOp .NotIn) (rInZ X.K true) := OpR.or op_notIn_seq op_notIn_sign
/-! is -/
def isN : D → Bool
  | .non => true
  | _ => false
theorem isN_of {F : Fz} {v : V} {d : D} (r : Rep K mg F v d) : decide (v = .non) = isN d := by
  cases r <;> first | rfl | (simp [isN])
def dIs (x y : D) (M : Mh) (Q : QZ) : Prop := match y with
  | .non => Q (.bl (isN x)) M
  | .bl b => (match x with | .bl a => Q (.bl (decide (a = b))) M | _ => False)
  | _ => False
def dIsNot (x y : D) (M : Mh) (Q : QZ) : Prop := match y with
  | .non => Q (.bl (!isN x)) M
  | .bl b => (match x with | .bl a => Q (.bl (!decide (a = b))) M | _ => False)
  | _ => False
def rIsZ : R2 := fun x y H Q => (y = .non ∧ Q (.bl (decide (x = .non))) H) ∨ rIsB x y H Q
def rIsNotZ : R2 := fun x y H Q => (y = .non ∧ Q (.bl (!decide (x = .non))) H) ∨ rNotB x y H Q
theorem snd_is : Snd2 K mg rIsZ dIs := by
  intro F H M x y p q Q R w rx ry h k
  cases q with
  | non => cases ry; refine .inl ⟨rfl, ?_⟩; rw [isN_of rx]; exact k _ _ h _ _ _ (Le.refl F) w (.bl _)
  | bl b =>
    cases ry
    cases p with
    | bl a => cases rx; exact .inr ⟨a, b, rfl, rfl, k _ _ h _ _ _ (Le.refl F) w (.bl _)⟩
    | _ => exact False.elim h
  | _ => exact False.elim h
theorem snd_isNot : Snd2 K mg rIsNotZ dIsNot := by
  intro F H M x y p q Q R w rx ry h k
  cases q with
  | non => cases ry; refine .inl ⟨rfl, ?_⟩; rw [isN_of rx]; exact k _ _ h _ _ _ (Le.refl F) w (.bl _)
  | bl b =>
    cases ry
    cases p with
    | bl a => cases rx; exact .inr ⟨a, b, rfl, rfl, k _ _ h _ _ _ (Le.refl F) w (.bl _)⟩
    | _ => exact False.elim h
  | _ => exact False.elim h
/-! subscripts -/
def dIx (x i : D) (M : Mh) (Q : QZ) : Prop := match i with
  | .int i => (match x with
    | .str s => (match atI s.cps.toList i with | some c => Q (.str ⟨#[c]⟩) M | none => False)
    | x => zLT M x fun ds => match atI ds i with | some d => Q d M | none => False)
  | _ => False
theorem atI_rep {F : Fz} {vs : List V} {ds : List D} {i : Int} {d : D} (r : RepL K mg F vs ds) (h : atI ds i = some d) : ∃ v, atI vs i = some v ∧ Rep K mg F v d := by
  unfold atI at *
  rw [r.length]
  cases e : ixN ds.length i with
  | none => rw [e] at h; cases h
  | some j =>
    rw [e] at h
    exact r.get h
theorem atI_ok {s : Str} {i : Int} {c : Nat} (h : PyData.strOk s = true) (e : atI s.cps.toList i = some c) : PyData.strOk ⟨#[c]⟩ = true := by
  obtain ⟨j, _, e2, _⟩ := atI_get e
  have hm : c ∈ s.cps.toList := List.mem_of_getElem? e2
  unfold PyData.strOk at *
  rw [← Array.all_toList] at h ⊢
  have := List.all_eq_true.mp h c hm
  simpa using this
theorem snd_ix : Snd2 K mg (rIx K) dIx := by
  intro F H M x y p q Q R w rx ry h k
  cases q with
  | int i =>
    cases ry
    have gen : (zLT M p fun ds => match atI ds i with | some d => R d M | none => False) → rIx K x (.int i) H Q := fun h => by
      obtain ⟨a, vs, ds, rfl, e, l, rl, h⟩ := zLT_out w rx h
      cases q : atI ds i with
      | none => rw [q] at h; exact h.elim
      | some d =>
        rw [q] at h
        obtain ⟨v, e2, rv⟩ := atI_rep rl q
        have z := k _ _ h _ _ _ (Le.refl F) w rv
        rcases e with e | e
        · exact .inl ⟨a, vs, i, v, rfl, rfl, e, e2, z⟩
        · exact .inr (.inl ⟨a, vs, i, v, rfl, rfl, e, e2, z⟩)
    cases p with
    | str s =>
      cases rx with
      | str o1 o2 =>
        have h' : (match atI s.cps.toList i with | some c => R (.str ⟨#[c]⟩) M | none => False) := h
        cases e : atI s.cps.toList i with
        | none => rw [e] at h'; exact h'.elim
        | some c =>
          rw [e] at h'
          exact .inr (.inr ⟨s, i, c, rfl, rfl, o2, e, k _ _ h' _ _ _ (Le.refl F) w (.str (atI_ok o1 e) (by show 1 ≤ sizeLine; decide))⟩)
    | _ => exact gen h
  | _ => exact False.elim h
/-! slices -/
def cutD (ds : List D) (lo hi : Option Int) : List D := (ds.drop (HT.sIx ds.length 0 lo)).take (HT.sIx ds.length ds.length hi - HT.sIx ds.length 0 lo)
theorem RepL.cut {F : Fz} {vs : List V} {ds : List D} (lo hi : Option Int) (r : RepL K mg F vs ds) : RepL K mg F (cutV vs lo hi) (cutD ds lo hi) := by
  unfold cutV cutD
  rw [r.length]
  exact (r.drop _).take _
def ZO := Env → Mh → (Option Int → Mh → Prop) → Prop
def zNoPart : ZO := fun _ M Q => Q none M
def zPart (a : ZE) : ZO := fun r M Q => a r M fun d M1 => onInt d fun i => Q (some i) M1
def upO (K : PySem.W.Frag) (mg : Str → Option Value) (F0 : Fz) (f : ZO) : TO := fun s H Q => ∃ (F : Fz) (r : Env) (M : Mh) (R : Option Int → Mh → Prop), Ge F0 F ∧ Wd K mg F H M ∧ RepE K mg F s r ∧ f r M R ∧
  ∀ o M', R o M' → ∀ F' H', Le F F' → Wd K mg F' H' M' → Q o H'
def zSl (b : Bool) (a : ZE) (lo hi : ZO) : ZE := fun r M Q => a r M fun x M1 => lo r M1 fun l M2 => hi r M2 fun h M3 => match x with
  | .str s => Q (.str (cutS s l h)) M3
  | x => zL M3 x fun ds => zNew b (cutD ds l h) M3 Q
end
section
variable {X : Cx} {F0 : Fz} {a b c : Expr} {pos : Pos} {fa fb : ZE}
theorem zo_none : PO X none (upO X.K X.mg F0 zNoPart) := ⟨fun pins s r H Q I h => by
  obtain ⟨F, rr, M, R, s0, w, e, h, k⟩ := h
  exact po_none.run pins s r H Q I (k none M h F H (Le.refl F) w)⟩
theorem zo_some (ha : PE X a (UE X F0 fa)) : PO X (some a) (upO X.K X.mg F0 (zPart fa)) := ⟨fun pins s r H Q I h => by
  obtain ⟨F, rr, M, R, s0, w, e, h, k⟩ := h
  refine (po_some ha).run pins s r H Q I ⟨F, rr, M, _, s0, w, e, h, fun d M1 h1 F1 H1 v s1 w1 r1 => ?_⟩
  cases d with
  | int i => cases r1; exact ⟨i, rfl, k _ M1 h1 F1 H1 s1 w1⟩
  | _ => exact False.elim h1⟩
theorem strOk_cut {s : Str} (lo hi : Option Int) (h : PyData.strOk s = true) : PyData.strOk (cutS s lo hi) = true := by
  unfold PyData.strOk at *
  rw [← Array.all_toList] at h ⊢
  refine List.all_eq_true.mpr fun c hc => List.all_eq_true.mp h c ?_
  have hc' : c ∈ (s.cps.toList.drop (HT.sIx s.length 0 lo)).take (HT.sIx s.length s.length hi - HT.sIx s.length 0 lo) := by simpa [cutS] using hc
  exact List.mem_of_mem_drop (List.mem_of_mem_take hc')
theorem len_cut (s : Str) (lo hi : Option Int) : (cutS s lo hi).length ≤ s.length := by
  show (((s.cps.toList.drop _).take _).toArray).size ≤ s.cps.size
  rw [List.size_toArray, List.length_take, List.length_drop, Array.length_toList]
  omega
theorem ze_sl (b : Bool) {lo hi : Option Expr} {fl fh : ZO} {p2 : Pos} (ha : PE X a (UE X F0 fa)) (hl : PO X lo (upO X.K X.mg F0 fl)) (hh : PO X hi (upO X.K X.mg F0 fh)) : PE X (.Subscript a (.Slice lo hi none p2) pos) (UE X F0 (zSl b fa fl fh)) := by
  refine pe_imp (pe_slice (SlR.or sl_list sl_str) ha hl hh) fun s H Q h => ?_
  obtain ⟨F, rr, M, R, s0, w, e, h, k⟩ := h
  refine ⟨F, rr, M, _, s0, w, e, h, fun x M1 h1 F1 H1 v s1 w1 r1 => ⟨F1, rr, M1, _, s0.trans s1, w1, e.mono s1, h1, fun l M2 h2 F2 H2 s2 w2 => ⟨F2, rr, M2, _, (s0.trans s1).trans s2, w2, (e.mono s1).mono s2, h2, fun u M3 h3 F3 H3 s3 w3 => ?_⟩⟩⟩
  have r3 := (r1.mono s2).mono s3
  have k3 := k.mono ((s1.trans s2).trans s3)
  have gen : (zL M3 x fun ds => zNew b (cutD ds l u) M3 R) → rSlL X.K v l u H3 Q := fun h => by
    obtain ⟨p, vs, ds, rfl, e, ll, rl, h⟩ := zL_out w3 r3 h
    exact ⟨p, vs, rfl, SqL.of e, zNew_out w3 (Nat.le_trans (cutV_length _ _ _) ll) (rl.cut l u) h k3⟩
  cases x with
  | str z =>
    cases r3 with
    | str o1 o2 => exact .inr ⟨z, rfl, o2, k3 _ _ h3 _ _ _ (Le.refl F3) w3 (.str (strOk_cut _ _ o1) (Nat.le_trans (len_cut _ _ _) o2))⟩
  | _ => exact .inl (gen h3)
/-! operators as rules -/
theorem ze_add (n : Bool) (ha : PE X a (UE X F0 fa)) (hb : PE X b (UE X F0 fb)) : PE X (.BinOp a .Add b pos) (UE X F0 (z2 (dAdd n) fa fb)) := ze_op (OpR.or op_add (OpR.or op_add_str op_cat)) (snd_add n) ha hb
theorem ze_sub (ha : PE X a (UE X F0 fa)) (hb : PE X b (UE X F0 fb)) : PE X (.BinOp a .Sub b pos) (UE X F0 (z2 dSub fa fb)) := ze_op op_sub snd_sub ha hb
theorem ze_mul (n : Bool) (ha : PE X a (UE X F0 fa)) (hb : PE X b (UE X F0 fb)) : PE X (.BinOp a .Mult b pos) (UE X F0 (z2 (dMul n) fa fb)) := ze_op (OpR.or op_mul op_rep) (snd_mul n) ha hb
theorem ze_div (ha : PE X a (UE X F0 fa)) (hb : PE X b (UE X F0 fb)) : PE X (.BinOp a .FloorDiv b pos) (UE X F0 (z2 dDiv fa fb)) := ze_op op_fdiv snd_div ha hb
theorem ze_mod (ha : PE X a (UE X F0 fa)) (hb : PE X b (UE X F0 fb)) : PE X (.BinOp a .Mod b pos) (UE X F0 (z2 dMod fa fb)) := ze_op op_mod snd_mod ha hb
theorem ze_pow (ha : PE X a (UE X F0 fa)) (hb : PE X b (UE X F0 fb)) : PE X (.BinOp a .Pow b pos) (UE X F0 (z2 dPow fa fb)) := ze_op op_pow snd_pow ha hb
theorem ze_shr (ha : PE X a (UE X F0 fa)) (hb : PE X b (UE X F0 fb)) : PE X (.BinOp a .RShift b pos) (UE X F0 (z2 dShr fa fb)) := ze_op op_shr snd_shr ha hb
theorem ze_band (ha : PE X a (UE X F0 fa)) (hb : PE X b (UE X F0 fb)) : PE X (.BinOp a .BitAnd b pos) (UE X F0 (z2 dAnd fa fb)) := ze_op op_and snd_and ha hb
theorem ze_bxor (ha : PE X a (UE X F0 fa)) (hb : PE X b (UE X F0 fb)) : PE X (.BinOp a .BitXor b pos) (UE X F0 (z2 dXor fa fb)) := ze_op op_xor snd_xor ha hb
theorem ze_neg (ha : PE X a (UE X F0 fa)) : PE X (.UnaryOp .USub a pos) (UE X F0 (z1 dNeg fa)) := ze_un un_neg snd_neg ha
theorem ze_ix (ha : PE X a (UE X F0 fa)) (hb : PE X b (UE X F0 fb)) (hs : PlainIx b) : PE X (.Subscript a b pos) (UE X F0 (z2 dIx fa fb)) := pe_imp (pe_ix ix_seq ha hb hs) fun _ _ _ h => up2 snd_ix h
/-! ### statements -/
def zNext : ZS := fun E r M => E.nx r M
def zSeq (t u : ZS) : ZS := fun E r M => t { E with nx := u E } r M
def zBreak : ZS := fun E r M => E.bk r M
def zCont : ZS := fun E r M => E.ct r M
def zDrop (a : ZE) : ZS := fun E r M => a r M fun _ M1 => E.nx r M1
def zRet (a : ZE) : ZS := fun E r M => a r M E.rt
def zRetN : ZS := fun E _ M => E.rt .non M
def zIf (c : ZT) (t u : ZS) : ZS := fun E r M => c r M fun b M1 => bsel b (t E r M1) (u E r M1)
def zAsg (a : ZE) (g : ZG) : ZS := fun E r M => a r M fun d M1 => g d r M1 E.nx
def zgName (i : Nat) : ZG := fun d r M Q => Q (st r i (some d)) M
variable {st1 : Stmt} {rest : List Stmt} {t u : ZS}
theorem zss_nil : PSs X [] (US X F0 zNext) := pss_imp pss_nil fun E s H h => by
  obtain ⟨F, rr, M, Z, s0, w, e, h, k⟩ := h
  exact k.nx rr M h F s H (Le.refl F) w e
theorem zss_cons (h1 : PS X st1 (US X F0 t)) (h2 : PSs X rest (US X F0 u)) : PSs X (st1 :: rest) (US X F0 (zSeq t u)) := pss_imp (pss_cons h1 h2) fun E s H h => by
  obtain ⟨F, rr, M, Z, s0, w, e, h, k⟩ := h
  refine ⟨F, rr, M, { Z with nx := u Z }, s0, w, e, h, ⟨fun r' M' h' F' s' H' s1 w1 e1 => ?_, k.rt, k.bk, k.ct⟩⟩
  exact ⟨F', r', M', Z, s0.trans s1, w1, e1, h', k.mono s1⟩
theorem zss_one (h1 : PS X st1 (US X F0 t)) : PSs X [st1] (US X F0 t) := pss_one h1
theorem zs_pass : PS X (.Pass pos) (US X F0 zNext) := ps_imp ps_pass fun E s H h => by
  obtain ⟨F, rr, M, Z, s0, w, e, h, k⟩ := h
  exact k.nx rr M h F s H (Le.refl F) w e
theorem zs_break : PS X (.Break pos) (US X F0 zBreak) := ps_imp ps_break fun E s H h => by
  obtain ⟨F, rr, M, Z, s0, w, e, h, k⟩ := h
  exact k.bk rr M h F s H (Le.refl F) w e
theorem zs_continue : PS X (.Continue pos) (US X F0 zCont) := ps_imp ps_continue fun E s H h => by
  obtain ⟨F, rr, M, Z, s0, w, e, h, k⟩ := h
  exact k.ct rr M h F s H (Le.refl F) w e
theorem zs_expr (ha : PE X a (UE X F0 fa)) (hs : swapsWith a none pos.line X.env = pure false := by rfl) : PS X (.Expr a pos) (US X F0 (zDrop fa)) := ps_imp (ps_expr ha hs) fun E s H h => by
  obtain ⟨F, rr, M, Z, s0, w, e, h, k⟩ := h
  exact ⟨F, rr, M, _, s0, w, e, h, fun d M1 h1 F1 H1 v s1 w1 r1 => k.nx rr M1 h1 F1 s H1 s1 w1 (e.mono s1)⟩
theorem zs_ret (ha : PE X a (UE X F0 fa)) : PS X (.Return (some a) pos) (US X F0 (zRet fa)) := ps_imp (ps_ret ha) fun E s H h => by
  obtain ⟨F, rr, M, Z, s0, w, e, h, k⟩ := h
  exact ⟨F, rr, M, _, s0, w, e, h, k.rt⟩
theorem zs_retN : PS X (.Return none pos) (US X F0 zRetN) := ps_imp ps_retN fun E s H h => by
  obtain ⟨F, rr, M, Z, s0, w, e, h, k⟩ := h
  exact k.rt _ M h F H _ (Le.refl F) w .non
theorem zs_if {tc : ZT} {sa sb : List Stmt} (hc : PT X c (UT X F0 tc)) (ha : PSs X sa (US X F0 t)) (hb : PSs X sb (US X F0 u)) : PS X (.If c sa sb pos) (US X F0 (zIf tc t u)) := ps_imp (ps_if hc ha hb) fun E s H h => by
  obtain ⟨F, rr, M, Z, s0, w, e, h, k⟩ := h
  refine ⟨F, rr, M, _, s0, w, e, h, fun b M1 h1 F1 H1 s1 w1 => ?_⟩
  cases b with
  | true => exact ⟨F1, rr, M1, Z, s0.trans s1, w1, e.mono s1, h1, k.mono s1⟩
  | false => exact ⟨F1, rr, M1, Z, s0.trans s1, w1, e.mono s1, h1, k.mono s1⟩
theorem zs_set {i : Nat} {x : Str} {pos' : Pos} (hN : X.N.Nodup) (ha : PE X a (UE X F0 fa)) (hi : X.N[i]? = some x := by rfl) (hx : Loc X.env.scope x := by first | exact Or.inl rfl | exact Or.inr rfl)
    (hs : swapsWith a (some (.Name x pos')) pos.line X.env = pure false := by rfl) (hf : X.fn x = true ∨ X.env.scope.names.lookup x = some .local := by first | exact .inl rfl | exact .inr rfl | assumption) :
    PS X (.Assign [.Name x pos'] a pos) (US X F0 (zAsg fa (zgName i))) := ps_imp (ps_set (i := i) hN hi hx ha hs hf) fun E s H h => by
  obtain ⟨F, rr, M, Z, s0, w, e, h, k⟩ := h
  exact ⟨F, rr, M, _, s0, w, e, h, fun d M1 h1 F1 H1 v s1 w1 r1 => k.nx _ M1 h1 F1 _ H1 s1 w1 ((e.mono s1).set i r1)⟩
/-! targets -/
abbrev ZGs := List D → Env → Mh → (Env → Mh → Prop) → Prop
def upGs (K : PySem.W.Frag) (mg : Str → Option Value) (F0 : Fz) (g : ZGs) : TGs := fun vs s H Q => ∃ (F : Fz) (r : Env) (M : Mh) (ds : List D) (R : Env → Mh → Prop), Ge F0 F ∧ Wd K mg F H M ∧ RepE K mg F s r ∧ RepL K mg F vs ds ∧ g ds r M R ∧ Kn K mg F R Q
def zgNil : ZGs := fun ds r M Q => match ds with | [] => Q r M | _ => False
def zgCons (g : ZG) (gs : ZGs) : ZGs := fun ds r M Q => match ds with | d :: l => g d r M fun r' M' => gs l r' M' Q | [] => False
def zgTup (n : Nat) (gs : ZGs) : ZG := fun d r M Q => match d with | .tup ds => ds.length = n ∧ gs ds r M Q | _ => False
/-- x[y] = d -/
def dSet (x y d : D) (M : Mh) (k : Mh → Prop) : Prop := match x, y with
  | .ref p, .int n => (match M p with | some (.lst ds) => (match ixN ds.length n with | some j => k (mup M p (.lst (ds.set j d))) | none => False) | _ => False)
  | _, _ => False
def zgSub (o i : ZE) : ZG := fun d r M Q => o r M fun x M1 => i r M1 fun y M2 => dSet x y d M2 fun M3 => Q r M3
theorem zg_name {i : Nat} {x : Str} (hN : X.N.Nodup) (hi : X.N[i]? = some x := by rfl) (hx : Loc X.env.scope x := by first | exact Or.inl rfl | exact Or.inr rfl)
    (hf : X.fn x = true ∨ X.env.scope.names.lookup x = some .local := by first | exact .inl rfl | exact .inr rfl | assumption) : PG X (.Name x pos) (UG X F0 (zgName i)) := pg_imp (pg_name (i := i) hN hi hx hf) fun v s H Q h => by
  obtain ⟨F, rr, M, d, R, s0, w, e, rv, h, k⟩ := h
  exact k _ M h F _ H (Le.refl F) w (e.set i rv)
theorem zgs_nil : PGs X [] (upGs X.K X.mg F0 zgNil) := ⟨fun pins s r H vs us Q I rv h => by
  obtain ⟨F, rr, M, ds, R, s0, w, e, rl, h, k⟩ := h
  refine pgs_nil.run pins s r H vs us Q I rv ?_
  cases ds with
  | nil => cases rl; exact ⟨rfl, k _ M h F _ H (Le.refl F) w e⟩
  | cons _ _ => exact False.elim h⟩
theorem zgs_cons {es : List Expr} {g : ZG} {gs : ZGs} (h1 : PG X a (UG X F0 g)) (h2 : PGs X es (upGs X.K X.mg F0 gs)) (hs : (assignEach (a :: es) X.env).map (·.2) = assign a X.env :: (assignEach es X.env).map (·.2) := by rfl) : PGs X (a :: es) (upGs X.K X.mg F0 (zgCons g gs)) := ⟨fun pins s r H vs us Q I rv h => by
  obtain ⟨F, rr, M, ds, R, s0, w, e, rl, h, k⟩ := h
  refine (pgs_cons h1 h2 hs).run pins s r H vs us Q I rv ?_
  cases rl with
  | nil => exact False.elim h
  | cons q rl =>
    refine ⟨_, _, rfl, F, rr, M, _, _, s0, w, e, q, h, fun r' M' h' F' s' H' s1 w1 e1 => ⟨F', r', M', _, R, s0.trans s1, w1, e1, rl.mono s1, h', k.mono s1⟩⟩⟩
theorem zg_tup {es : List Expr} {k1 n : Nat} {gs : ZGs} (hc : X.calm = true) (h : PGs X es (upGs X.K X.mg F0 gs)) (hn : (assignEach es X.env).length = n := by rfl) (hst : (assignEach es X.env).findIdx? (·.1) = none := by rfl) : PG X (.Tuple es k1 pos) (UG X F0 (zgTup n gs)) :=
  pg_imp (pg_tup hc h hn hst) fun v s H Q h => by
  obtain ⟨F, rr, M, d, R, s0, w, e, rv, h, k⟩ := h
  cases d with
  | tup ds =>
    cases rv with
    | tup q l rl => exact ⟨_, _, rfl, same_sqT w.same q, by rw [rl.length]; exact h.1, F, rr, M, ds, R, s0, w, e, rl, h.2, k⟩
  | _ => exact False.elim h
theorem zg_sub {o i : Expr} {fo fi : ZE} (ho : PE X o (UE X F0 fo)) (hi : PE X i (UE X F0 fi))
    (ha : ∀ v, assign (.Subscript o i pos) X.env v = (do
      let ov ← holding [v] (eval o X.env)
      let iv ← holding [v, ov] (eval i X.env)
      standAt pos
      holding [v, ov, iv] (setItem ov iv v)
      release [v, ov, iv] []) := by intro _; rfl) : PG X (.Subscript o i pos) (UG X F0 (zgSub fo fi)) := pg_imp (pg_sub ho hi set_list ha) fun v s H Q h => by
  obtain ⟨F, rr, M, d, R, s0, w, e, rv, h, k⟩ := h
  refine ⟨F, rr, M, _, s0, w, e, h, fun x M1 h1 F1 H1 xv s1 w1 r1 => ⟨F1, rr, M1, _, s0.trans s1, w1, e.mono s1, h1, fun y M2 h2 F2 H2 yv s2 w2 r2 => ?_⟩⟩
  cases x with
  | ref p =>
    cases y with
    | int n =>
      cases r1; cases r2
      have h2' : (match M2 p with | some (.lst ds) => (match ixN ds.length n with | some j => R rr (mup M2 p (.lst (ds.set j d))) | none => False) | _ => False) := h2
      cases e1 : M2 p with
      | none => rw [e1] at h2'; exact h2'.elim
      | some m =>
        cases m with
        | lst ds =>
          rw [e1] at h2'
          obtain ⟨_, vs, hv, l, q⟩ := w2.mu p _ e1
          cases e2 : ixN ds.length n with
          | none => simp only [e2] at h2'
          | some j =>
            simp only [e2] at h2'
            refine ⟨p, vs, n, j, rfl, rfl, hv, by rw [q.length]; exact e2, k _ _ h2' F2 _ _ (s1.trans s2) (w2.write e1 (by intro z; cases z) (by intro z; cases z) ⟨vs.set j v, upd_same, by rw [List.length_set]; exact l, q.set (rv.mono (s1.trans s2)) j⟩) (e.mono (s1.trans s2))⟩
        | ins c fs => rw [e1] at h2'; exact h2'.elim
        | town => rw [e1] at h2'; exact h2'.elim
    | _ => exact False.elim h2
  | _ => exact False.elim h2
theorem zs_asg {tg : Expr} {g : ZG} (ha : PE X a (UE X F0 fa)) (hg : PG X tg (UG X F0 g)) (hs : swapsWithSole [tg] a pos.line X.env = pure false := by rfl) (hw : swappedStores [tg] a X.env = pure none := by rfl)
    (h1 : (assignEach [tg] X.env).map (·.2) = [assign tg X.env] := by rfl) : PS X (.Assign [tg] a pos) (US X F0 (zAsg fa g)) := ps_imp (ps_asg ha hg hs hw h1) fun E s H h => by
  obtain ⟨F, rr, M, Z, s0, w, e, h, k⟩ := h
  exact ⟨F, rr, M, _, s0, w, e, h, fun d M1 h1 F1 H1 v s1 w1 r1 => ⟨F1, rr, M1, d, _, s0.trans s1, w1, e.mono s1, r1, h1, k.nx.mono s1⟩⟩
/-- a, b = (x, y), plain locals -/
def on2 (ds : List D) (k : D → D → Prop) : Prop := match ds with | [x, y] => k x y | _ => False
def zPar (i j : Nat) (ta : ZA) : ZS := fun E r M => ta r M fun ds M1 => on2 ds fun x y => E.nx (st (st r i (some x)) j (some y)) M1
theorem zs_par {i j : Nat} {x y : Str} {ta : ZA} {px py pt : Pos} {kt k2 : Nat} {pt2 : Pos} (hc : X.calm = true) (hN : X.N.Nodup) (ha : PA X [a, b] (UA X F0 ta))
    (hw : swappedStores [.Tuple [.Name x px, .Name y py] kt pt] (.Tuple [a, b] k2 pt2) X.env = pure (some [x, y])) (hi : X.N[i]? = some x := by rfl) (hj : X.N[j]? = some y := by rfl) (hij : i ≠ j := by decide)
    (hx : X.env.scope.names.lookup x = some .local := by rfl) (hy : X.env.scope.names.lookup y = some .local := by rfl)
    (hs : swapsWithSole [.Tuple [.Name x px, .Name y py] kt pt] (.Tuple [a, b] k2 pt2) pos.line X.env = pure false := by rfl) :
    PS X (.Assign [.Tuple [.Name x px, .Name y py] kt pt] (.Tuple [a, b] k2 pt2) pos) (US X F0 (zPar i j ta)) := ps_imp (ps_par (i := i) (j := j) hc hN hi hj hij hx hy ha hw hs) fun E s H h => by
  obtain ⟨F, rr, M, Z, s0, w, e, h, k⟩ := h
  refine ⟨F, rr, M, _, s0, w, e, h, fun ds M1 h1 F1 H1 vs s1 w1 r1 => ?_⟩
  cases r1 with
  | nil => exact False.elim h1
  | cons q1 r1 =>
    cases r1 with
    | nil => exact False.elim h1
    | cons q2 r1 =>
      cases r1 with
      | nil => exact ⟨_, _, rfl, k.nx _ M1 h1 F1 _ H1 s1 w1 (((e.mono s1).set i q1).set j q2)⟩
      | cons _ _ => exact False.elim h1
end
end Zl

/-! Zl4: loops, comprehensions -/
namespace Zl
open PySem L2
/-- a walked list that may change must stay as it was -/
abbrev Ck := Option (Addr × List D)
def zck (c : Ck) (M : Mh) (P : Prop) : Prop := match c with
  | none => P
  | some (p, ds) => M p = some (.lst ds) ∧ P
def ckOk (c : Ck) (M : Mh) : Prop := match c with
  | none => True
  | some (p, ds) => M p = some (.lst ds)
theorem zck_out {c : Ck} {M : Mh} {P : Prop} (h : zck c M P) : ckOk c M ∧ P := by
  cases c with
  | none => exact ⟨trivial, h⟩
  | some x => exact h
@[simp] theorem zck_none {M : Mh} {P : Prop} : zck none M P = P := rfl
abbrev ZI := Env → Mh → (List D → Ck → Mh → Prop) → Prop
/-- the iterator J walks ds -/
def ItZ (K : PySem.W.Frag) (mg : Str → Option Value) (F : Fz) (J : It) (ds : List D) (c : Ck) : Prop := ∀ (F1 : Fz) (H1 : Hp) (M1 : Mh), Same F.f F1.f → Wd K mg F1 H1 M1 → ckOk c M1 →
  (∀ (i : Nat) (d : D), ds[i]? = some d → J.go i H1 ∧ ∀ x H2, J.yld i H1 x H2 → ∃ F2, Le F1 F2 ∧ Wd K mg F2 H2 M1 ∧ Rep K mg F2 x d) ∧ J.stop ds.length H1
def upI (K : PySem.W.Frag) (mg : Str → Option Value) (F0 : Fz) (zi : ZI) : TI := fun s H R => ∃ (F : Fz) (r : Env) (M : Mh) (RR : List D → Ck → Mh → Prop), Ge F0 F ∧ Wd K mg F H M ∧ RepE K mg F s r ∧ zi r M RR ∧
  ∀ ds c M', RR ds c M' → ∀ F' H' J, Le F F' → Wd K mg F' H' M' → ItZ K mg F' J ds c → ds.length ≤ sizeLine → R J H'
def onLst (d : D) (M : Mh) (k : List D → Ck → Prop) : Prop := match d with
  | .lst ds => k ds none
  | .ref p => (match M p with | some (.lst ds) => k ds (some (p, ds)) | _ => False)
  | _ => False
def onTup (d : D) (k : List D → Prop) : Prop := match d with | .tup ds => k ds | _ => False
def onStr (d : D) (k : Str → Prop) : Prop := match d with | .str s => k s | _ => False
def onI1 (ds : List D) (k : Int → Prop) : Prop := match ds with | [.int i] => k i | _ => False
def onI2 (ds : List D) (k : Int → Int → Prop) : Prop := match ds with | [.int i, .int j] => k i j | _ => False
def ziList (a : ZE) : ZI := fun r M Q => a r M fun d M1 => onLst d M1 fun ds c => Q ds c M1
def ziTup (a : ZE) : ZI := fun r M Q => a r M fun d M1 => onTup d fun ds => Q ds none M1
def charsD (s : Str) : List D := s.cps.toList.map fun c => .str ⟨#[c]⟩
def ziStr (a : ZE) : ZI := fun r M Q => a r M fun d M1 => onStr d fun s => Q (charsD s) none M1
/-- lo, lo + c, .. -/
def rangeD (lo c : Int) : Nat → List D
  | 0 => []
  | n + 1 => .int lo :: rangeD (lo + c) c n
def ziRange (ta : ZA) : ZI := fun r M Q => ta r M fun ds M1 => onI1 ds fun j => -(2 ^ 62) ≤ j ∧ j ≤ 16777216 ∧ Q (rangeD 0 1 j.toNat) none M1
def ziRange2 (ta : ZA) : ZI := fun r M Q => ta r M fun ds M1 => onI2 ds fun i j => -(2 ^ 62) ≤ i ∧ i < 2 ^ 62 ∧ -(2 ^ 62) ≤ j ∧ j < 2 ^ 62 ∧ j - i ≤ 16777216 ∧ Q (rangeD i 1 (j - i).toNat) none M1
def ziRange3 (ta : ZA) : ZI := fun r M Q => ta r M fun ds M1 => match ds with
  | [.int i, .int j, .int s] => ∃ n, RgC i j s n ∧ n ≤ 16777216 ∧ Q (rangeD i s n) none M1
  | _ => False
def enumD (i : Nat) : List D → List D
  | [] => []
  | d :: r => .tup [.int (i : Nat), d] :: enumD (i + 1) r
def ziEnum (ta : ZA) : ZI := fun r M Q => ta r M fun ds M1 => match ds with
  | [.lst ds] => Q (enumD 0 ds) none M1
  | _ => False
theorem rangeD_get : ∀ (n : Nat) (lo c : Int) (i : Nat) (d : D), (rangeD lo c n)[i]? = some d → i < n ∧ d = .int (lo + (i : Nat) * c)
  | 0, _, _, _, _, h => by simp [rangeD] at h
  | n + 1, lo, c, 0, d, h => by
    simp [rangeD] at h; subst h
    exact ⟨Nat.succ_pos _, by simp⟩
  | n + 1, lo, c, i + 1, d, h => by
    have h' : (rangeD (lo + c) c n)[i]? = some d := by simpa [rangeD] using h
    obtain ⟨h1, h2⟩ := rangeD_get n (lo + c) c i d h'
    refine ⟨Nat.succ_lt_succ h1, ?_⟩
    rw [h2, Int.natCast_add, Int.add_mul]
    congr 1
    simp only [Int.natCast_one, Int.one_mul]
    omega
theorem rangeD_len : ∀ (n : Nat) (lo c : Int), (rangeD lo c n).length = n
  | 0, _, _ => rfl
  | n + 1, lo, c => congrArg (· + 1) (rangeD_len n (lo + c) c)
theorem enumD_get : ∀ (ds : List D) (k i : Nat) (d : D), (enumD k ds)[i]? = some d → ∃ e, ds[i]? = some e ∧ d = .tup [.int ((k + i : Nat) : Int), e]
  | [], _, _, _, h => by simp [enumD] at h
  | e :: r, k, 0, d, h => by
    simp [enumD] at h; subst h
    exact ⟨e, rfl, rfl⟩
  | e :: r, k, i + 1, d, h => by
    have h' : (enumD (k + 1) r)[i]? = some d := by simpa [enumD] using h
    obtain ⟨x, h1, h2⟩ := enumD_get r (k + 1) i d h'
    refine ⟨x, by simpa using h1, ?_⟩
    rw [h2, show k + 1 + i = k + (i + 1) by omega]
theorem enumD_len : ∀ (ds : List D) (k : Nat), (enumD k ds).length = ds.length
  | [], _ => rfl
  | _ :: r, k => congrArg (· + 1) (enumD_len r (k + 1))
section
variable {K : PySem.W.Frag} {mg : Str → Option Value} {F : Fz}
theorem it_at {F1 : Fz} {H1 : Hp} {M1 : Mh} {a : Addr} {vs : List V} {ds : List D} (w : Wd K mg F1 H1 M1) (e : H1 a = some (.lst vs)) (r : RepL K mg F1 vs ds) :
    (∀ (i : Nat) (d : D), ds[i]? = some d → (Itl K a).go i H1 ∧ ∀ x H2, (Itl K a).yld i H1 x H2 → ∃ F2, Le F1 F2 ∧ Wd K mg F2 H2 M1 ∧ Rep K mg F2 x d) ∧ (Itl K a).stop ds.length H1 := by
  refine ⟨fun i d hd => ?_, ⟨vs, SqL.of e, by rw [r.length]; exact Nat.le_refl _⟩⟩
  obtain ⟨v, hv, rv⟩ := r.get hd
  refine ⟨⟨vs, v, SqL.of e, hv⟩, fun x H2 ⟨h1, h2⟩ => ?_⟩
  subst h1
  have := h2 vs (SqL.of e)
  rw [hv] at this; cases this
  exact ⟨F1, Le.refl _, w, rv⟩
theorem itz_list {a : Addr} {vs : List V} {ds : List D} (q : F.f a = some (.lst vs)) (r : RepL K mg F vs ds) : ItZ K mg F (Itl K a) ds none := fun F1 H1 M1 s w ck => it_at w (w.sub _ _ (s _ _ q)) (r.monoF s)
theorem itz_ref {a : Addr} {ds : List D} : ItZ K mg F (Itl K a) ds (some (a, ds)) := fun F1 H1 M1 s w ck => by
  obtain ⟨_, vs, hv, _, rl⟩ := w.mu a _ ck
  exact it_at w hv rl
theorem itz_tup {a : Addr} {vs : List V} {ds : List D} (q : SqT K F.f a vs) (r : RepL K mg F vs ds) : ItZ K mg F (Itt K a) ds none := by
  intro F1 H1 M1 s w ck
  have e : SqT K H1 a vs := same_sqT w.same (same_sqT s q)
  refine ⟨fun i d hd => ?_, ⟨vs, e, by rw [r.length]; exact Nat.le_refl _⟩⟩
  obtain ⟨v, hv, rv⟩ := r.get hd
  refine ⟨⟨vs, v, e, hv⟩, fun x H2 ⟨h1, h2⟩ => ?_⟩
  subst h1
  have := h2 vs e
  rw [hv] at this; cases this
  exact ⟨F1, Le.refl _, w, rv.monoF s⟩
theorem itz_range {lo c : Int} {n : Nat} : ItZ K mg F (Itc lo c n) (rangeD lo c n) none := by
  intro F1 H1 M1 s w ck
  refine ⟨fun i d hd => ?_, by show n ≤ _; rw [rangeD_len]; exact Nat.le_refl _⟩
  obtain ⟨h1, h2⟩ := rangeD_get n lo c i d hd
  refine ⟨h1, fun x H2 ⟨e1, e2⟩ => ?_⟩
  subst e1 e2 h2
  exact ⟨F1, Le.refl _, w, .int _⟩
theorem itz_range1 {lo : Int} {n : Nat} : ItZ K mg F (Itr lo n) (rangeD lo 1 n) none := by
  intro F1 H1 M1 s w ck
  refine ⟨fun i d hd => ?_, by show n ≤ _; rw [rangeD_len]; exact Nat.le_refl _⟩
  obtain ⟨h1, h2⟩ := rangeD_get n lo 1 i d hd
  refine ⟨h1, fun x H2 ⟨e1, e2⟩ => ?_⟩
  subst e1 e2 h2
  rw [Int.mul_one]
  exact ⟨F1, Le.refl _, w, .int _⟩
theorem itz_str {z : Str} (h : PyData.strOk z = true) : ItZ K mg F (Its z) (charsD z) none := by
  intro F1 H1 M1 s w ck
  refine ⟨fun i d hd => ?_, by show z.cps.size ≤ _; unfold charsD; rw [List.length_map, Array.length_toList]; exact Nat.le_refl _⟩
  unfold charsD at hd
  rw [List.getElem?_map] at hd
  cases e : z.cps.toList[i]? with
  | none => rw [e] at hd; cases hd
  | some c =>
    rw [e] at hd
    have hd' := Option.some.inj hd
    have hi : i < z.cps.size := by
      have := (List.getElem?_eq_some_iff.mp e).1
      rwa [Array.length_toList] at this
    refine ⟨hi, fun x H2 ⟨e1, c', e2, e3⟩ => ?_⟩
    have ec : c' = c := by
      rw [← Array.getElem?_toList, e] at e2
      exact (Option.some.inj e2).symm
    subst e1 e3 ec
    rw [← hd']
    refine ⟨F1, Le.refl _, w, .str ?_ (by show 1 ≤ sizeLine; decide)⟩
    unfold PyData.strOk at *
    rw [← Array.all_toList] at h ⊢
    have := List.all_eq_true.mp h c' (List.mem_of_getElem? e)
    simpa using this
theorem itz_enum {a : Addr} {vs : List V} {ds : List D} (e0 : F.f a = some (.lst vs)) (r : RepL K mg F vs ds) : ItZ K mg F (Ite K a) (enumD 0 ds) none := by
  intro F1 H1 M1 s w ck
  have e := w.sub _ _ (s _ _ e0)
  refine ⟨fun i d hd => ?_, ⟨vs, SqL.of e, by rw [enumD_len, r.length]; exact Nat.le_refl _⟩⟩
  obtain ⟨x, h1, h2⟩ := enumD_get ds 0 i d hd
  obtain ⟨v, hv, rv⟩ := r.get h1
  refine ⟨⟨vs, v, SqL.of e, hv⟩, fun y H2 ⟨T, x', e1, e2, e3, e4⟩ => ?_⟩
  have := e4 vs (SqL.of e)
  rw [hv] at this; cases this
  subst e1 e3 h2
  obtain ⟨s1, w1⟩ := w.laidF (o := .tup [.int (i : Nat), v]) e2
  refine ⟨_, s1, w1, .tup (SqT.of upd_same) (by show 2 ≤ sizeLine; decide) ?_⟩
  rw [Nat.zero_add]
  exact .cons (.int _) (.cons ((rv.monoF s).mono s1) .nil)
end
section
variable {X : Cx} {F0 : Fz} {tg a b c : Expr} {fa fb fc : ZE} {pos p : Pos}
theorem pi_imp {iter : Expr} {w w' : TI} (h : PI X tg iter w) (i : ∀ s H R, w' s H R → w s H R) : PI X tg iter w' := ⟨fun pins s r H R I q => h.run pins s r H R I (i _ _ _ q)⟩
theorem zi_list (ha : PE X a (UE X F0 fa)) : PI X tg a (upI X.K X.mg F0 (ziList fa)) := pi_imp (pi_list ha) fun s H R h => by
  obtain ⟨F, rr, M, RR, s0, w, e, h, k⟩ := h
  refine ⟨F, rr, M, _, s0, w, e, h, fun d M1 h1 F1 H1 v s1 w1 r1 => ?_⟩
  cases d with
  | lst ds =>
    cases r1 with
    | lst q l rl => exact ⟨_, rfl, ⟨_, SqL.of (w1.sub _ _ q)⟩, k _ _ M1 h1 F1 H1 _ s1 w1 (itz_list q rl) (by rw [← rl.length]; exact l)⟩
  | ref p =>
    cases r1
    have h1' : (match M1 p with | some (.lst ds) => RR ds (some (p, ds)) M1 | _ => False) := h1
    cases e1 : M1 p with
    | none => rw [e1] at h1'; exact h1'.elim
    | some m =>
      cases m with
      | lst ds =>
        rw [e1] at h1'
        obtain ⟨_, vs, hv, l, rl⟩ := w1.mu p _ e1
        exact ⟨p, rfl, ⟨_, SqL.of hv⟩, k _ _ M1 h1' F1 H1 _ s1 w1 itz_ref (by rw [← rl.length]; exact l)⟩
      | ins c fs => rw [e1] at h1'; exact h1'.elim
      | town => rw [e1] at h1'; exact h1'.elim
  | _ => exact False.elim h1
theorem zi_tup (ha : PE X a (UE X F0 fa)) : PI X tg a (upI X.K X.mg F0 (ziTup fa)) := pi_imp (pi_tup ha) fun s H R h => by
  obtain ⟨F, rr, M, RR, s0, w, e, h, k⟩ := h
  refine ⟨F, rr, M, _, s0, w, e, h, fun d M1 h1 F1 H1 v s1 w1 r1 => ?_⟩
  cases d with
  | tup ds =>
    cases r1 with
    | tup q l rl => exact ⟨_, rfl, ⟨_, same_sqT w1.same q⟩, k _ _ M1 h1 F1 H1 _ s1 w1 (itz_tup q rl) (by rw [← rl.length]; exact l)⟩
  | _ => exact False.elim h1
theorem zi_str (ha : PE X a (UE X F0 fa)) : PI X tg a (upI X.K X.mg F0 (ziStr fa)) := pi_imp (pi_str ha) fun s H R h => by
  obtain ⟨F, rr, M, RR, s0, w, e, h, k⟩ := h
  refine ⟨F, rr, M, _, s0, w, e, h, fun d M1 h1 F1 H1 v s1 w1 r1 => ?_⟩
  cases d with
  | str z =>
    cases r1 with
    | str o1 o2 => exact ⟨_, rfl, k _ _ M1 h1 F1 H1 _ s1 w1 (itz_str o1) (by unfold charsD; rw [List.length_map, Array.length_toList]; exact o2)⟩
  | _ => exact False.elim h1
theorem zi_range1 {ta : ZA} (hm : X.mg "range" = none) (ha : PA X [a] (UA X F0 ta)) (hg : Gl X "range" := by rfl) (hs : starEach [a] X.env = [(false, eval a X.env)] := by rfl) : PI X tg (.Call (.Name "range" p) [a] [] pos) (upI X.K X.mg F0 (ziRange ta)) :=
  pi_imp (pi_range1 hg hm ha hs) fun s H R h => by
  obtain ⟨F, rr, M, RR, s0, w, e, h, k⟩ := h
  refine ⟨F, rr, M, _, s0, w, e, h, fun ds M1 h1 F1 H1 v s1 w1 r1 => ?_⟩
  try unfold onI1 at h1
  try unfold onI2 at h1
  split at h1
  · cases r1 with
    | cons q r1 => cases r1; cases q; exact ⟨_, rfl, h1.1, by have := h1.2.1; omega, k _ _ M1 h1.2.2 F1 H1 _ s1 w1 itz_range1 (by rw [rangeD_len, sizeLine_eq]; have := h1.2.1; omega)⟩
  · exact h1.elim
theorem zi_range2 {ta : ZA} (hm : X.mg "range" = none) (ha : PA X [a, b] (UA X F0 ta)) (hg : Gl X "range" := by rfl) (hs : starEach [a, b] X.env = [(false, eval a X.env), (false, eval b X.env)] := by rfl) (hs2 : starEach [b] X.env = [(false, eval b X.env)] := by rfl) :
    PI X tg (.Call (.Name "range" p) [a, b] [] pos) (upI X.K X.mg F0 (ziRange2 ta)) := pi_imp (pi_range2 hg hm ha hs hs2) fun s H R h => by
  obtain ⟨F, rr, M, RR, s0, w, e, h, k⟩ := h
  refine ⟨F, rr, M, _, s0, w, e, h, fun ds M1 h1 F1 H1 v s1 w1 r1 => ?_⟩
  try unfold onI1 at h1
  try unfold onI2 at h1
  split at h1
  · cases r1 with
    | cons q r1 =>
      cases r1 with
      | cons q2 r1 => cases r1; cases q; cases q2; exact ⟨_, _, rfl, ⟨h1.1, h1.2.1, h1.2.2.1, h1.2.2.2.1⟩, k _ _ M1 h1.2.2.2.2.2 F1 H1 _ s1 w1 itz_range1 (by rw [rangeD_len, sizeLine_eq]; have := h1.2.2.2.2.1; omega)⟩
  · exact h1.elim
theorem zi_range3 {ta : ZA} (hm : X.mg "range" = none) (ha : PA X [a, b, c] (UA X F0 ta)) (hg : Gl X "range" := by rfl) (he : starEach [a, b, c] X.env = (false, eval a X.env) :: starEach [b, c] X.env := by rfl) (hpl : (backTo pos (starEach [b, c] X.env)).any (·.1) = false := by rfl) :
    PI X tg (.Call (.Name "range" p) [a, b, c] [] pos) (upI X.K X.mg F0 (ziRange3 ta)) := pi_imp (pi_range3 hg hm ha he hpl) fun s H R h => by
  obtain ⟨F, rr, M, RR, s0, w, e, h, k⟩ := h
  refine ⟨F, rr, M, _, s0, w, e, h, fun ds M1 h1 F1 H1 v s1 w1 r1 => ?_⟩
  try unfold onI1 at h1
  try unfold onI2 at h1
  split at h1
  · cases r1 with
    | cons q r1 =>
      cases r1 with
      | cons q2 r1 =>
        cases r1 with
        | cons q3 r1 => cases r1; cases q; cases q2; cases q3; obtain ⟨n, h4, h6, h5⟩ := h1; exact ⟨_, _, _, n, rfl, h4, k _ _ M1 h5 F1 H1 _ s1 w1 itz_range (by rw [rangeD_len, sizeLine_eq]; exact h6)⟩
  · exact h1.elim
theorem zi_enum {elts : List Expr} {kk : Nat} {tpos : Pos} {ta : ZA} (hm : X.mg "enumerate" = none) (ha : PA X [a] (UA X F0 ta)) (hg : Gl X "enumerate" := by rfl) (hs : starEach [a] X.env = [(false, eval a X.env)] := by rfl) :
    PI X (.Tuple elts kk tpos) (.Call (.Name "enumerate" p) [a] [] pos) (upI X.K X.mg F0 (ziEnum ta)) := pi_imp (pi_enum hg hm ha hs) fun s H R h => by
  obtain ⟨F, rr, M, RR, s0, w, e, h, k⟩ := h
  refine ⟨F, rr, M, _, s0, w, e, h, fun ds M1 h1 F1 H1 v s1 w1 r1 => ?_⟩
  try unfold onI1 at h1
  try unfold onI2 at h1
  split at h1
  · cases r1 with
    | cons q r1 =>
      cases r1
      cases q with
      | lst q l rl => exact ⟨_, _, rfl, SqL.of (w1.sub _ _ q), k _ _ M1 h1 F1 H1 _ s1 w1 (itz_enum q rl) (by rw [enumD_len, ← rl.length]; exact l)⟩
  · exact h1.elim
/-! ### for -/
def zLoop (c : Ck) (step : D → (Env → Mh → Prop) → Env → Mh → Prop) (nx : Env → Mh → Prop) : List D → Env → Mh → Prop
  | [], r, M => zck c M (nx r M)
  | d :: l, r, M => zck c M (step d (zLoop c step nx l) r M)
def zStep (g : ZG) (tb : ZS) (E : ZEnds) : D → (Env → Mh → Prop) → Env → Mh → Prop := fun d k r M => g d r M fun r' M' => tb { nx := k, rt := E.rt, bk := E.nx, ct := k } r' M'
def zFor (zi : ZI) (g : ZG) (tb : ZS) : ZS := fun E r M => zi r M fun ds c M1 => zLoop c (zStep g tb E) E.nx ds r M1
theorem drop_some {α : Type} {ds : List α} {i : Nat} {d : α} (h : ds[i]? = some d) : ds.drop i = d :: ds.drop (i + 1) := by
  obtain ⟨hi, e⟩ := List.getElem?_eq_some_iff.mp h
  rw [List.drop_eq_getElem_cons hi, e]
theorem zs_for {iter : Expr} {body : List Stmt} {zi : ZI} {g : ZG} {tb : ZS} (hp : PassesOwn (model X.prog X.w) X.A X.env X.xe) (hc : X.calm = true) (hi : PI X tg iter (upI X.K X.mg F0 zi)) (hg : PG X tg (UG X F0 g)) (hb : PSs X body (US X F0 tb))
    (hs : ∀ x, foldedSetIterable iter X.env x = pure x := by intro _; rfl) : PS X (.For tg iter body [] pos) (US X F0 (zFor zi g tb)) := ps_imp (ps_for hp hc hi hg hb hs) fun E s H h => by
  obtain ⟨F, rr, M, Z, s0, w, e, h, k⟩ := h
  refine ⟨F, rr, M, _, s0, w, e, h, fun ds c M1 h1 F1 H1 J s1 w1 itz _ => ?_⟩
  refine ⟨fun i m s H => i + m = ds.length ∧ ∃ F r M, Le F1 F ∧ Wd X.K X.mg F H M ∧ RepE X.K X.mg F s r ∧ zLoop c (zStep g tb Z) Z.nx (ds.drop i) r M,
    ⟨ds.length, by omega, F1, rr, M1, Le.refl _, w1, e.mono s1, h1⟩, ?_⟩
  rintro i m s' H' ⟨hm, F2, r2, M2, s2, w2, e2, hl⟩
  cases hd : ds[i]? with
  | none =>
    have hi : i = ds.length := by
      have := List.getElem?_eq_none_iff.mp hd
      omega
    rw [hi, List.drop_length] at hl
    obtain ⟨ck, hn⟩ := zck_out hl
    refine .inl ⟨?_, k.nx _ _ hn F2 _ _ (s1.trans s2) w2 e2⟩
    rw [hi]
    exact (itz F2 H' M2 s2.f w2 ck).2
  | some d =>
    have hlt := (List.getElem?_eq_some_iff.mp hd).1
    rw [drop_some hd] at hl
    obtain ⟨ck, hn⟩ := zck_out hl
    obtain ⟨go, yl⟩ := (itz F2 H' M2 s2.f w2 ck).1 i d hd
    refine .inr ⟨go, fun s H => ∃ F r M, Le F1 F ∧ Wd X.K X.mg F H M ∧ RepE X.K X.mg F s r ∧ zLoop c (zStep g tb Z) Z.nx (ds.drop (i + 1)) r M, fun s3 H3 h3 => ⟨ds.length - (i + 1), by omega, by omega, h3⟩, fun x H3 hy => ?_⟩
    obtain ⟨F3, s3, w3, rx⟩ := yl x H3 hy
    refine ⟨F3, r2, M2, d, _, (s0.trans s1).trans (s2.trans s3), w3, e2.mono s3, rx, hn, fun r4 M4 h4 F4 s4 H4 s5 w4 e4 => ?_⟩
    have ss := s2.trans (s3.trans s5)
    refine ⟨F4, r4, M4, _, (s0.trans s1).trans ss, w4, e4, h4, ⟨fun r5 M5 h5 F5 s5' H5 s6 w5 e5 => ⟨F5, r5, M5, ss.trans s6, w5, e5, h5⟩, k.rt.mono (s1.trans ss), k.nx.mono (s1.trans ss), fun r5 M5 h5 F5 s5' H5 s6 w5 e5 => ⟨F5, r5, M5, ss.trans s6, w5, e5, h5⟩⟩⟩
/-! ### while -/
def zWhileN (t : ZT) (tb : ZS) (E : ZEnds) : Nat → Env → Mh → Prop
  | 0 => fun _ _ => False
  | n + 1 => fun r M => t r M fun b M1 => bsel b (tb { nx := zWhileN t tb E n, rt := E.rt, bk := E.nx, ct := zWhileN t tb E n } r M1) (E.nx r M1)
def zWhile (t : ZT) (tb : ZS) : ZS := fun E r M => ∃ n, zWhileN t tb E n r M
theorem zs_while {body : List Stmt} {tc : ZT} {tb : ZS} (hp : PassesOwn (model X.prog X.w) X.A X.env X.xe) (hc : PT X c (UT X F0 tc)) (hb : PSs X body (US X F0 tb)) : PS X (.While c body [] pos) (US X F0 (zWhile tc tb)) := ps_imp (ps_while hp hc hb) fun E s H h => by
  obtain ⟨F, rr, M, Z, s0, w, e, ⟨n, h⟩, k⟩ := h
  refine ⟨fun m s H => ∃ F1 r M, Le F F1 ∧ Wd X.K X.mg F1 H M ∧ RepE X.K X.mg F1 s r ∧ zWhileN tc tb Z m r M, ⟨n, F, rr, M, Le.refl _, w, e, h⟩, ?_⟩
  rintro m s' H' ⟨F1, r1, M1, s1, w1, e1, h1⟩
  cases m with
  | zero => exact False.elim h1
  | succ m =>
    refine ⟨F1, r1, M1, _, s0.trans s1, w1, e1, h1, fun b M2 h2 F2 H2 s2 w2 => ?_⟩
    cases b with
    | false => 
      rw [if_neg Bool.false_ne_true]
      exact k.nx _ _ h2 F2 _ _ (s1.trans s2) w2 (e1.mono s2)
    | true =>
      rw [if_pos rfl]
      refine ⟨fun s H => ∃ F1 r M, Le F F1 ∧ Wd X.K X.mg F1 H M ∧ RepE X.K X.mg F1 s r ∧ zWhileN tc tb Z m r M, fun s3 H3 h3 => ⟨m, Nat.lt_succ_self m, h3⟩, F2, r1, M2, _, (s0.trans s1).trans s2, w2, e1.mono s2, h2, ?_⟩
      have ss := s1.trans s2
      exact ⟨fun r5 M5 h5 F5 s5 H5 s6 w5 e5 => ⟨F5, r5, M5, ss.trans s6, w5, e5, h5⟩, k.rt.mono ss, k.nx.mono ss, fun r5 M5 h5 F5 s5 H5 s6 w5 e5 => ⟨F5, r5, M5, ss.trans s6, w5, e5, h5⟩⟩
/-! ### list comprehensions -/
def zYes : ZT := fun _ M Q => Q true M
def zLcL (c : Ck) (step : D → Mh → (Option D → Mh → Prop) → Prop) (k : List D → Mh → Prop) : List D → List D → Mh → Prop
  | [], acc, M => zck c M (k acc M)
  | d :: l, acc, M => zck c M (step d M fun o M' => match o with
    | none => zLcL c step k l acc M'
    | some y => zLcL c step k l (acc ++ [y]) M')
def zLcS (g : ZG) (tt : ZT) (te : ZE) (r : Env) : D → Mh → (Option D → Mh → Prop) → Prop := fun d M Q => g d r M fun r' M' => tt r' M' fun b M1 => bsel b (te r' M1 fun y M2 => Q (some y) M2) (Q none M1)
def zLc (nb : Bool) (zi : ZI) (g : ZG) (tt : ZT) (te : ZE) (vs : List Nat) : ZE := fun r M Q => zi r M fun ds c M1 => zLcL c (zLcS g tt te (zwipe r vs)) (fun acc M2 => zNew nb acc M2 Q) ds [] M1
end
end Zl

/-! Zl5: list comprehensions -/
namespace Zl
open PySem L2
theorem wipe_in {s : St} {i : Nat} : ∀ {vs : List Nat}, i ∈ vs → (wipe s vs)[i]? = s[i]?.map fun _ => none
  | v :: vs, h => by
    show ((wipe s vs).set v none)[i]? = _
    by_cases hi : v = i
    · subst hi
      rw [List.getElem?_set_self', ]
      cases e : (wipe s vs)[v]? with
      | none =>
        have := List.getElem?_eq_none_iff.mp e
        rw [wipe_length] at this
        rw [List.getElem?_eq_none_iff.mpr this]; rfl
      | some x =>
        have := (List.getElem?_eq_some_iff.mp e).1
        rw [wipe_length] at this
        rw [List.getElem?_eq_getElem this]; rfl
    · rw [List.getElem?_set_ne hi]
      rcases List.mem_cons.mp h with e | h
      · exact absurd e.symm hi
      · exact wipe_in h
theorem wipe_set {s : St} {i : Nat} {x : Option V} {vs : List Nat} (h : i ∈ vs) : wipe (s.set i x) vs = wipe s vs := by
  apply List.ext_getElem?
  intro j
  by_cases hj : j ∈ vs
  · rw [wipe_in hj, wipe_in hj, List.getElem?_set]
    by_cases e : i = j
    · subst e
      rw [if_pos rfl]
      by_cases hl : i < s.length
      · rw [if_pos hl, List.getElem?_eq_getElem hl]; rfl
      · rw [if_neg hl, List.getElem?_eq_none_iff.mpr (by omega)]
    · rw [if_neg e]
  · rw [wipe_out hj, wipe_out hj, List.getElem?_set_ne (fun e : i = j => hj (e ▸ h))]
theorem wipe_wipe {s : St} {vs : List Nat} : wipe (wipe s vs) vs = wipe s vs := by
  apply List.ext_getElem?
  intro j
  by_cases hj : j ∈ vs
  · rw [wipe_in hj, wipe_in hj]
    cases s[j]? <;> rfl
  · rw [wipe_out hj]
section
variable {K : PySem.W.Frag} {mg : Str → Option Value} {F : Fz} {H : Hp} {M : Mh}
theorem Wd.unhideM {a : Addr} {vs : List V} {ds : List D} {u : Hp} (w : Wd K mg F H M) (h : F.u a = some (.lst vs)) (l : vs.length ≤ sizeLine) (q : RepL K mg F vs ds) (hu : Same u F.u) (ha : u a = none) : Wd K mg ⟨F.f, u⟩ H (mup M a (.lst ds)) := by
  obtain ⟨h0, f0, m0⟩ := w.un a _ h
  refine ⟨w.sub, fun b o e => ?_, fun b m e => ?_⟩
  · have hb : b ≠ a := ne_of_none (show u b = some o from e) ha
    obtain ⟨q1, q2, q3⟩ := w.un b o (hu b o e)
    exact ⟨q1, q2, by rw [mup_ne hb]; exact q3⟩
  · by_cases hb : b = a
    · subst hb; rw [mup_same] at e; cases e
      exact ⟨f0, vs, h0, l, q.monoF (F := F) (F' := ⟨F.f, u⟩) (Same.refl _)⟩
    · rw [mup_ne hb] at e
      obtain ⟨q1, r⟩ := w.mu b m e
      refine ⟨q1, r.stay (F := F) (F' := ⟨F.f, u⟩) (Same.refl _) rfl (fun c _ hf hc hm => ⟨rfl, hf, hu.free hc, ?_⟩) fun t z => ?_⟩
      · rw [mup_ne (fun z => by rw [z, h] at hc; cases hc)]; exact hm
      · by_cases ht : t = a
        · subst ht; rw [mup_same] at z; cases z
        · rw [mup_ne ht] at z; exact z
theorem Wd.unhideF {a : Addr} {vs : List V} {u : Hp} (w : Wd K mg F H M) (h : F.u a = some (.lst vs)) (hu : Same u F.u) (ha : u a = none) : Wd K mg ⟨upd F.f a (.lst vs), u⟩ H M := by
  obtain ⟨h0, f0, m0⟩ := w.un a _ h
  refine ⟨fun b o e => ?_, fun b o e => ?_, fun b m e => ?_⟩
  · have e : upd F.f a (.lst vs) b = some o := e
    by_cases hb : b = a
    · subst hb; rw [upd_same] at e; cases e; exact h0
    · rw [upd_ne hb] at e; exact w.sub b o e
  · have hb : b ≠ a := ne_of_none (show u b = some o from e) ha
    obtain ⟨q1, q2, q3⟩ := w.un b o (hu b o e)
    exact ⟨q1, (upd_ne hb).trans q2, q3⟩
  · have hb : b ≠ a := ne_of_m e m0
    obtain ⟨q1, r⟩ := w.mu b m e
    refine ⟨(upd_ne hb).trans q1, r.stay (F := F) (F' := ⟨upd F.f a (.lst vs), u⟩) (same_upd f0) rfl (fun c _ hf hc hm => ⟨rfl, ?_, hu.free hc, hm⟩) fun t z => z⟩
    exact (upd_ne (fun z => by rw [z, h] at hc; cases hc)).trans hf
/-- a comprehension's target: what it stores it stores in its own slots -/
def TgOk (K : PySem.W.Frag) (mg : Str → Option Value) (g : TG) (zg : ZG) (vs : List Nat) : Prop := ∀ (F : Fz) (H : Hp) (M : Mh) (x : V) (d : D) (s : St) (r : Env) (Q : St → Hp → Prop) (R : Env → Mh → Prop), Wd K mg F H M → Rep K mg F x d → RepE K mg F s r → zg d r M R →
  (∀ r' s', R r' M → RepE K mg F s' r' → wipe s' vs = wipe s vs → Q s' H) → g x s H Q
theorem tg_name {i : Nat} {vs : List Nat} (h : i ∈ vs) : TgOk K mg (gName i) (zgName i) vs := fun F H M x d s r Q R w rx e z k => k _ _ z (e.set i rx) (wipe_set h)
def zgPair (i j : Nat) : ZG := zgTup 2 (zgCons (zgName i) (zgCons (zgName j) zgNil))
theorem tg_pair {i j : Nat} {vs : List Nat} (h : i ∈ vs) (h' : j ∈ vs) : TgOk K mg (gTup K 2 (gCons (gName i) (gCons (gName j) gNil))) (zgPair i j) vs := fun F H M x d s r Q R w rx e z k => by
  cases d with
  | tup ds =>
    cases rx with
    | tup q l rl =>
      obtain ⟨hl, z⟩ := (show ds.length = 2 ∧ zgCons (zgName i) (zgCons (zgName j) zgNil) ds r M R from z)
      cases rl with
      | nil => cases hl
      | cons a1 rl =>
        cases rl with
        | nil => cases hl
        | cons a2 rl =>
          cases rl with
          | nil =>
            refine ⟨_, _, rfl, same_sqT w.same q, rfl, _, _, rfl, _, _, rfl, rfl, k _ _ z ((e.set i a1).set j a2) ?_⟩
            rw [wipe_set h', wipe_set h]
          | cons _ _ => cases hl
  | _ => exact False.elim z
end
section
variable {X : Cx} {F0 : Fz} {tg elt iter : Expr} {ifs : List Expr} {scope : Scope} {own : List (Str × Nat)} {pos : Pos} {zi : ZI} {g : TG} {zg : ZG} {tt : ZT} {te : ZE}
theorem pts_imp {t t' : TT} (h : PTs X ifs t) (i : ∀ s H Q, t' s H Q → t s H Q) : PTs X ifs t' := ⟨fun pins s r H Q I q => h.run pins s r H Q I (i _ _ _ q)⟩
theorem zts_nil : PTs X [] (UT X F0 zYes) := pts_imp pts_nil fun s H Q h => by
  obtain ⟨F, rr, M, R, s0, w, e, h, k⟩ := h
  exact k true M h F H (Le.refl _) w
theorem zts_one {c : Expr} (h : PT X c (UT X F0 tt)) : PTs X [c] (UT X F0 tt) := pts_one h
theorem lc_low (nb : Bool) (ok : TgOk X.K X.mg g zg (own.map (·.2))) {s : St} {H : Hp} {Q : VK} (h : UE X F0 (zLc nb zi zg tt te (own.map (·.2))) s H Q) : tLc (upI X.K X.mg F0 zi) g (UT X F0 tt) (UE X F0 te) (own.map (·.2)) s H Q := by
  obtain ⟨F, rr, M, R, s0, w, e, h, k⟩ := h
  generalize own.map (·.2) = vs at *
  refine ⟨F, rr, M, _, s0, w, e, h, fun ds c M1 h1 F1 H1 J s1 w1 itz hlen Da hD => ?_⟩
  obtain ⟨_, _, u0⟩ := w1.free hD
  have e1 := e.mono s1
  refine ⟨fun i m H => i + m = ds.length ∧ ∃ (Fi : Fz) (Mi : Mh) (acc : List D) (xs : List V), Same F1.f Fi.f ∧ Fi.u = upd F1.u Da (.lst xs) ∧ Wd X.K X.mg Fi H Mi ∧ RepL X.K X.mg Fi xs acc ∧ acc.length ≤ i ∧
      zLcL c (zLcS zg tt te (zwipe rr vs)) (fun acc M2 => zNew nb acc M2 R) (ds.drop i) acc Mi, ⟨ds.length, by omega, ⟨F1.f, upd F1.u Da (.lst [])⟩, M1, [], [], Same.refl _, rfl, w1.hide hD, .nil, Nat.le_refl _, h1⟩, ?_⟩
  rintro i m H2 ⟨hm, Fi, Mi, acc, xs, sf, eu, wi, ra, la, hl⟩
  have uD : Fi.u Da = some (.lst xs) := by rw [eu]; exact upd_same
  have su : Same F1.u Fi.u := by rw [eu]; exact same_upd u0
  cases hd : ds[i]? with
  | none =>
    have hi : i = ds.length := by
      have := List.getElem?_eq_none_iff.mp hd
      omega
    rw [hi, List.drop_length] at hl
    obtain ⟨ck, hn⟩ := zck_out hl
    refine .inl ⟨by rw [hi]; exact (itz Fi H2 Mi sf wi ck).2, ?_⟩
    have lx : xs.length ≤ sizeLine := by rw [ra.length]; omega
    cases nb with
    | false =>
      have w3 := wi.unhideF uD su u0
      refine k _ _ hn ⟨upd Fi.f Da (.lst xs), F1.u⟩ _ _ (s1.trans ⟨?_, rfl⟩) w3 (.lst upd_same lx (ra.monoF ?_))
      · exact sf.trans (same_upd (wi.un Da _ uD).2.1)
      · exact same_upd (wi.un Da _ uD).2.1
    | true =>
      have m0 := (wi.un Da _ uD).2.2
      exact k _ _ (hn Da m0) ⟨Fi.f, F1.u⟩ _ _ (s1.trans ⟨sf, rfl⟩) (wi.unhideM uD lx ra su u0) (.ref Da)
  | some d =>
    have hlt := (List.getElem?_eq_some_iff.mp hd).1
    rw [drop_some hd] at hl
    obtain ⟨ck, hn⟩ := zck_out hl
    obtain ⟨go, yl⟩ := (itz Fi H2 Mi sf wi ck).1 i d hd
    refine .inr ⟨go, _, fun H' hN => ⟨ds.length - (i + 1), by omega, by omega, hN⟩, fun x H3 hy => ?_⟩
    obtain ⟨F3, s3, w3, rx⟩ := yl x H3 hy
    have e3 : RepE X.K X.mg F3 (wipe s vs) (zwipe rr vs) := by
      have q := e1.wipe vs
      exact ⟨q.1, fun j d' z => let ⟨v, a, b⟩ := q.2 j d' z; ⟨v, a, b.monoF (sf.trans s3.f)⟩⟩
    have g3 : Ge F0 F3 := ⟨(s0.trans s1).f.trans (sf.trans s3.f), by rw [s3.u]; exact (s0.trans s1).u.trans su⟩
    have u3 : F3.u = upd F1.u Da (.lst xs) := s3.u.trans eu
    refine ok F3 H3 Mi x d _ _ _ _ w3 rx e3 hn fun r4 s4 h4 e4 hw => ⟨hw.trans wipe_wipe, F3, r4, Mi, _, g3, w3, e4, h4, fun b M5 h5 F5 H5 s5 w5 => ?_⟩
    cases b with
    | false =>
      rw [if_neg Bool.false_ne_true]
      exact ⟨F5, M5, acc, xs, (sf.trans s3.f).trans s5.f, s5.u.trans u3, w5, ra.monoF (s3.trans s5).f, by omega, h5⟩
    | true =>
      rw [if_pos rfl]
      refine ⟨F5, r4, M5, _, g3.trans s5, w5, e4.mono s5, h5, fun y M6 h6 F6 H6 yv s6 w6 r6 => ?_⟩
      have u6 : F6.u = upd F1.u Da (.lst xs) := (s6.u.trans s5.u).trans u3
      have uD6 : F6.u Da = some (.lst xs) := by rw [u6]; exact upd_same
      refine ⟨xs, (w6.un Da _ uD6).1, by rw [ra.length]; omega, ⟨F6.f, upd F6.u Da (.lst (xs ++ [yv]))⟩, M6, acc ++ [y], xs ++ [yv], ((sf.trans s3.f).trans s5.f).trans s6.f, by rw [u6, upd_upd], w6.rehide uD6, ?_, by rw [List.length_append]; show acc.length + 1 ≤ i + 1; omega, h6⟩
      exact ((ra.monoF (F' := F6) ((s3.trans s5).trans s6).f).append (.cons r6 .nil)).monoF (F := F6) (F' := ⟨F6.f, upd F6.u Da (.lst (xs ++ [yv]))⟩) (Same.refl _)
theorem ze_lc (nb : Bool) (hc : X.calm = true) (hN : X.N.Nodup) (hi : PI X tg iter (upI X.K X.mg F0 zi)) (ok : BlkOk X.N X.env.scope scope own) (okg : TgOk X.K X.mg g zg (own.map (·.2)))
    (hg : ∀ (s : Shared) (H : Hp) (C : Addr) (cl : List (Str × Addr)) (fp : List Addr), PG (X.blk s H scope (compEnvC scope cl C X.env) fp) tg g) (ht : ∀ (s : Shared) (H : Hp) (C : Addr) (cl : List (Str × Addr)) (fp : List Addr), PTs (X.blk s H scope (compEnvC scope cl C X.env) fp) ifs (UT X F0 tt))
    (he : ∀ (s : Shared) (H : Hp) (C : Addr) (cl : List (Str × Addr)) (fp : List Addr), PE (X.blk s H scope (compEnvC scope cl C X.env) fp) elt (UE X F0 te)) (hs : ∀ x, foldedSetIterable iter X.env x = pure x := by intro _; rfl) :
    PE X (.ListComp elt [⟨tg, iter, ifs, 0⟩] scope pos) (UE X F0 (zLc nb zi zg tt te (own.map (·.2)))) := pe_imp (pe_lc hc hN hi ok hg ht he hs) fun s H Q h => lc_low nb okg h
theorem zs_setLc (nb : Bool) {i : Nat} {y : Str} {py spos : Pos} (hc : X.calm = true) (hN : X.N.Nodup) (hsw : swapsWith (.ListComp elt [⟨tg, iter, ifs, 0⟩] scope pos) (some (.Name y py)) spos.line X.env = pure true) (hi : PI X tg iter (upI X.K X.mg F0 zi)) (ok : BlkOk X.N X.env.scope scope own) (okg : TgOk X.K X.mg g zg (own.map (·.2)))
    (hg : ∀ (s : Shared) (H : Hp) (C : Addr) (cl : List (Str × Addr)) (fp : List Addr), PG (X.blk s H scope (compEnvC scope cl C X.env) fp) tg g) (ht : ∀ (s : Shared) (H : Hp) (C : Addr) (cl : List (Str × Addr)) (fp : List Addr), PTs (X.blk s H scope (compEnvC scope cl C X.env) fp) ifs (UT X F0 tt))
    (he : ∀ (s : Shared) (H : Hp) (C : Addr) (cl : List (Str × Addr)) (fp : List Addr), PE (X.blk s H scope (compEnvC scope cl C X.env) fp) elt (UE X F0 te)) (hy : X.N[i]? = some y := by rfl) (hyl : X.env.scope.names.lookup y = some .local := by rfl) (hs : ∀ x, foldedSetIterable iter X.env x = pure x := by intro _; rfl) :
    PS X (.Assign [.Name y py] (.ListComp elt [⟨tg, iter, ifs, 0⟩] scope pos) spos) (US X F0 (zAsg (zLc nb zi zg tt te (own.map (·.2))) (zgName i))) := ps_imp (ps_setLc (i := i) hc hN hy hyl hsw hi ok hg ht he hs) fun E s H h => by
  obtain ⟨F, rr, M, Z, s0, w, e, h, k⟩ := h
  exact lc_low nb okg ⟨F, rr, M, _, s0, w, e, h, fun d M1 h1 F1 H1 v s1 w1 r1 => k.nx _ M1 h1 F1 _ H1 s1 w1 ((e.mono s1).set i r1)⟩
end
end Zl

/-! Zl6: calls, defs, raising, built-in functions -/
namespace Zl
open PySem L2
/-! ### ghost steps -/
mutual
def frzD (p : Addr) (es : List D) : D → D
  | .lst ds => .lst (frzDs p es ds)
  | .tup ds => .tup (frzDs p es ds)
  | .ref a => if a = p then .lst es else .ref a
  | .non => .non
  | .bl b => .bl b
  | .int i => .int i
  | .str x => .str x
  | .dct => .dct
  | .exc c => .exc c
  | .scr ns => .scr ns
def frzDs (p : Addr) (es : List D) : List D → List D
  | [] => []
  | d :: r => frzD p es d :: frzDs p es r
end
inductive Gh : Mh → D → Mh → D → Prop
  | refl {M : Mh} {d : D} : Gh M d M d
  | drop {M M' : Mh} {d : D} : (∀ a m, M' a = some m → M a = some m) → Gh M d M' d
  | frz {M : Mh} {d : D} {p : Addr} {ds : List D} : M p = some (.lst ds) → Gh M d (mdel M p) (frzD p ds d)
  | trans {M M1 M2 : Mh} {d d1 d2 : D} : Gh M d M1 d1 → Gh M1 d1 M2 d2 → Gh M d M2 d2
/-- .. on the slots -/
inductive GhE : Mh → Env → Mh → Env → Prop
  | refl {M : Mh} {r : Env} : GhE M r M r
  | drop {M M' : Mh} {r : Env} : (∀ a m, M' a = some m → M a = some m) → GhE M r M' r
  | frz {M : Mh} {r : Env} {p : Addr} {ds : List D} : M p = some (.lst ds) → GhE M r (mdel M p) (r.map fun o => o.map (frzD p ds))
  | trans {M M1 M2 : Mh} {r r1 r2 : Env} : GhE M r M1 r1 → GhE M1 r1 M2 r2 → GhE M r M2 r2
/-- fewer things -/
def Less (M' M : Mh) : Prop := ∀ a m, M' a = some m → M a = some m
theorem Less.refl (M : Mh) : Less M M := fun _ _ h => h
section
variable {K : PySem.W.Frag} {mg : Str → Option Value} {F F' : Fz} {H : Hp}
mutual
theorem Rep.frz {p : Addr} {es : List D} (s : Le F F') (q : Rep K mg F' (.ref p) (.lst es)) : ∀ {v : V} {d : D}, Rep K mg F v d → Rep K mg F' v (frzD p es d)
  | _, _, .non => .non
  | _, _, .bl b => .bl b
  | _, _, .int i => .int i
  | _, _, .str h h' => .str h h'
  | _, _, .lst h l r => .lst (s.f _ _ h) l (RepL.frz s q r)
  | _, _, .tup h l r => .tup (same_sqT s.f h) l (RepL.frz s q r)
  | _, _, .dct h => .dct (s.f _ _ h)
  | _, _, .exc h h' => .exc h (s.f _ _ h')
  | _, _, .scr h l => .scr (s.f.seq h) l
  | _, _, .ref a => by
    unfold frzD
    by_cases e : a = p
    · rw [if_pos e, e]; exact q
    · rw [if_neg e]; exact .ref a
theorem RepL.frz {p : Addr} {es : List D} (s : Le F F') (q : Rep K mg F' (.ref p) (.lst es)) : ∀ {vs : List V} {ds : List D}, RepL K mg F vs ds → RepL K mg F' vs (frzDs p es ds)
  | _, _, .nil => .nil
  | _, _, .cons h t => .cons (Rep.frz s q h) (RepL.frz s q t)
end
theorem Gh.sound {M M' : Mh} {d d' : D} (g : Gh M d M' d') : ∀ {F : Fz} {v : V}, Wd K mg F H M → Rep K mg F v d → ∃ F', Le F F' ∧ Wd K mg F' H M' ∧ Rep K mg F' v d' := by
  induction g with
  | refl => intro F v w r; exact ⟨F, Le.refl _, w, r⟩
  | drop h => intro F v w r; exact ⟨F, Le.refl _, w.drop h, r⟩
  | frz h =>
    intro F v w r
    obtain ⟨F', s, w', q⟩ := w.freeze h
    exact ⟨F', s, w', Rep.frz s q r⟩
  | trans _ _ ih1 ih2 =>
    intro F v w r
    obtain ⟨F1, s1, w1, r1⟩ := ih1 w r
    obtain ⟨F2, s2, w2, r2⟩ := ih2 w1 r1
    exact ⟨F2, s1.trans s2, w2, r2⟩
theorem gt_map (f : D → D) : ∀ (r : Env) (i : Nat), gt (r.map fun o => o.map f) i = (gt r i).map f
  | [], _ => rfl
  | _ :: _, 0 => rfl
  | _ :: r, i + 1 => gt_map f r i
theorem GhE.sound {M M' : Mh} {r r' : Env} (g : GhE M r M' r') : ∀ {F : Fz} {s : St}, Wd K mg F H M → RepE K mg F s r → ∃ F', Le F F' ∧ Wd K mg F' H M' ∧ RepE K mg F' s r' := by
  induction g with
  | refl => intro F v w r; exact ⟨F, Le.refl _, w, r⟩
  | drop h => intro F v w r; exact ⟨F, Le.refl _, w.drop h, r⟩
  | frz h =>
    intro F v w r
    obtain ⟨F', s, w', q⟩ := w.freeze h
    refine ⟨F', s, w', by rw [r.1, List.length_map], fun i d e => ?_⟩
    rw [gt_map] at e
    obtain ⟨d0, e0, e1⟩ := Option.map_eq_some_iff.mp e
    obtain ⟨x, h1, h2⟩ := r.2 i d0 e0
    exact ⟨x, h1, by rw [← e1]; exact Rep.frz s q h2⟩
  | trans _ _ ih1 ih2 =>
    intro F v w r
    obtain ⟨F1, s1, w1, r1⟩ := ih1 w r
    obtain ⟨F2, s2, w2, r2⟩ := ih2 w1 r1
    exact ⟨F2, s1.trans s2, w2, r2⟩
end
/-- a ghost step ahead of a statement -/
def zGh (t : ZS) : ZS := fun E r M => ∃ r' M', GhE M r M' r' ∧ t E r' M'
theorem zs_gh {X : Cx} {F0 : Fz} {st1 : Stmt} {t : ZS} (h : PS X st1 (US X F0 t)) : PS X st1 (US X F0 (zGh t)) := ps_imp h fun E s H h => by
  obtain ⟨F, rr, M, Z, s0, w, e, ⟨r', M', g, h⟩, k⟩ := h
  obtain ⟨F', s1, w', e'⟩ := g.sound w e
  exact ⟨F', r', M', Z, s0.trans s1, w', e', h, k.mono s1⟩
/-! ### promises -/
/-- an exception's class and fields -/
def RepX (K : PySem.W.Frag) (mg : Str → Option Value) (F : Fz) (cls : Value) (d : Option Addr) (c : Str) (fs : List (Str × D)) : Prop := ∃ C, mg c = some (.ref C) ∧ cls = .ref C ∧
  ((fs = [] ∧ d = none) ∨ ∃ dx vs, fs ≠ [] ∧ d = some dx ∧ F.f dx = some (.xd ((fs.map (·.1)).zip vs)) ∧ RepL K mg F vs (fs.map (·.2)))
theorem RepX.monoF {K : PySem.W.Frag} {mg : Str → Option Value} {F F' : Fz} {cls : Value} {d : Option Addr} {c : Str} {fs : List (Str × D)} (s : Same F.f F'.f) (h : RepX K mg F cls d c fs) : RepX K mg F' cls d c fs := by
  obtain ⟨C, h1, h2, h3⟩ := h
  refine ⟨C, h1, h2, ?_⟩
  rcases h3 with h3 | ⟨dx, vs, z, a, b, c⟩
  · exact .inl h3
  · exact .inr ⟨dx, vs, z, a, s _ _ b, c.monoF s⟩
def Kx (K : PySem.W.Frag) (mg : Str → Option Value) (F : Fz) (RE : ZX) (E : XK) : Prop := ∀ c fs M', RE c fs M' → ∀ F' H' cls d, Le F F' → Wd K mg F' H' M' → RepX K mg F' cls d c fs → E cls d H'
def liftSp (K : PySem.W.Frag) (mg : Str → Option Value) (zs : ZSp) : Sp := fun vs H Q E => ∃ (F : Fz) (M : Mh) (ds : List D) (R : QZ) (RE : ZX), Wd K mg F H M ∧ RepL K mg F vs ds ∧ zs ds M R RE ∧ Kq K mg F R Q ∧ Kx K mg F RE E
/-- a wish and its reading -/
def Wok (K : PySem.W.Frag) (mg : Str → Option Value) (F0 : Fz) (W : WX) (zE : ZW) : Prop := ∀ c fs r M, zE c fs r M → ∀ F s H cls d, Ge F0 F → Wd K mg F H M → RepE K mg F s r → RepX K mg F cls d c fs → W cls d s H
theorem wok_def {K : PySem.W.Frag} {mg : Str → Option Value} {F0 : Fz} {RE : ZX} {E : XK} (k : Kx K mg F0 RE E) : Wok K mg F0 (fun cls d _ H => E cls d H) (fun c fs _ M => ∃ M', Less M' M ∧ RE c fs M') := by
  rintro c fs r M ⟨M', l, h⟩ F s H cls d g w e rx
  exact k c fs M' h ⟨F.f, F0.u⟩ H cls d ⟨g.f, rfl⟩ ((w.drop l).less g.u) (rx.monoF (F := F) (F' := ⟨F.f, F0.u⟩) (Same.refl _))
def zNoX : ZW := fun _ _ _ _ => False
theorem wok0 {K : PySem.W.Frag} {mg : Str → Option Value} {F0 : Fz} {W : WX} : Wok K mg F0 W zNoX := fun _ _ _ _ h => h.elim
section
variable {X : Cx} {F0 : Fz}
def zCall (zs : ZSp) (zE : ZW) (t : ZA) : ZE := fun r M Q => t r M fun ds M1 => zs ds M1 Q fun c fs M' => zE c fs r M'
theorem ze_call {f : Addr} {fd : FuncData} {ps : List Str} {k : Nat} {zs : ZSp} {zE : ZW} {W : WX} {x : Str} {a : Expr} {es : List Expr} {t : ZA} {p pos : Pos} (FO : FnOk X.prog X.w X.K X.mg X.base (L2.CX X.prog X.w) k f fd ps (liftSp X.K X.mg zs)) (hr : Room k X.A) (hm : X.mg x = some (.ref f))
    (hk : PySem.W.keepIn X.K (.ref f) = true) (hb : Binds X.K fd ps []) (tk : Takes X W) (wk : Wok X.K X.mg F0 W zE) (ha : PA X (a :: es) (UA X F0 t)) (hg : Gl X x := by rfl) (hdb : (x == ("__debug__" : Str)) = false := by decide)
    (he : starEach (a :: es) X.env = (false, eval a X.env) :: starEach es X.env := by rfl) (hpl : (backTo pos (starEach es X.env)).any (·.1) = false := by rfl) : PE X (.Call (.Name x p) (a :: es) [] pos) (UE X F0 (zCall zs zE t)) :=
  pe_imp (pe_callS FO hr hg hm hk hb (fun s => passAt tk s) ha hdb he hpl) fun s H Q h => by
  obtain ⟨F, rr, M, R, s0, w, e, h, k⟩ := h
  refine ⟨F, rr, M, _, s0, w, e, h, fun ds M1 h1 F1 H1 vs s1 w1 r1 => ⟨F1, M1, ds, R, _, w1, r1, h1, k.mono s1, fun c fs M' hx F' H' cls d s2 w2 rx => ?_⟩⟩
  exact wk c fs rr M' hx F' s H' cls d (s0.trans (s1.trans s2)) w2 (e.mono (s1.trans s2)) rx
theorem ze_call0 {f : Addr} {fd : FuncData} {ps : List Str} {k : Nat} {zs : ZSp} {zE : ZW} {x : Str} {p pos : Pos} (FO : FnOk X.prog X.w X.K X.mg X.base (L2.CX X.prog X.w) k f fd ps (liftSp X.K X.mg zs)) (hr : Room k X.A) (hm : X.mg x = some (.ref f))
    (hk : PySem.W.keepIn X.K (.ref f) = true) (hb : Binds X.K fd ps []) (hg : Gl X x := by rfl) (hdb : (x == ("__debug__" : Str)) = false := by decide) : PE X (.Call (.Name x p) [] [] pos) (UE X F0 (zCall zs zNoX zNil)) :=
  pe_imp (pe_call0 FO hr hg hm hk hb .nil passL hdb) fun s H Q h => by
  obtain ⟨F, rr, M, R, s0, w, e, h, k⟩ := h
  exact ⟨F, M, [], R, _, w, .nil, h, k, fun c fs M' hx => hx.elim⟩
end
/-! ### defs -/
def zEnd (R : QZ) : ZEnds := { nx := fun _ M => ∃ M', Less M' M ∧ R .non M', rt := fun d M => ∃ d' M', Gh M d M' d' ∧ R d' M' }
def zEnd0 (R : QZ) : ZEnds := { nx := fun _ M => R .non M, rt := R }
section
variable {P : Program} {w : World} {K : PySem.W.Frag} {mg : Str → Option Value} {base : Heap}
theorem gt_rep : ∀ (n i : Nat), gt (List.replicate n none) i = none
  | 0, _ => rfl
  | _ + 1, 0 => rfl
  | n + 1, i + 1 => gt_rep n i
theorem RepE.cons {F : Fz} {s : St} {r : Env} {v : V} {d : D} (e : RepE K mg F s r) (h : Rep K mg F v d) : RepE K mg F (some v :: s) (some d :: r) := by
  refine ⟨congrArg (· + 1) e.1, fun i x q => ?_⟩
  cases i with
  | zero => cases q; exact ⟨v, rfl, h⟩
  | succ i =>
    obtain ⟨u, h1, h2⟩ := e.2 i x q
    exact ⟨u, h1, h2⟩
theorem repE_start {F : Fz} (n : Nat) : ∀ {vs : List V} {ds : List D}, RepL K mg F vs ds → RepE K mg F (vs.map some ++ List.replicate n none) (ds.map some ++ List.replicate n none)
  | _, _, .nil => ⟨by simp, fun i d e => by
    have e' : gt (List.replicate n none) i = some d := e
    rw [gt_rep] at e'; cases e'⟩
  | _, _, .cons h t => (repE_start n t).cons h
theorem wok_def0 {F0 : Fz} {RE : ZX} {E : XK} (k : Kx K mg F0 RE E) : Wok K mg F0 (fun cls d _ H => E cls d H) (fun c fs _ M => RE c fs M) := by
  intro c fs r M h F s H cls d g w e rx
  exact k c fs M h ⟨F.f, F0.u⟩ H cls d ⟨g.f, rfl⟩ (w.less g.u) (rx.monoF (F := F) (F' := ⟨F.f, F0.u⟩) (Same.refl _))
/-- g: with ghost steps at the ends -/
def enB (g : Bool) (R : QZ) : ZEnds := match g with | true => zEnd R | false => zEnd0 R
def exB (g : Bool) (RE : ZX) : ZW := match g with | true => fun c fs _ M => ∃ M', Less M' M ∧ RE c fs M' | false => fun c fs _ M => RE c fs M
def zFn (g : Bool) (zb : ZW → ZS) (r : Env) (M : Mh) (Q : QZ) (E : ZX) : Prop := zb (exB g E) (enB g Q) r M
/-- THE RULE for a def: its body's derivation; the reading runs from the arguments -/
theorem z_ok (g : Bool) {x qual : Str} {st1 : Stmt} {f : Addr} {fd : FuncData} {N ps : List Str} {k n : Nat} {zs : ZSp} {zb : ZW → ZS} (FF : Fun K x qual st1 f fd) (S : FnScope N ps (defScope st1)) (hn : N.length - ps.length = n)
    (hz : ∀ ds M R RE, zs ds M R RE → ds.length = ps.length ∧ zFn g zb (ds.map some ++ List.replicate n none) M R RE)
    (hbody : ∀ (cdv : Value) (A : Around) (outer : List PySem.Env) (s : Shared) (H : Hp) (E : XK) (F0 : Fz) (zE : ZW), Room k (A.deeper (PyProof.Rows.envOfC qual (defScope st1) s.heap.objs.size f cdv)) → Wok K mg F0 (fun cls d _ H => E cls d H) zE →
      PSs (cxOf (L2.CX P w) P w K mg base N qual (defScope st1) f cdv A outer s H E) (defBody st1) (upS K mg F0 (zb zE))) : FnOk P w K mg base (L2.CX P w) (k + 1) f fd ps (liftSp K mg zs) := by
  refine FF.okX S (fun vs H Q E h => ?_) fun cdv A outer s H vs Q E hr h => ?_
  · obtain ⟨F, M, ds, R, RE, w, rl, h, _⟩ := h
    rw [rl.length]; exact (hz ds M R RE h).1
  · obtain ⟨F, M, ds, R, RE, w, rl, h, kq, kx⟩ := h
    obtain ⟨hl, hb⟩ := hz ds M R RE h
    have wk : Wok K mg F (fun cls d _ H => E cls d H) (exB g RE) := by
      cases g with
      | true => exact wok_def kx
      | false => exact wok_def0 kx
    refine ⟨_, hbody cdv A outer s H E F _ hr wk, F, _, M, enB g R, Ge.refl _, w, ?_, hb, ?_⟩
    · have q := repE_start (K := K) (mg := mg) n rl
      have e : L2.start N vs = vs.map some ++ List.replicate n none := by
        show vs.map some ++ List.replicate (N.length - vs.length) none = _
        rw [rl.length, hl, hn]
      rw [e]; exact q
    · cases g with
      | true =>
        refine ⟨fun r M' ⟨M2, l, h⟩ F' s' H' s1 w1 e1 => kq _ _ h F' H' _ s1 (w1.drop l) .non, fun d M' ⟨d', M2, g, h⟩ F' H' v s1 w1 r1 => ?_, fun _ _ h => h.elim, fun _ _ h => h.elim⟩
        obtain ⟨F2, s2, w2, r2⟩ := g.sound w1 r1
        exact kq _ _ h F2 H' v (s1.trans s2) w2 r2
      | false => exact ⟨fun r M' h F' s' H' s1 w1 e1 => kq _ _ h F' H' _ s1 w1 .non, kq, fun _ _ h => h.elim, fun _ _ h => h.elim⟩
end
/-! ### raising -/
section
variable {X : Cx} {F0 : Fz}
def zRaise (zE : ZW) (c : Str) : ZS := fun _ r M => zE c [] r M
theorem zs_raise {W : WX} {zE : ZW} {C : Addr} {bmB : List Value} {B newId initId : String} {x m : Str} {j : Nat} {p p2 pos pos2 : Pos} (hc : X.calm = true) (tk : Takes X W) (wk : Wok X.K X.mg F0 W zE) (FB : ExcBaseFacts B newId initId bmB) (q : PySem.W.excIn X.K C bmB newId = true) (gC : X.mg x = some (.ref C))
    (kC : PySem.W.keepIn X.K (.ref C) = true) (rz : Raises X (.ref C)) (hg : Gl X x := by rfl) (hdb : (x == ("__debug__" : Str)) = false := by decide) : PS X (.Raise (some (.Call (.Name x p) [.Constant (.str m) j p2] [] pos)) none pos2) (US X F0 (zRaise zE x)) :=
  ps_imp (ps_raise hc tk (pmk_own FB q gC kC rz hg hdb)) fun E s H h => by
  obtain ⟨F, rr, M, Z, s0, w, e, h, k⟩ := h
  exact wk x [] rr M h F s H _ _ s0 w e ⟨C, gC, rfl, .inl ⟨rfl, rfl⟩⟩
/-! ### built-in functions -/
def zCB (f : List D → Mh → QZ → Prop) (t : ZA) : ZE := fun r M Q => t r M fun ds M1 => f ds M1 Q
theorem up_cb {K : PySem.W.Frag} {mg : Str → Option Value} {r : List V → Hp → VK → Prop} {f : List D → Mh → QZ → Prop} {t : ZA} (sA : SndA K mg r f) {s : St} {H : Hp} {Q : VK} (h : upE K mg F0 (zCB f t) s H Q) : tCB r (upA K mg F0 t) s H Q := by
  obtain ⟨F, rr, M, R, s0, w, e, h, k⟩ := h
  exact ⟨F, rr, M, _, s0, w, e, h, fun ds M1 h1 F1 H1 vs s1 w1 r1 => sA F1 H1 M1 vs ds Q R w1 r1 h1 (k.mono s1)⟩
theorem ze_cb {r : List V → Hp → VK → Prop} {f : List D → Mh → QZ → Prop} {id : String} {x : Str} {a : Expr} {es : List Expr} {t : ZA} {p pos : Pos} (hc : CallR X (.builtin id) r) (sA : SndA X.K X.mg r f) (hm : X.mg x = none) (hv : bootBuiltins x = some (.builtin id)) (ha : PA X (a :: es) (UA X F0 t)) (hg : Gl X x := by rfl)
    (hn : x ≠ "__name__" := by decide) (hdb : (x == ("__debug__" : Str)) = false := by decide) (he : starEach (a :: es) X.env = (false, eval a X.env) :: starEach es X.env := by rfl) (hpl : (backTo pos (starEach es X.env)).any (·.1) = false := by rfl) : PE X (.Call (.Name x p) (a :: es) [] pos) (UE X F0 (zCB f t)) :=
  pe_imp (pe_callB hc hg hm hv ha hn hdb he hpl) fun _ _ _ h => up_cb sA h
theorem ze_ct {r : List V → Hp → VK → Prop} {f : List D → Mh → QZ → Prop} {T : String} {x : Str} {a : Expr} {es : List Expr} {t : ZA} {p pos : Pos} (hc : CallR X (.type T) r) (sA : SndA X.K X.mg r f) (hm : X.mg x = none) (hv : bootBuiltins x = some (.type T)) (ha : PA X (a :: es) (UA X F0 t)) (hg : Gl X x := by rfl)
    (hn : x ≠ "__name__" := by decide) (hdb : (x == ("__debug__" : Str)) = false := by decide) (he : starEach (a :: es) X.env = (false, eval a X.env) :: starEach es X.env := by rfl) (hpl : (backTo pos (starEach es X.env)).any (·.1) = false := by rfl) : PE X (.Call (.Name x p) (a :: es) [] pos) (UE X F0 (zCB f t)) :=
  pe_imp (pe_callTy hc hg hm hv ha hn hdb he hpl) fun _ _ _ h => up_cb sA h
end
section
variable {K : PySem.W.Frag} {mg : Str → Option Value}
def dLen (ds : List D) (M : Mh) (Q : QZ) : Prop := match ds with
  | [.str s] => Q (.int s.length) M
  | [x] => zLT M x fun l => Q (.int l.length) M
  | _ => False
theorem snd_len : SndA K mg (fun xs H Q => ∃ x n, xs = [x] ∧ LenV K x H n ∧ Q (.int n) H) dLen := by
  intro F H M xs ds Q R w rl h k
  cases rl with
  | nil => exact h.elim
  | cons r1 rl =>
    cases rl with
    | cons _ _ => exfalso; revert h; unfold dLen; split <;> first | (rename_i e; cases e) | exact id
    | nil =>
      rename_i x d
      have gen : (zLT M d fun l => R (.int l.length) M) → ∃ y n, [x] = [y] ∧ LenV K y H n ∧ Q (.int n) H := fun h => by
        obtain ⟨a, vs, es, rfl, e, l, rl, h⟩ := zLT_out w r1 h
        refine ⟨_, vs.length, rfl, ?_, ?_⟩
        · rcases e with e | e
          · exact .inl ⟨vs, e, rfl⟩
          · exact .inr ⟨vs, e, rfl⟩
        · rw [rl.length]; exact k _ _ h _ _ _ (Le.refl F) w (.int _)
      cases d with
      | str s =>
        cases r1 with
        | str o1 o2 => exact ⟨_, s.length, rfl, ⟨o2, rfl⟩, k _ _ h _ _ _ (Le.refl F) w (.int _)⟩
      | _ => exact gen h
/-! isinstance -/
def tyD (M : Mh) (d : D) : Option String := match d with
  | .non => some "NoneType"
  | .bl _ => some "bool"
  | .int _ => some "int"
  | .str _ => some "str"
  | .lst _ => some "list"
  | .tup _ => some "tuple"
  | .dct => some "dict"
  | .ref p => (match M p with | some (.lst _) => some "list" | _ => none)
  | _ => none
def isiB (t T : String) : Bool := t == T || (t == "bool" && T == "int")
def dIsi (T : String) (x : D) (M : Mh) (Q : QZ) : Prop := match tyD M x with
  | some t => Q (.bl (isiB t T)) M
  | none => False
theorem tyX_of {F : Fz} {H : Hp} {M : Mh} {v : V} {d : D} {t : String} (w : Wd K mg F H M) (r : Rep K mg F v d) (h : tyD M d = some t) : TyX K H v (.type t) ∧ t ∈ ["NoneType", "bool", "int", "str", "list", "tuple", "dict"] := by
  cases r with
  | non => cases h; exact ⟨.base .non, by decide⟩
  | bl b => cases h; exact ⟨.base (.bl b), by decide⟩
  | int i => cases h; exact ⟨.base (.int i), by decide⟩
  | str _ _ => cases h; exact ⟨.base (.str _), by decide⟩
  | lst e _ _ => cases h; exact ⟨.base (.lst (w.sub _ _ e)), by decide⟩
  | tup e _ _ =>
    cases h
    refine ⟨?_, by decide⟩
    rcases same_sqT w.same e with (e | ⟨o, e⟩) | ⟨o, its, n, e, c, _⟩
    · exact .base (.tup e)
    · exact .fTuple e
    · exact .kTuple e c
  | dct e => cases h; exact ⟨.base (.dK (w.sub _ _ e)), by decide⟩
  | exc _ _ => cases h
  | scr _ _ => cases h
  | ref p =>
    have h' : (match M p with | some (.lst _) => some "list" | _ => none) = some t := h
    cases e : M p with
    | none => rw [e] at h'; cases h'
    | some m =>
      cases m with
      | lst ds =>
        rw [e] at h'; cases h'
        obtain ⟨_, vs, hv, _⟩ := w.mu p _ e
        exact ⟨.base (.lst hv), by decide⟩
      | ins _ _ => rw [e] at h'; cases h'
      | town => rw [e] at h'; cases h'
end
section
variable {X : Cx} {F0 : Fz} {a : Expr} {fa : ZE} {p p2 pos : Pos}
theorem ze_isi {x : Str} {T : String} (ha : PE X a (UE X F0 fa)) (hm : X.mg "isinstance" = none) (hm2 : X.mg x = none) (hv2 : bootBuiltins x = some (.type T)) (hk : ["NoneType", "bool", "int", "str", "list", "tuple", "dict"].all (fun t => kitB t T == some (isiB t T)) = true := by decide +kernel)
    (hg : Gl X "isinstance" := by rfl) (hg2 : Gl X x := by rfl) (hn2 : x ≠ "__name__" := by decide) (hd2 : (x == ("__debug__" : Str)) = false := by decide)
    (he : starEach [a, .Name x p2] X.env = (false, eval a X.env) :: starEach [.Name x p2] X.env := by rfl) (he2 : starEach [.Name x p2] X.env = (false, eval (.Name x p2) X.env) :: starEach [] X.env := by rfl) (hpl : (backTo pos (starEach [.Name x p2] X.env)).any (·.1) = false := by rfl) :
    PE X (.Call (.Name "isinstance" p) [a, .Name x p2] [] pos) (UE X F0 (z1 (dIsi T) fa)) := by
  refine pe_imp (pe_callB call_isi hg hm (by decide +kernel) (pa_cons ha (pa_cons (pe_bltn (v := .ty T) hg2 hm2 hv2 rfl hn2 hd2) pa_nil he2) he) (by decide) (by decide) he hpl) fun s H Q h => ?_
  obtain ⟨F, rr, M, R, s0, w, e, h, k⟩ := h
  refine ⟨F, rr, M, _, s0, w, e, h, fun d M1 h1 F1 H1 v s1 w1 r1 => ?_⟩
  unfold dIsi at h1
  cases q : tyD M1 d with
  | none => rw [q] at h1; exact h1.elim
  | some t =>
    rw [q] at h1
    obtain ⟨tx, tm⟩ := tyX_of w1 r1 q
    refine ⟨v, .ty T, .type t, .type T, isiB t T, rfl, .ty T, tx, kit_ty ?_, k _ _ h1 _ _ _ s1 w1 (.bl _)⟩
    exact beq_iff_eq.mp (List.all_eq_true.mp hk t tm)
end
section
variable {K : PySem.W.Frag} {mg : Str → Option Value}
def dSum (ds : List D) (M : Mh) (Q : QZ) : Prop := match ds with
  | [x] => zL M x fun l => ∃ ns : List Int, l = ns.map D.int ∧ Q (.int ns.sum) M
  | _ => False
theorem snd_sum : SndA K mg (rSum K) dSum := by
  intro F H M xs ds Q R w rl h k
  unfold dSum at h
  split at h
  · cases rl with
    | cons r1 rl =>
      cases rl
      obtain ⟨a, vs, es, rfl, e, l, rl, ns, rfl, h⟩ := zL_out w r1 h
      refine ⟨a, ns, rfl, ?_, k _ _ h _ _ _ (Le.refl F) w (.int _)⟩
      rw [← rl.ints_of]; exact SqL.of e
  · exact h.elim
def dAll (ds : List D) (M : Mh) (Q : QZ) : Prop := match ds with
  | [x] => zL M x fun l => ∃ bs : List Bool, l = bs.map D.bl ∧ Q (.bl (bs.all id)) M
  | _ => False
theorem snd_all : SndA K mg (rAll K) dAll := by
  intro F H M xs ds Q R w rl h k
  unfold dAll at h
  split at h
  · cases rl with
    | cons r1 rl =>
      cases rl
      obtain ⟨a, vs, es, rfl, e, l, rl, ns, rfl, h⟩ := zL_out w r1 h
      refine ⟨a, ns, rfl, ?_, k _ _ h _ _ _ (Le.refl F) w (.bl _)⟩
      rw [← rl.bls_of]; exact SqL.of e
  · exact h.elim
def dMaxL (ds : List D) (M : Mh) (Q : QZ) : Prop := match ds with
  | [.int i, .int j] => Q (.int (if j > i then j else i)) M
  | [x] => zL M x fun l => ∃ ns : List Int, l = ns.map D.int ∧ 0 < ns.length ∧ ∀ m, m ∈ ns → (∀ y, y ∈ ns → y ≤ m) → Q (.int m) M
  | _ => False
def dMinL (ds : List D) (M : Mh) (Q : QZ) : Prop := match ds with
  | [.int i, .int j] => Q (.int (if j < i then j else i)) M
  | [x] => zL M x fun l => ∃ ns : List Int, l = ns.map D.int ∧ 0 < ns.length ∧ ∀ m, m ∈ ns → (∀ y, y ∈ ns → m ≤ y) → Q (.int m) M
  | _ => False
theorem snd_max : SndA K mg (fun xs H Q => (∃ i j, xs = [.int i, .int j] ∧ Q (.int (if j > i then j else i)) H) ∨ rMax K xs H Q) dMaxL := by
  intro F H M xs ds Q R w rl h k
  unfold dMaxL at h
  split at h
  · cases rl with
    | cons r1 rl =>
      cases rl with
      | cons r2 rl => cases rl; cases r1; cases r2; exact .inl ⟨_, _, rfl, k _ _ h _ _ _ (Le.refl F) w (.int _)⟩
  · cases rl with
    | cons r1 rl =>
      cases rl
      obtain ⟨a, vs, es, rfl, e, l, rl, ns, rfl, h1, h⟩ := zL_out w r1 h
      refine .inr ⟨a, ns, rfl, ?_, h1, fun m hm hy => k _ _ (h m hm hy) _ _ _ (Le.refl F) w (.int _)⟩
      rw [← rl.ints_of]; exact SqL.of e
  · exact h.elim
theorem snd_min : SndA K mg (fun xs H Q => (∃ i j, xs = [.int i, .int j] ∧ Q (.int (if j < i then j else i)) H) ∨ rMin K xs H Q) dMinL := by
  intro F H M xs ds Q R w rl h k
  unfold dMinL at h
  split at h
  · cases rl with
    | cons r1 rl =>
      cases rl with
      | cons r2 rl => cases rl; cases r1; cases r2; exact .inl ⟨_, _, rfl, k _ _ h _ _ _ (Le.refl F) w (.int _)⟩
  · cases rl with
    | cons r1 rl =>
      cases rl
      obtain ⟨a, vs, es, rfl, e, l, rl, ns, rfl, h1, h⟩ := zL_out w r1 h
      refine .inr ⟨a, ns, rfl, ?_, h1, fun m hm hy => k _ _ (h m hm hy) _ _ _ (Le.refl F) w (.int _)⟩
      rw [← rl.ints_of]; exact SqL.of e
  · exact h.elim
/-- list(x) -/
def dList (b : Bool) (ds : List D) (M : Mh) (Q : QZ) : Prop := match ds with
  | [x] => zLT M x fun l => zNew b l M Q
  | _ => False
theorem snd_list (b : Bool) : SndA K mg (fun xs H Q => ∃ p ys, xs = [.ref p] ∧ (SqL K H p ys ∨ SqT K H p ys) ∧ ∀ l, H l = none → Q (.ref l) (upd H l (.lst ys))) (dList b) := by
  intro F H M xs ds Q R w rl h k
  unfold dList at h
  split at h
  · cases rl with
    | cons r1 rl =>
      cases rl
      obtain ⟨a, vs, es, rfl, e, l, rl, h⟩ := zLT_out w r1 h
      exact ⟨a, vs, rfl, e, zNew_out w l rl h k⟩
  · exact h.elim
/-- tuple(x) -/
def dTuple (ds : List D) (M : Mh) (Q : QZ) : Prop := match ds with
  | [x] => zLT M x fun l => Q (.tup l) M
  | _ => False
theorem snd_tuple : SndA K mg (fun xs H Q => ∃ p ys, xs = [.ref p] ∧ ((SqL K H p ys ∧ ∀ l, H l = none → Q (.ref l) (upd H l (.tup ys))) ∨ (SqT K H p ys ∧ Q (.ref p) H))) dTuple := by
  intro F H M xs ds Q R w rl h k
  unfold dTuple at h
  split at h
  · cases rl with
    | cons r1 rl =>
      cases rl
      rename_i x v
      have gen : ∀ {a : Addr} {vs : List V} {es : List D}, v = .ref a → SqL K H a vs → vs.length ≤ sizeLine → RepL K mg F vs es → R (.tup es) M → ∃ p ys, [v] = [V.ref p] ∧ ((SqL K H p ys ∧ ∀ l, H l = none → Q (.ref l) (upd H l (.tup ys))) ∨ (SqT K H p ys ∧ Q (.ref p) H)) :=
        fun {a vs es} e1 e2 l rl h => ⟨a, vs, by rw [e1], .inl ⟨e2, zTup_out w l rl h k⟩⟩
      cases x with
      | tup es =>
        cases r1 with
        | tup e l rl => exact ⟨_, _, rfl, .inr ⟨same_sqT w.same e, k _ _ h _ _ _ (Le.refl F) w (.tup e l rl)⟩⟩
      | lst es =>
        cases r1 with
        | lst e l rl => exact gen rfl (SqL.of (w.sub _ _ e)) l rl h
      | ref q =>
        obtain ⟨a, vs, es, e1, e2, l, rl, h⟩ := zL_out (d := .ref q) w r1 h
        exact gen e1 (SqL.of e2) l rl h
      | _ => exact h.elim
  · exact h.elim
def dDivmod (ds : List D) (M : Mh) (Q : QZ) : Prop := match ds with
  | [.int i, .int j] => CDiv i j ∧ Q (.tup [.int (i / j), .int (i % j)]) M
  | _ => False
theorem snd_divmod : SndA K mg (fun xs H Q => ∃ i j, xs = [.int i, .int j] ∧ CDiv i j ∧ ∀ p, H p = none → Q (.ref p) (upd H p (.tup [.int (i / j), .int (i % j)]))) dDivmod := by
  intro F H M xs ds Q R w rl h k
  unfold dDivmod at h
  split at h
  · cases rl with
    | cons r1 rl =>
      cases rl with
      | cons r2 rl =>
        cases rl; cases r1; cases r2
        exact ⟨_, _, rfl, h.1, zTup_out w (by show 2 ≤ sizeLine; decide) (.cons (.int _) (.cons (.int _) .nil)) h.2 k⟩
  · exact h.elim
def dAbs (ds : List D) (M : Mh) (Q : QZ) : Prop := match ds with
  | [.int i] => Q (.int (if i < 0 then -i else i)) M
  | _ => False
theorem snd_abs : SndA K mg (fun xs H Q => ∃ i, xs = [.int i] ∧ Q (.int (if i < 0 then -i else i)) H) dAbs := by
  intro F H M xs ds Q R w rl h k
  unfold dAbs at h
  split at h
  · cases rl with
    | cons r1 rl => cases rl; cases r1; exact ⟨_, rfl, k _ _ h _ _ _ (Le.refl F) w (.int _)⟩
  · exact h.elim
/-- sorted(x) of ints -/
def dSorted (b : Bool) (ds : List D) (M : Mh) (Q : QZ) : Prop := match ds with
  | [x] => zL M x fun l => ∃ ns : List Int, l = ns.map D.int ∧ ∀ ns' : List Int, ns'.Perm ns → ns'.Pairwise (· ≤ ·) → zNew b (ns'.map D.int) M Q
  | _ => False
theorem snd_sorted (b : Bool) : SndA K mg (rSortedI K) (dSorted b) := by
  intro F H M xs ds Q R w rl h k
  unfold dSorted at h
  split at h
  · cases rl with
    | cons r1 rl =>
      cases rl
      obtain ⟨a, vs, es, rfl, e, l, rl, ns, rfl, h⟩ := zL_out w r1 h
      have hv := rl.ints_of
      subst hv
      refine ⟨a, ns, rfl, SqL.of e, fun ns' p hp hs hn => zNew_out w ?_ (RepL.ints ns') (h ns' hp hs) k p hn⟩
      rw [List.length_map, hp.length_eq]; rw [List.length_map] at l; exact l
  · exact h.elim
end
/-! ### methods of lists -/
section
variable {X : Cx} {F0 : Fz} {o a : Expr} {fo : ZE} {t : ZA} {apos cpos : Pos}
def zApp (o : ZE) (t : ZA) : ZE := fun r M Q => o r M fun x M1 => match x with
  | .ref p => t r M1 fun ds M2 => (match M2 p, ds with | some (.lst l), [d] => l.length < sizeLine ∧ Q .non (mup M2 p (.lst (l ++ [d]))) | _, _ => False) ∧ ∃ l, M1 p = some (.lst l)
  | _ => False
end
end Zl

/-! Zl7: methods of lists and tuples; the town -/
namespace Zl
open PySem L2
section
variable {K : PySem.W.Frag} {mg : Str → Option Value} {F : Fz} {H : Hp} {M : Mh}
theorem tyV_list {v : V} {d : D} (w : Wd K mg F H M) (r : Rep K mg F v d) (h : tyD M d = some "list") : tyV K "list" v H := by
  cases r with
  | lst e _ _ => exact .inl ⟨rfl, _, SqL.of (w.sub _ _ e)⟩
  | ref p =>
    have h' : (match M p with | some (.lst _) => some "list" | _ => none) = some "list" := h
    cases e : M p with
    | none => rw [e] at h'; cases h'
    | some m =>
      cases m with
      | lst ds =>
        obtain ⟨_, vs, hv, _⟩ := w.mu p _ e
        exact .inl ⟨rfl, _, SqL.of hv⟩
      | ins _ _ => rw [e] at h'; cases h'
      | town => rw [e] at h'; cases h'
  | _ => exact absurd h (by simp [tyD])
theorem tyV_str {v : V} {d : D} (r : Rep K mg F v d) (h : tyD M d = some "str") : tyV K "str" v H := by
  cases r with
  | str _ _ => rfl
  | ref p =>
    have h' : (match M p with | some (.lst _) => some "list" | _ => none) = some "str" := h
    split at h'
    · exact absurd (Option.some.inj h') (by decide)
    · cases h'
  | _ => exact absurd h (by simp [tyD])
end
/-- a method's soundness, by values -/
def SndM (K : PySem.W.Frag) (mg : Str → Option Value) (r : V → List V → Hp → VK → Prop) (f : D → List D → Mh → QZ → Prop) : Prop := ∀ (F : Fz) (H : Hp) (M : Mh) (x : V) (xs : List V) (d : D) (ds : List D) (Q : VK) (R : QZ), Wd K mg F H M → Rep K mg F x d → RepL K mg F xs ds → f d ds M R → Kq K mg F R Q → r x xs H Q
def zM (T : String) (f : D → List D → Mh → QZ → Prop) (o : ZE) (t : ZA) : ZE := fun r M Q => o r M fun x M1 => tyD M1 x = some T ∧ t r M1 fun ds M2 => f x ds M2 Q
section
variable {X : Cx} {F0 : Fz} {o a : Expr} {es : List Expr} {fo : ZE} {t : ZA} {apos cpos : Pos} {name : Str} {id : String} {r : V → List V → Hp → VK → Prop} {f : D → List D → Mh → QZ → Prop}
theorem ze_mL (pa : PlainAttrs "list") (slot : Slot "list" name id) (hty : typeOf (.builtin id) = pure (.type "method_descriptor")) (hm : MtR X id r) (sm : SndM X.K X.mg r f) (ho : PE X o (UE X F0 fo)) (ha : PA X (a :: es) (UA X F0 t))
    (hbase : attributeBase o name X.env (eval o X.env) = eval o X.env := by rfl)
    (hfew : ((backTo cpos (starEach (a :: es) X.env)).all (fun x => !x.1) && (backToKw cpos (keywordEach [] X.env)).all (fun x => x.1.isSome)
      && decide ((a :: es).length + ([] : List Keyword).length + (if ([] : List Keyword).isEmpty then 0 else 1) < 30)) = true := by rfl)
    (hline : (apos.endLine == cpos.line) = true := by rfl) (hs : starEach (a :: es) X.env = (false, eval a X.env) :: starEach es X.env := by rfl) (hplain : (backTo cpos (starEach es X.env)).any (·.1) = false := by rfl) :
    PE X (.Call (.Attribute o name apos) (a :: es) [] cpos) (UE X F0 (zM "list" f fo t)) := pe_imp (pe_bm pa slot hty hm ho ha hbase hfew hline hs hplain) fun s H Q h => by
  obtain ⟨F, rr, M, R, s0, w, e, h, k⟩ := h
  refine ⟨F, rr, M, _, s0, w, e, h, fun x M1 h1 F1 H1 v s1 w1 r1 => ⟨tyV_list w1 r1 h1.1, F1, rr, M1, _, s0.trans s1, w1, e.mono s1, h1.2, fun ds M2 h2 F2 H2 vs s2 w2 r2 => ?_⟩⟩
  exact sm F2 H2 M2 v vs x ds Q R w2 (r1.mono s2) r2 h2 (k.mono (s1.trans s2))
theorem ze_mS (pa : PlainAttrs "str") (slot : Slot "str" name id) (hty : typeOf (.builtin id) = pure (.type "method_descriptor")) (hm : MtR X id r) (sm : SndM X.K X.mg r f) (ho : PE X o (UE X F0 fo)) (ha : PA X (a :: es) (UA X F0 t))
    (hbase : attributeBase o name X.env (eval o X.env) = eval o X.env := by rfl)
    (hfew : ((backTo cpos (starEach (a :: es) X.env)).all (fun x => !x.1) && (backToKw cpos (keywordEach [] X.env)).all (fun x => x.1.isSome)
      && decide ((a :: es).length + ([] : List Keyword).length + (if ([] : List Keyword).isEmpty then 0 else 1) < 30)) = true := by rfl)
    (hline : (apos.endLine == cpos.line) = true := by rfl) (hs : starEach (a :: es) X.env = (false, eval a X.env) :: starEach es X.env := by rfl) (hplain : (backTo cpos (starEach es X.env)).any (·.1) = false := by rfl) :
    PE X (.Call (.Attribute o name apos) (a :: es) [] cpos) (UE X F0 (zM "str" f fo t)) := pe_imp (pe_bm pa slot hty hm ho ha hbase hfew hline hs hplain) fun s H Q h => by
  obtain ⟨F, rr, M, R, s0, w, e, h, k⟩ := h
  refine ⟨F, rr, M, _, s0, w, e, h, fun x M1 h1 F1 H1 v s1 w1 r1 => ⟨tyV_str r1 h1.1, F1, rr, M1, _, s0.trans s1, w1, e.mono s1, h1.2, fun ds M2 h2 F2 H2 vs s2 w2 r2 => ?_⟩⟩
  exact sm F2 H2 M2 v vs x ds Q R w2 (r1.mono s2) r2 h2 (k.mono (s1.trans s2))
end
section
variable {K : PySem.W.Frag} {mg : Str → Option Value}
/-- a changing list and what it holds -/
def zR (M : Mh) (d : D) (k : Addr → List D → Prop) : Prop := match d with
  | .ref p => (match M p with | some (.lst ds) => k p ds | _ => False)
  | _ => False
theorem zR_ref {M : Mh} {p : Addr} {ds : List D} {k : Addr → List D → Prop} (h : M p = some (.lst ds)) : zR M (.ref p) k = k p ds := by
  show (match M p with | some (.lst ds) => k p ds | _ => False) = _
  rw [h]
theorem zR_out {F : Fz} {H : Hp} {M : Mh} {d : D} {k : Addr → List D → Prop} {v : V} (w : Wd K mg F H M) (r : Rep K mg F v d) (h : zR M d k) : ∃ p vs ds, v = .ref p ∧ M p = some (.lst ds) ∧ H p = some (.lst vs) ∧ vs.length ≤ sizeLine ∧ RepL K mg F vs ds ∧ k p ds := by
  cases d with
  | ref p =>
    cases r
    have h' : (match M p with | some (.lst ds) => k p ds | _ => False) := h
    cases e : M p with
    | none => rw [e] at h'; exact h'.elim
    | some m =>
      cases m with
      | lst ds =>
        rw [e] at h'
        obtain ⟨_, vs, hv, l, q⟩ := w.mu p _ e
        exact ⟨p, vs, ds, rfl, e, hv, l, q, h'⟩
      | ins _ _ => rw [e] at h'; exact h'.elim
      | town => rw [e] at h'; exact h'.elim
  | _ => exact h.elim
def dApp (x : D) (ds : List D) (M : Mh) (Q : QZ) : Prop := match ds with
  | [d] => zR M x fun p l => l.length < sizeLine ∧ Q .non (mup M p (.lst (l ++ [d])))
  | _ => False
theorem snd_app : SndM K mg rAppend dApp := by
  intro F H M x xs d ds Q R w r rl h k
  unfold dApp at h
  split at h
  · cases rl with
    | cons r1 rl =>
      cases rl
      obtain ⟨p, vs, es, rfl, e0, e, l, q, h1, h2⟩ := zR_out w r h
      refine ⟨p, vs, _, rfl, rfl, e, by rw [q.length]; exact h1, k _ _ h2 F _ _ (Le.refl F) (w.write e0 (by intro z; cases z) (by intro z; cases z) ⟨_, upd_same, ?_, q.append (.cons r1 .nil)⟩) .non⟩
      rw [List.length_append, q.length]; exact h1
  · exact h.elim
def dExt (x : D) (ds : List D) (M : Mh) (Q : QZ) : Prop := match ds with
  | [d] => zR M x fun p l => zL M d fun m => l.length + m.length ≤ sizeLine ∧ Q .non (mup M p (.lst (l ++ m)))
  | _ => False
theorem snd_ext : SndM K mg rExtend dExt := by
  intro F H M x xs d ds Q R w r rl h k
  unfold dExt at h
  split at h
  · cases rl with
    | cons r1 rl =>
      cases rl
      obtain ⟨p, vs, es, rfl, e0, e, l, q, h⟩ := zR_out w r h
      obtain ⟨b, us, fs, rfl, e', l', q', h1, h2⟩ := zL_out w r1 h
      have hl : vs.length + us.length ≤ sizeLine := by rw [q.length, q'.length]; exact h1
      refine ⟨p, b, vs, us, rfl, rfl, e, e', hl, k _ _ h2 F _ _ (Le.refl F) (w.write e0 (by intro z; cases z) (by intro z; cases z) ⟨_, upd_same, ?_, q.append q'⟩) .non⟩
      rw [List.length_append]; exact hl
  · exact h.elim
def dPopAt (x : D) (ds : List D) (M : Mh) (Q : QZ) : Prop := match ds with
  | [.int i] => -(2 ^ 63) ≤ i ∧ i < 2 ^ 63 ∧ zR M x fun p l => match ixN l.length i with
    | some j => (match l[j]? with | some y => Q y (mup M p (.lst (l.eraseIdx j))) | none => False)
    | none => False
  | _ => False
theorem snd_popAt : SndM K mg rPopAt dPopAt := by
  intro F H M x xs d ds Q R w r rl h k
  unfold dPopAt at h
  split at h
  · cases rl with
    | cons r1 rl =>
      cases rl; cases r1
      obtain ⟨b1, b2, h⟩ := h
      obtain ⟨p, vs, es, rfl, e0, e, l, q, h⟩ := zR_out w r h
      split at h
      · rename_i j hj
        split at h
        · rename_i y hy
          obtain ⟨v, hv, rv⟩ := q.get hy
          refine ⟨p, vs, _, j, v, rfl, rfl, e, b1, b2, by rw [q.length]; exact (ixN_seq hj).1, hv, k _ _ h F _ _ (Le.refl F) (w.write e0 (by intro z; cases z) (by intro z; cases z) ⟨_, upd_same, ?_, q.eraseIdx j⟩) rv⟩
          exact Nat.le_trans (List.length_eraseIdx_le _ _) l
        · exact h.elim
      · exact h.elim
  · exact h.elim
/-- the first place of y -/
def idxD (y : D) : List D → Option Nat
  | [] => none
  | d :: r => if eqD d y then some 0 else (idxD y r).map (· + 1)
theorem idxD_get {F : Fz} {v : V} {y : D} (ry : Rep K mg F v y) (fy : flatD y = true) : ∀ {vs : List V} {ds : List D} {j : Nat}, RepL K mg F vs ds → ds.all flatD = true → idxD y ds = some j → (∃ z, vs[j]? = some z ∧ eqV z v = true) ∧ ∀ (m : Nat) (z : V), m < j → vs[m]? = some z → eqV z v = false
  | _, _, _, .nil, _, h => by cases h
  | _, _, j, .cons r t, q, h => by
    rw [List.all_cons, Bool.and_eq_true] at q
    unfold idxD at h
    split at h
    · rename_i e
      cases h
      exact ⟨⟨_, rfl, by rw [eqV_of r ry q.1 fy]; exact e⟩, fun m z hm => absurd hm (Nat.not_lt_zero _)⟩
    · rename_i e
      obtain ⟨i, hi, ej⟩ := Option.map_eq_some_iff.mp h
      subst ej
      obtain ⟨⟨z, h1, h2⟩, h3⟩ := idxD_get ry fy t q.2 hi
      refine ⟨⟨z, by simpa using h1, h2⟩, fun m z' hm hz => ?_⟩
      cases m with
      | zero =>
        cases hz
        rw [eqV_of r ry q.1 fy]; simpa using e
      | succ m => exact h3 m z' (by omega) (by simpa using hz)
def dIndex (x : D) (ds : List D) (M : Mh) (Q : QZ) : Prop := match ds with
  | [y] => zL M x fun l => flatD y = true ∧ l.all flatD = true ∧ (match idxD y l with | some j => Q (.int (j : Nat)) M | none => False)
  | _ => False
theorem snd_index : SndM K mg (rIndex K) dIndex := by
  intro F H M x xs d ds Q R w r rl h k
  unfold dIndex at h
  split at h
  · cases rl with
    | cons r1 rl =>
      cases rl
      obtain ⟨p, vs, es, rfl, e, l, q, h1, h2, h⟩ := zL_out w r h
      split at h
      · rename_i j hj
        obtain ⟨⟨z, a1, a2⟩, a3⟩ := idxD_get r1 h1 q h2 hj
        exact ⟨p, vs, _, j, z, rfl, rfl, SqL.of e, flat_of r1 h1, flats_of q h2, a1, a2, a3, k _ _ h _ _ _ (Le.refl F) w (.int _)⟩
      · exact h.elim
  · exact h.elim
def cntD (y : D) (l : List D) : Nat := l.countP fun d => eqD d y
def dCount (x : D) (ds : List D) (M : Mh) (Q : QZ) : Prop := match ds with
  | [y] => zL M x fun l => flatD y = true ∧ l.all flatD = true ∧ Q (.int (cntD y l : Nat)) M
  | _ => False
def rCountZ (K : PySem.W.Frag) : V → List V → Hp → VK → Prop := fun x xs H Q => ∃ (p : Addr) (ys : List V) (y : V), x = .ref p ∧ xs = [y] ∧ SqL K H p ys ∧ flatV y = true ∧ ys.all flatV = true ∧ Q (.int (ys.countP fun z => eqV z y : Nat)) H
theorem countP_eqU {y : V} : ∀ {ys : List V} {us : List Value}, Vals ys us → ys.all flatV = true → us.countP (eqU y) = ys.countP fun z => eqV z y
  | _, _, .nil, _ => rfl
  | _, _, .cons r t, h => by
    rw [List.all_cons, Bool.and_eq_true] at h
    rw [List.countP_cons, List.countP_cons, countP_eqU t h.2, eqU_of r h.1]
theorem mt_countZ {X : Cx} : MtR X "list.count" (rCountZ X.K) := by
  intro pins s r H x xs v us Q I rx rxs h
  obtain ⟨p, ys, y, rfl, rfl, hs, fy, fys, q⟩ := h
  cases rx
  obtain ⟨u, rfl, ru⟩ := rxs.one
  obtain ⟨its, rv, ⟨⟨cls, dd, data, sl⟩, n, ho, hc, hdn, hd⟩, hlen⟩ := I.list hs
  simp only at hc hd
  subst hc hd
  have ec := countP_eqU (y := y) rv fys
  refine call_meets PySem.F.slot_list_count ⟨_, ho, rfl⟩ PySem.F.entry_list_count (PySem.F.args_list_count_2 _ _) (SeqAt.list_countAt p its.toArray n dd sl u (eqU y)) ⟨ho, fun z hz => mem_eqAt ru fy rv fys z (by simpa using hz), ?_⟩
  refine ⟨.int (ys.countP fun z => eqV z y : Nat), H, I.tok _, ⟨s.toks, ?_⟩, q⟩
  show Value.int ((its.toArray.toList.countP (eqU y) : Nat) : Int) s.toks = _
  rw [show its.toArray.toList = its from rfl, ec]
theorem cnt_of {F : Fz} {v : V} {y : D} (ry : Rep K mg F v y) (fy : flatD y = true) : ∀ {vs : List V} {ds : List D}, RepL K mg F vs ds → ds.all flatD = true → (vs.countP fun z => eqV z v) = cntD y ds
  | _, _, .nil, _ => rfl
  | _, _, .cons r t, q => by
    rw [List.all_cons, Bool.and_eq_true] at q
    have ih := cnt_of ry fy t q.2
    unfold cntD at *
    rw [List.countP_cons, List.countP_cons, ih, eqV_of r ry q.1 fy]
theorem snd_count : SndM K mg (rCountZ K) dCount := by
  intro F H M x xs d ds Q R w r rl h k
  unfold dCount at h
  split at h
  · cases rl with
    | cons r1 rl =>
      cases rl
      obtain ⟨p, vs, es, rfl, e, l, q, h1, h2, h⟩ := zL_out w r h
      refine ⟨p, vs, _, rfl, rfl, SqL.of e, flat_of r1 h1, flats_of q h2, ?_⟩
      rw [cnt_of r1 h1 q h2]
      exact k _ _ h _ _ _ (Le.refl F) w (.int _)
  · exact h.elim
end
/-! ### a written tuple -/
/-- the written tuple at a holds vs -/
def KTup (K : PySem.W.Frag) (a : Addr) (vs : List V) : Prop := ∃ (o : Obj) (its : Array Value) (n : Nat), K.lookup a = some o ∧ o.cls = .type "tuple" ∧ o.dict = none ∧ o.data = .seq its n ∧ its.size ≤ sizeLine ∧ Vals vs its.toList
theorem KTup.sq {K : PySem.W.Frag} {a : Addr} {vs : List V} (h : KTup K a vs) (H : Hp) : SqT K H a vs := by
  obtain ⟨o, its, n, h1, h2, h3, h4, h5, h6⟩ := h
  exact .inr ⟨o, its, n, h1, h2, h4, h5, h6⟩
theorem KTup.len {K : PySem.W.Frag} {a : Addr} {vs : List V} (h : KTup K a vs) : vs.length ≤ sizeLine := by
  obtain ⟨o, its, n, h1, h2, h3, h4, h5, h6⟩ := h
  rw [h6.length, Array.length_toList]; exact h5
theorem ktup_rep {K : PySem.W.Frag} {mg : Str → Option Value} {a : Addr} {vs : List V} {ds : List D} (h : KTup K a vs) (r : ∀ F, RepL K mg F vs ds) (F : Fz) : Rep K mg F (.ref a) (.tup ds) := .tup (h.sq F.f) h.len (r F)
def rTIdx (K : PySem.W.Frag) : V → List V → Hp → VK → Prop := fun x xs H Q => ∃ (a : Addr) (ys : List V) (y : V) (j : Nat) (z : V), x = V.ref a ∧ xs = [y] ∧ SqT K H a ys ∧ flatV y = true ∧ ys.all flatV = true ∧ ys[j]? = some z ∧ eqV z y = true ∧ (∀ (m : Nat) (z' : V), m < j → ys[m]? = some z' → eqV z' y = false) ∧ Q (.int (j : Nat)) H
theorem mt_tidx {X : Cx} : MtR X "tuple.index" (rTIdx X.K) := by
  intro pins s r H x xs v us Q I rx rxs h
  obtain ⟨a, ys, y, j, z, rfl, rfl, hs, fy, fys, hz, hzj, hno, q⟩ := h
  cases rx
  obtain ⟨uy, rfl, ry⟩ := rxs.one
  obtain ⟨its, rv, pl, hlen⟩ := I.tuple hs
  obtain ⟨⟨cls, dd, dt, sl⟩, ho, hc, n, hd⟩ := pl
  simp only at hc hd
  subst hc hd
  obtain ⟨u, hu, ru⟩ := rv.get hz
  obtain ⟨hjl, hje⟩ := List.getElem?_eq_some_iff.mp hu
  have hj : j < its.toArray.size := by simpa using hjl
  refine call_meets PySem.F.slot_tuple_index ⟨_, ho, rfl⟩ PySem.F.entry_tuple_index (PySem.F.args_tuple_index_2 _ _) (TI.tuple_indexAt a its.toArray n dd sl uy (eqU y) j hj ?_ ?_)
    ⟨ho, fun u' hu' => mem_eqAt ry fy rv fys u' (by simpa using hu'), ⟨.int (j : Nat), H, I.tok _, ⟨_, rfl⟩, q⟩⟩
  · have e1 : its.toArray[j] = u := by simpa using hje
    rw [e1, eqU_of ru (flat_at fys hz)]
    exact hzj
  · intro m hm hmj
    have hml : m < its.length := by simpa using hm
    have hmy : m < ys.length := by rw [rv.length]; exact hml
    have hy' : ys[m]? = some ys[m] := List.getElem?_eq_getElem hmy
    obtain ⟨u2, hu2, ru2⟩ := rv.get hy'
    have e2 : its.toArray[m] = u2 := by
      have := (List.getElem?_eq_some_iff.mp hu2).2
      simpa using this
    rw [e2, eqU_of ru2 (flat_at fys hy')]
    exact hno m _ hmj hy'
def zTIx (ds : List D) (t : ZA) : ZE := fun r M Q => t r M fun es M1 => match es with
  | [y] => flatD y = true ∧ (match idxD y ds with | some j => Q (.int (j : Nat)) M1 | none => False)
  | _ => False
theorem ze_tidx {X : Cx} {F0 : Fz} {x : Str} {a : Addr} {e : Expr} {vs : List V} {ds : List D} {t : ZA} {p apos cpos : Pos} (hm : X.mg x = some (.ref a)) (hk : KTup X.K a vs) (hr : ∀ F, RepL X.K X.mg F vs ds) (hf : ds.all flatD = true) (ha : PA X [e] (UA X F0 t)) (hg : Gl X x := by rfl)
    (hd : (x == ("__debug__" : Str)) = false := by decide) (hbase : attributeBase (.Name x p) "index" X.env (eval (.Name x p) X.env) = eval (.Name x p) X.env := by rfl)
    (hfew : ((backTo cpos (starEach [e] X.env)).all (fun x => !x.1) && (backToKw cpos (keywordEach [] X.env)).all (fun x => x.1.isSome)
      && decide (([e] : List Expr).length + ([] : List Keyword).length + (if ([] : List Keyword).isEmpty then 0 else 1) < 30)) = true := by rfl)
    (hline : (apos.endLine == cpos.line) = true := by rfl) (hs : starEach [e] X.env = (false, eval e X.env) :: starEach [] X.env := by rfl) (hplain : (backTo cpos (starEach [] X.env)).any (·.1) = false := by rfl) :
    PE X (.Call (.Attribute (.Name x p) "index" apos) [e] [] cpos) (UE X F0 (zTIx ds t)) := pe_imp (pe_bm PySem.F.plainAttrs_tuple PySem.F.slot_tuple_index PySem.F.type_tuple_index mt_tidx (pe_glob (v := .ref a) hg hm rfl hd) ha hbase hfew hline hs hplain) fun s H Q h => by
  obtain ⟨F, rr, M, R, s0, w, e, h, k⟩ := h
  obtain ⟨o, its, n, h1, h2, h3, h4⟩ := id hk
  refine ⟨.inr (.inl ⟨rfl, o, h1, h2, h3⟩), F, rr, M, _, s0, w, e, h, fun es M1 h1 F1 H1 us s1 w1 r1 => ?_⟩
  split at h1
  · cases r1 with
    | cons q1 r1 =>
      cases r1
      obtain ⟨fy, h1⟩ := h1
      split at h1
      · rename_i j hj
        obtain ⟨⟨z, a1, a2⟩, a3⟩ := idxD_get q1 fy (hr F1) hf hj
        exact ⟨a, vs, _, j, z, rfl, rfl, hk.sq H1, flat_of q1 fy, flats_of (hr F1) hf, a1, a2, a3, k _ _ h1 _ _ _ s1 w1 (.int _)⟩
      · exact h1.elim
  · exact h1.elim
end Zl

/-! Zl8: the town of a law, and its draws -/
namespace Zl
open PySem L2
section
variable {K : PySem.W.Frag} {mg : Str → Option Value} {F : Fz} {H : Hp} {M : Mh}
/-- the town laid open: its cells at c -/
def tOpen (M : Mh) (t c : Addr) (n : Int) (cells : List Int) : Mh := mup (mup M c (.lst (cells.map D.int))) t (.lst [.ref c, .int n])
structure TownOk (M : Mh) (t c : Addr) (cells : List Int) : Prop where
  at_ : M t = some .town
  no : M c = none
  ne : cells ≠ []
  len : cells.length ≤ 1000
  one : ∀ t', M t' = some .town → t' = t
theorem TownOk.ct {t c : Addr} {cells : List Int} (h : TownOk M t c cells) : c ≠ t := fun e => by
  have := h.no; rw [e, h.at_] at this; cases this
theorem Wd.town_out {t : Addr} (w : Wd K mg F H M) (ht : M t = some .town) : ∃ c n cells, TownOk M t c cells ∧ Wd K mg F H (tOpen M t c n cells) := by
  obtain ⟨f0, c, n, cells, h1, h2, h3, h3', h4, h5, h6, h7⟩ := w.mu t _ ht
  have T : TownOk M t c cells := ⟨ht, h4, h5, h6, h7⟩
  have hl : (cells.map V.int).length ≤ sizeLine := by rw [List.length_map]; exact Nat.le_of_lt (small1000 h6)
  refine ⟨c, n, cells, T, w.sub, fun a o e => ?_, fun a m e => ?_⟩
  · obtain ⟨q1, q2, q3⟩ := w.un a o e
    refine ⟨q1, q2, ?_⟩
    unfold tOpen
    rw [mup_ne (fun z => by rw [z, ht] at q3; cases q3), mup_ne (fun z => by rw [z, h3'] at e; cases e)]; exact q3
  · unfold tOpen at e
    by_cases hat : a = t
    · subst hat; rw [mup_same] at e; cases e
      exact ⟨f0, [.ref c, .int n], h1, by show 2 ≤ sizeLine; decide, .cons (.ref c) (.cons (.int n) .nil)⟩
    · rw [mup_ne hat] at e
      by_cases hac : a = c
      · subst hac; rw [mup_same] at e; cases e
        exact ⟨h3, _, h2, hl, RepL.ints cells⟩
      · rw [mup_ne hac] at e
        obtain ⟨q1, r⟩ := w.mu a m e
        refine ⟨q1, ?_⟩
        cases m with
        | lst ds => exact r
        | ins x fs => exact r
        | town => exact absurd (h7 a e) hat
theorem Wd.town_in {t c : Addr} {n : Int} {cells cells' : List Int} (T : TownOk M t c cells) (ne : cells' ≠ []) (ln : cells'.length ≤ 1000) (w : Wd K mg F H (tOpen M t c n cells')) : Wd K mg F H M := by
  have ct := T.ct
  have et : tOpen M t c n cells' t = some (.lst [.ref c, .int n]) := by unfold tOpen; exact mup_same
  have ec : tOpen M t c n cells' c = some (.lst (cells'.map D.int)) := by unfold tOpen; rw [mup_ne ct]; exact mup_same
  have ea : ∀ a, a ≠ t → a ≠ c → tOpen M t c n cells' a = M a := fun a h1 h2 => by unfold tOpen; rw [mup_ne h1, mup_ne h2]
  obtain ⟨ft, vt, ht, _, rt⟩ := w.mu t _ et
  obtain ⟨fc, vc, hc, _, rc⟩ := w.mu c _ ec
  have nu : ∀ a o, F.u a = some o → a ≠ t ∧ a ≠ c := fun a o e => by
    obtain ⟨_, _, q⟩ := w.un a o e
    exact ⟨(fun z => by rw [z, et] at q; cases q), (fun z => by rw [z, ec] at q; cases q)⟩
  refine ⟨w.sub, fun a o e => ?_, fun a m e => ?_⟩
  · obtain ⟨q1, q2, q3⟩ := w.un a o e
    obtain ⟨n1, n2⟩ := nu a o e
    exact ⟨q1, q2, by rw [← ea a n1 n2]; exact q3⟩
  · by_cases hat : a = t
    · subst hat
      rw [T.at_] at e; cases e
      have evc : vc = cells'.map V.int := rc.ints_of
      have evt : vt = [.ref c, .int n] := by
        cases rt with
        | cons a1 rt =>
          cases rt with
          | cons a2 rt => cases rt; cases a1; cases a2; rfl
      refine ⟨ft, c, n, cells', by rw [← evt]; exact ht, by rw [← evc]; exact hc, fc, ?_, T.no, ne, ln, T.one⟩
      cases q : F.u c with
      | none => rfl
      | some o => exact absurd rfl (nu c o q).2
    · have hac : a ≠ c := fun z => by rw [z, T.no] at e; cases e
      obtain ⟨q1, r⟩ := w.mu a m (by rw [ea a hat hac]; exact e)
      refine ⟨q1, ?_⟩
      cases m with
      | lst ds => exact r
      | ins x fs => exact r
      | town => exact absurd (T.one a e) hat
/-- a town is made: its list at t holds the cells at c -/
theorem Wd.town_new {t c : Addr} {n : Int} {cells : List Int} (h0 : ∀ t', M t' ≠ some .town) (ne : cells ≠ []) (ln : cells.length ≤ 1000) (hc : H c = none) (ht : upd H c (.lst (cells.map V.int)) t = none) (w : Wd K mg F H M) :
    Wd K mg F (upd (upd H c (.lst (cells.map V.int))) t (.lst [.ref c, .int n])) (mup M t .town) ∧ M t = none := by
  have tc : t ≠ c := fun e => by rw [e, upd_same] at ht; cases ht
  have ht0 : H t = none := by rw [upd_ne tc] at ht; exact ht
  obtain ⟨mt, ft, ut⟩ := w.free ht0
  obtain ⟨mc, fc, uc⟩ := w.free hc
  have hh : ∀ a, a ≠ t → a ≠ c → upd (upd H c (.lst (cells.map V.int))) t (.lst [.ref c, .int n]) a = H a := fun a h1 h2 => by rw [upd_ne h1, upd_ne h2]
  refine ⟨⟨fun a o e => ?_, fun a o e => ?_, fun a m e => ?_⟩, mt⟩
  · rw [hh a (fun z => by rw [z, ft] at e; cases e) (fun z => by rw [z, fc] at e; cases e)]; exact w.sub a o e
  · obtain ⟨q1, q2, q3⟩ := w.un a o e
    have n1 : a ≠ t := fun z => by rw [z, ut] at e; cases e
    exact ⟨by rw [hh a n1 (fun z => by rw [z, uc] at e; cases e)]; exact q1, q2, by rw [mup_ne n1]; exact q3⟩
  · by_cases hat : a = t
    · subst hat; rw [mup_same] at e; cases e
      refine ⟨ft, c, n, cells, upd_same, by rw [upd_ne tc.symm]; exact upd_same, fc, uc, by rw [mup_ne tc.symm]; exact mc, ne, ln, fun t' e' => ?_⟩
      by_cases h : t' = a
      · exact h
      · rw [mup_ne h] at e'; exact absurd e' (h0 t')
    · rw [mup_ne hat] at e
      obtain ⟨q1, r⟩ := w.mu a m e
      have hac : a ≠ c := ne_of_m e mc
      refine ⟨q1, ?_⟩
      cases m with
      | lst ds => obtain ⟨vs, h, l, q⟩ := r; exact ⟨vs, (hh a hat hac).trans h, l, q⟩
      | ins x fs => obtain ⟨C, dx, vs, h1, h, q⟩ := r; exact ⟨C, dx, vs, h1, (hh a hat hac).trans h, q⟩
      | town => exact absurd e (h0 a)
end
theorem cx_no {P : Program} {w : World} {H : Hp} {s s' : Shared} {e : Value} (h : L2.CX P w [] H s (fun _ _ _ => False) e s') : False := by
  obtain ⟨_, _, _, _, _, _, _, _, _, _, _, _, z⟩ := h
  exact z
theorem vals_of_abs : ∀ {us : List Value} {vs : List V}, us.map absV = vs.map some → Vals vs us
  | [], [], _ => .nil
  | u :: us, v :: vs, h => by
    rw [List.map_cons, List.map_cons] at h
    injection h with h1 h2
    refine .cons ?_ (vals_of_abs h2)
    cases u <;> cases h1 <;> first | rfl | exact ⟨_, rfl⟩
theorem ktup_mk {K : PySem.W.Frag} {a : Addr} {ci : List Value} {n : Nat} {sl : Array (Option Value)} {vs : List V} (l : K.lookup a = some ⟨.type "tuple", none, .seq ci.toArray n, sl⟩) (h : ci.map absV = vs.map some) (hl : ci.length ≤ sizeLine) : KTup K a vs :=
  ⟨_, _, n, l, rfl, rfl, rfl, by rw [List.size_toArray]; exact hl, by simpa using vals_of_abs h⟩
end Zl

/-! Zl9: own classes, caught exceptions -/
namespace Zl
open PySem L2
/-! ### instances -/
/-- a field stored -/
def putD (f : Str) (d : D) : List (Str × D) → List (Str × D)
  | [] => [(f, d)]
  | (g, x) :: r => if g = f then (g, d) :: r else (g, x) :: putD f d r
def onIns (M : Mh) (c : Str) (d : D) (k : Addr → List (Str × D) → Prop) : Prop := match d with
  | .ref p => (match M p with | some (.ins c' fs) => c' = c ∧ k p fs | _ => False)
  | _ => False
def onFd (fs : List (Str × D)) (f : Str) (k : D → Prop) : Prop := match fs.lookup f with | some d => k d | none => False
def zFld (c f : Str) (a : ZE) : ZE := fun r M Q => a r M fun d M1 => onIns M1 c d fun _ fs => onFd fs f fun v => Q v M1
def zSetA (c f : Str) (a v : ZE) : ZS := fun E r M => v r M fun y M1 => a r M1 fun d M2 => onIns M2 c d fun p fs => fs.length < 1000 ∧ E.nx r (mup M2 p (.ins c (putD f y fs)))
def zMeth (c m : Str) (zs : ZSp) (zE : ZW) (a : ZE) (t : ZA) : ZE := fun r M Q => a r M fun d M1 => onIns M1 c d fun p fs => fs.lookup m = none ∧ t r M1 fun ds M2 => zs (.ref p :: ds) M2 Q fun c fs M' => zE c fs r M'
def zMake (c : Str) (zs : ZSp) (zE : ZW) (t : ZA) : ZE := fun r M Q => t r M fun ds M1 => ∀ p, M1 p = none → zs (.ref p :: ds) (mup M1 p (.ins c [])) (fun d M2 => d = .non ∧ Q (.ref p) M2) fun c fs M' => zE c fs r M'
section
variable {K : PySem.W.Frag} {mg : Str → Option Value} {F : Fz} {H : Hp} {M : Mh}
theorem lookup_rep : ∀ {fs : List (Str × D)} {vs : List V} {f : Str} {d : D}, RepL K mg F vs (fs.map (·.2)) → fs.lookup f = some d → ∃ v, (List.zip (fs.map (·.1)) vs).lookup f = some v ∧ Rep K mg F v d
  | [], _, _, _, _, h => by cases h
  | (g, x) :: r, vs, f, d, q, h => by
    cases q with
    | cons q1 q2 =>
      rename_i v vs'
      show ∃ w, List.lookup f ((g, v) :: List.zip (r.map (·.1)) vs') = some w ∧ _
      by_cases e : f = g
      · have hb : (f == g) = true := beq_iff_eq.mpr e
        simp only [List.lookup, hb] at h ⊢
        cases h
        exact ⟨v, rfl, q1⟩
      · have hb : (f == g) = false := beq_eq_false_iff_ne.mpr e
        simp only [List.lookup, hb] at h ⊢
        exact lookup_rep q2 h
theorem lookup_none : ∀ {fs : List (Str × D)} {vs : List V} {f : Str}, fs.lookup f = none → (List.zip (fs.map (·.1)) vs).lookup f = none
  | [], _, _, _ => rfl
  | (g, x) :: r, [], f, _ => rfl
  | (g, x) :: r, v :: vs', f, h => by
    show List.lookup f ((g, v) :: List.zip (r.map (·.1)) vs') = none
    by_cases e : f = g
    · have hb : (f == g) = true := beq_iff_eq.mpr e
      simp only [List.lookup, hb] at h
      cases h
    · have hb : (f == g) = false := beq_eq_false_iff_ne.mpr e
      simp only [List.lookup, hb] at h ⊢
      exact lookup_none h
theorem put_rep {f : Str} {d : D} {v : V} (q : Rep K mg F v d) : ∀ {fs : List (Str × D)} {vs : List V}, RepL K mg F vs (fs.map (·.2)) → ∃ ws, putF f v (List.zip (fs.map (·.1)) vs) = List.zip ((putD f d fs).map (·.1)) ws ∧ RepL K mg F ws ((putD f d fs).map (·.2))
  | [], vs, r => by
    cases r
    exact ⟨[v], rfl, .cons q .nil⟩
  | (g, x) :: r, vs, q2 => by
    cases q2 with
    | cons q3 q4 =>
      rename_i u us
      show ∃ ws, (if g = f then (g, v) :: List.zip (r.map (·.1)) us else (g, u) :: putF f v (List.zip (r.map (·.1)) us)) = List.zip ((if g = f then (g, d) :: r else (g, x) :: putD f d r).map (·.1)) ws ∧ RepL K mg F ws ((if g = f then (g, d) :: r else (g, x) :: putD f d r).map (·.2))
      by_cases e : g = f
      · rw [if_pos e, if_pos e]
        exact ⟨v :: us, rfl, .cons q q4⟩
      · rw [if_neg e, if_neg e]
        obtain ⟨ws, h1, h2⟩ := put_rep q (f := f) q4
        exact ⟨u :: ws, by rw [h1]; rfl, .cons q3 h2⟩
theorem onIns_out {c : Str} {d : D} {k : Addr → List (Str × D) → Prop} {v : V} (w : Wd K mg F H M) (r : Rep K mg F v d) (h : onIns M c d k) : ∃ p fs C dx vs, v = .ref p ∧ d = .ref p ∧ M p = some (.ins c fs) ∧ mg c = some (.ref C) ∧ H p = some (.ins C dx (List.zip (fs.map (·.1)) vs)) ∧ RepL K mg F vs (fs.map (·.2)) ∧ k p fs := by
  cases d with
  | ref p =>
    cases r
    have h' : (match M p with | some (.ins c' fs) => c' = c ∧ k p fs | _ => False) := h
    cases e : M p with
    | none => rw [e] at h'; exact h'.elim
    | some m =>
      cases m with
      | lst _ => rw [e] at h'; exact h'.elim
      | town => rw [e] at h'; exact h'.elim
      | ins c' fs =>
        rw [e] at h'
        obtain ⟨rfl, h'⟩ := h'
        obtain ⟨_, C, dx, vs, h1, h2, h3⟩ := w.mu p _ e
        exact ⟨p, fs, C, dx, vs, rfl, rfl, e, h1, h2, h3, h'⟩
  | _ => exact False.elim h
theorem ref_inj {c : Str} {C C' : Addr} (h : mg c = some (.ref C)) (h' : mg c = some (.ref C')) : C' = C := by
  rw [h] at h'; cases h'; rfl
end
section
variable {X : Cx} {F0 : Fz} {a b : Expr} {fa fb : ZE} {pos apos p : Pos} {c f m x : Str} {C : Addr}
theorem ze_fld (gC : X.mg c = some (.ref C)) (cl : Cls X.K C) (na : NoAttr X.K C f) (ha : PE X a (UE X F0 fa)) (hb : attributeBase a f X.env (eval a X.env) = eval a X.env := by rfl) : PE X (.Attribute a f pos) (UE X F0 (zFld c f fa)) :=
  pe_imp (pe_fld ha hb) fun s H Q h => by
  obtain ⟨F, rr, M, R, s0, w, e, h, k⟩ := h
  refine ⟨F, rr, M, _, s0, w, e, h, fun d M1 h1 F1 H1 v s1 w1 r1 => ?_⟩
  obtain ⟨q, fs, C', dx, vs, rfl, rfl, e1, g1, h2, h3, h4⟩ := onIns_out w1 r1 h1
  obtain rfl := ref_inj gC g1
  unfold onFd at h4
  cases e2 : fs.lookup f with
  | none => rw [e2] at h4; exact h4.elim
  | some y =>
    rw [e2] at h4
    obtain ⟨u, l1, l2⟩ := lookup_rep h3 e2
    exact ⟨q, C', dx, _, u, rfl, h2, cl, na, l1, k _ _ h4 _ _ _ s1 w1 l2⟩
theorem zs_setA (gC : X.mg c = some (.ref C)) (cl : Cls X.K C) (na : NoAttr X.K C f) (ha : PE X a (UE X F0 fa)) (hb : PE X b (UE X F0 fb)) (hs : swapsWith b (some (.Attribute a f apos)) pos.line X.env = pure false := by rfl) : PS X (.Assign [.Attribute a f apos] b pos) (US X F0 (zSetA c f fa fb)) :=
  ps_imp (ps_fld ha hb hs) fun E s H h => by
  obtain ⟨F, rr, M, Z, s0, w, e, h, k⟩ := h
  refine ⟨F, rr, M, _, s0, w, e, h, fun y M1 h1 F1 H1 yv s1 w1 r1 => ⟨F1, rr, M1, _, s0.trans s1, w1, e.mono s1, h1, fun d M2 h2 F2 H2 v s2 w2 r2 => ?_⟩⟩
  obtain ⟨q, fs, C', dx, vs, rfl, rfl, e1, g1, h3, h4, h5, h6⟩ := onIns_out w2 r2 h2
  obtain rfl := ref_inj gC g1
  obtain ⟨ws, l1, l2⟩ := put_rep (f := f) (r1.mono s2) h4
  refine ⟨q, C', dx, _, rfl, h3, cl, na, ?_, k.nx _ _ h6 F2 _ _ (s1.trans s2) (w2.write e1 (by intro z; cases z) (by intro z; cases z) ⟨C', dx, ws, g1, ?_, l2⟩) (e.mono (s1.trans s2))⟩
  · rw [List.length_zip, List.length_map]; omega
  · rw [upd_same, l1]
/-- o.m(e, ..), what is let out as at the slots -/
def tMethS (C : Addr) (m : Str) (sp : Sp) (E : St → XK) (ta : TE) (t : TA) : TE := fun σ H Q => ta σ H fun x H1 => ∃ a dx fs, x = .ref a ∧ H1 a = some (.ins C dx fs) ∧ fs.lookup m = none ∧ t σ H1 fun vs H2 => sp (x :: vs) H2 Q (E σ)
theorem pe_methS {CX : CXT} {k : Nat} {g : Addr} {fd : FuncData} {ps : List Str} {sp : Sp} {E : St → XK} {o e : Expr} {es : List Expr} {ta : TE} {t : TA} {pl : Sem Bool} (he : PE X o ta) (cl : Cls X.K C) (hm : Meth X.K C m g) (FO : FnOk X.prog X.w X.K X.mg X.base CX k g fd ps sp) (hr : Room k X.A) (hb : Binds X.K fd ps []) (hx : ∀ σ, PassesAt CX X σ (E σ)) (ha : PA X (e :: es) t)
    (hst : starEach (e :: es) X.env = (false, eval e X.env) :: starEach es X.env := by rfl) (hpl : (backTo pos (starEach es X.env)).any (·.1) = false := by rfl)
    (ht : eval (.Call (.Attribute o m apos) (e :: es) [] pos) X.env = (do
      let ov ← eval o X.env
      standAt apos.atName
      let (f, first) ← holding [ov] (getMethod ov m pl)
      callWith pos f first (backTo pos (starEach (e :: es) X.env)) (backToKw pos (keywordEach [] X.env))) := by rfl) :
    PE X (.Call (.Attribute o m apos) (e :: es) [] pos) (tMethS C m sp E ta t) := by
  refine ⟨fun pins s σ H Q I h => ?_⟩
  refine PySem.W.methodCall_KW (pl := pl) (thn (he.run pins s σ H _ I h) fun u s1 ⟨x, H1, I1, rx, a, dx, fs, ex, ea, l, q⟩ => ?_) ht
  subst ex
  obtain rfl : u = Value.ref a := rx
  refine getmeth_ok I1 ea cl hm l ?_
  refine PySem.W.callWith_K (first := [.ref a]) (h₀ := X.base) I.ok.mod.kin hm.kp (thn (ha.run pos pins s1 σ H1 _ I1 q) fun us s2 ⟨vs, H2, I2, r, q2⟩ => ⟨I2.kIn, ?_⟩) hst hpl
  exact run_fnS (us := .ref a :: us) (vs := .ref a :: vs) FO hr hb (hx σ) I2 (.cons rfl r) q2
theorem pe_methS0 {CX : CXT} {k : Nat} {g : Addr} {fd : FuncData} {ps : List Str} {sp : Sp} {E : St → XK} {o : Expr} {ta : TE} {pl : Sem Bool} (he : PE X o ta) (cl : Cls X.K C) (hm : Meth X.K C m g) (FO : FnOk X.prog X.w X.K X.mg X.base CX k g fd ps sp) (hr : Room k X.A) (hb : Binds X.K fd ps []) (hx : ∀ σ, PassesAt CX X σ (E σ))
    (ht : eval (.Call (.Attribute o m apos) [] [] pos) X.env = (do
      let ov ← eval o X.env
      standAt apos.atName
      let (f, first) ← holding [ov] (getMethod ov m pl)
      callWith pos f first (backTo pos (starEach [] X.env)) (backToKw pos (keywordEach [] X.env))) := by rfl) :
    PE X (.Call (.Attribute o m apos) [] [] pos) (tMethS C m sp E ta tNil) := by
  refine ⟨fun pins s σ H Q I h => ?_⟩
  refine PySem.W.methodCall_KW (pl := pl) (thn (he.run pins s σ H _ I h) fun u s1 ⟨x, H1, I1, rx, a, dx, fs, ex, ea, l, q⟩ => ?_) ht
  subst ex
  obtain rfl : u = Value.ref a := rx
  refine getmeth_ok I1 ea cl hm l ?_
  exact PySem.W.callWith_K0 (first := [.ref a]) I1.kIn hm.kp (run_fnS (us := [.ref a]) (vs := [.ref a]) FO hr hb (hx σ) I1 (.cons rfl .nil) q)
theorem up_meth {zs : ZSp} {zE : ZW} {W : WX} {t : ZA} (gC : X.mg c = some (.ref C)) (wk : Wok X.K X.mg F0 W zE) {s : St} {H : Hp} {Q : VK} (h : UE X F0 (zMeth c m zs zE fa t) s H Q) : tMethS C m (liftSp X.K X.mg zs) (WE W) (UE X F0 fa) (UA X F0 t) s H Q := by
  obtain ⟨F, rr, M, R, s0, w, e, h, k⟩ := h
  refine ⟨F, rr, M, _, s0, w, e, h, fun d M1 h1 F1 H1 v s1 w1 r1 => ?_⟩
  obtain ⟨q, fs, C', dx, vs, rfl, rfl, e1, g1, h2, h3, h4, h5⟩ := onIns_out w1 r1 h1
  obtain rfl := ref_inj gC g1
  refine ⟨q, dx, _, rfl, h2, lookup_none h4, F1, rr, M1, _, s0.trans s1, w1, e.mono s1, h5, fun ds M2 h6 F2 H2 us s2 w2 r2 => ⟨F2, M2, _, R, _, w2, .cons (.ref q) r2, h6, k.mono (s1.trans s2), fun c fs M' hx F' H' cls d s3 w3 rx => ?_⟩⟩
  exact wk c fs rr M' hx F' s H' cls d (s0.trans ((s1.trans s2).trans s3)) w3 (e.mono ((s1.trans s2).trans s3)) rx
theorem ze_meth {k : Nat} {g : Addr} {fd : FuncData} {ps : List Str} {zs : ZSp} {zE : ZW} {W : WX} {e : Expr} {es : List Expr} {t : ZA} {pl : Sem Bool} (gC : X.mg c = some (.ref C)) (cl : Cls X.K C) (hm : Meth X.K C m g) (FO : FnOk X.prog X.w X.K X.mg X.base (L2.CX X.prog X.w) k g fd ps (liftSp X.K X.mg zs)) (hr : Room k X.A) (hb : Binds X.K fd ps [])
    (tk : Takes X W) (wk : Wok X.K X.mg F0 W zE) (ho : PE X a (UE X F0 fa)) (ha : PA X (e :: es) (UA X F0 t)) (hst : starEach (e :: es) X.env = (false, eval e X.env) :: starEach es X.env := by rfl) (hpl : (backTo pos (starEach es X.env)).any (·.1) = false := by rfl)
    (ht : eval (.Call (.Attribute a m apos) (e :: es) [] pos) X.env = (do
      let ov ← eval a X.env
      standAt apos.atName
      let (f, first) ← holding [ov] (getMethod ov m pl)
      callWith pos f first (backTo pos (starEach (e :: es) X.env)) (backToKw pos (keywordEach [] X.env))) := by rfl) :
    PE X (.Call (.Attribute a m apos) (e :: es) [] pos) (UE X F0 (zMeth c m zs zE fa t)) := pe_imp (pe_methS ho cl hm FO hr hb (fun s => passAt tk s) ha hst hpl ht) fun s H Q h => up_meth gC wk h
theorem ze_meth0 {k : Nat} {g : Addr} {fd : FuncData} {ps : List Str} {zs : ZSp} {zE : ZW} {W : WX} {pl : Sem Bool} (gC : X.mg c = some (.ref C)) (cl : Cls X.K C) (hm : Meth X.K C m g) (FO : FnOk X.prog X.w X.K X.mg X.base (L2.CX X.prog X.w) k g fd ps (liftSp X.K X.mg zs)) (hr : Room k X.A) (hb : Binds X.K fd ps [])
    (tk : Takes X W) (wk : Wok X.K X.mg F0 W zE) (ho : PE X a (UE X F0 fa))
    (ht : eval (.Call (.Attribute a m apos) [] [] pos) X.env = (do
      let ov ← eval a X.env
      standAt apos.atName
      let (f, first) ← holding [ov] (getMethod ov m pl)
      callWith pos f first (backTo pos (starEach [] X.env)) (backToKw pos (keywordEach [] X.env))) := by rfl) :
    PE X (.Call (.Attribute a m apos) [] [] pos) (UE X F0 (zMeth c m zs zE fa zNil)) := pe_imp (pe_methS0 ho cl hm FO hr hb (fun s => passAt tk s) ht) fun s H Q h => by
  have h' := up_meth gC wk h
  obtain ⟨F, rr, M, R, s0, w, e, h1, k⟩ := h'
  refine ⟨F, rr, M, R, s0, w, e, h1, fun d M1 h1 F1 H1 v s1 w1 r1 => ?_⟩
  obtain ⟨q, dx, fs, e1, e2, e3, F2, rr2, M2, R2, g1, w2, e4, h4, k4⟩ := k d M1 h1 F1 H1 v s1 w1 r1
  exact ⟨q, dx, fs, e1, e2, e3, k4 [] M2 h4 F2 H1 [] (Le.refl _) w2 .nil⟩
/-- C(..): a new instance, then __init__ -/
def tMakeS (C : Addr) (sp : Sp) (E : St → XK) (t : TA) : TE := fun σ H Q => t σ H fun vs H1 => ∀ x dx, H1 x = none → H1 dx = none → dx ≠ x →
  sp (.ref x :: vs) (upd (upd H1 dx (.own x)) x (.ins C dx [])) (fun v H2 => v = .non ∧ Q (.ref x) H2) (E σ)
theorem run_makeS {k : Nat} {g : Addr} {fd : FuncData} {ps : List Str} {sp : Sp} {E : St → XK} {CX : CXT} {pins : List (Addr × Obj)} {σ : St} {H : Hp} {s : Shared} {Q : VK} {us : List Value} {vs : List V} (Mm : Mk X.K C g) (FO : FnOk X.prog X.w X.K X.mg X.base CX k g fd ps sp) (hr : Room (k + 1) X.A) (hb : Binds X.K fd ps [])
    (hx : PassesAt CX X σ (E σ)) (I : Inv X pins σ H s) (r : Vals vs us)
    (h : ∀ x dx, H x = none → H dx = none → dx ≠ x → sp (.ref x :: vs) (upd (upd H dx (.own x)) x (.ins C dx [])) (fun v H2 => v = .non ∧ Q (.ref x) H2) (E σ)) :
    wpAny (model X.prog X.w) X.A (call (.ref C) us) (EP X pins σ Q) X.xe s := by
  have hq := h (s.heap.objs.size + 1) s.heap.objs.size (I.hok.fresh (Nat.le_succ _)) (I.hok.fresh (Nat.le_refl _)) (Nat.ne_of_lt (Nat.lt_succ_self _))
  have I2 := Inv.made (C := C) I
  have r2 : Vals (V.ref (s.heap.objs.size + 1) :: vs) (Value.ref (s.heap.objs.size + 1) :: us) := .cons rfl r
  have hl : (Value.ref (s.heap.objs.size + 1) :: us).length = ps.length := by
    have e := r2.length
    rw [FO.len _ _ _ _ hq] at e
    exact e.symm
  have b := hb { s with heap := (s.heap.push PySem.W.emptyDict).push (PySem.W.instObj C s.heap.objs.size) } (Value.ref (s.heap.objs.size + 1) :: us) I2.kIn (by rw [List.append_nil]; exact hl)
  rw [List.append_nil] at b
  refine wpAny_call (make_map (f := g) I.kIn Mm.makes Mm.init (beq_iff_eq.mp Mm.fn) (codeAny_mono (FO.run _ X.stack _ _ ⟨Value.ref (s.heap.objs.size + 1) :: us, []⟩ (Value.ref (s.heap.objs.size + 1) :: us) _ _ (E σ) (hr.make C us [])
    (I2.env0.make C us []) b r2 hq) fun r s' hq' => ?_))
  cases r with
  | error e => exact hx pins _ _ e s' I2 hq'
  | ok fl =>
    cases fl with
    | ret u =>
      obtain ⟨v, H', I3, rv, ev, q3⟩ := I2.after hq'
      subst ev
      exact ⟨rv, ⟨V.ref (s.heap.objs.size + 1), H', I3, rfl, q3⟩⟩
    | next => exact False.elim hq'
    | brk => exact False.elim hq'
    | cont => exact False.elim hq'
theorem pe_makeS {k : Nat} {g : Addr} {fd : FuncData} {ps : List Str} {sp : Sp} {E : St → XK} {CX : CXT} {e : Expr} {es : List Expr} {t : TA} (Mm : Mk X.K C g) (FO : FnOk X.prog X.w X.K X.mg X.base CX k g fd ps sp) (hr : Room (k + 1) X.A) (hg : Gl X x) (hm : X.mg x = some (.ref C)) (hb : Binds X.K fd ps []) (hx : ∀ σ, PassesAt CX X σ (E σ))
    (ha : PA X (e :: es) t) (hdb : (x == ("__debug__" : Str)) = false := by decide) (he : starEach (e :: es) X.env = (false, eval e X.env) :: starEach es X.env := by rfl) (hpl : (backTo pos (starEach es X.env)).any (·.1) = false := by rfl) :
    PE X (.Call (.Name x p) (e :: es) [] pos) (tMakeS C sp E t) := by
  refine ⟨fun pins s σ H Q I h => ?_⟩
  refine wpAny_Call_Name_kw (ld_glob I hg hm ?_ hdb)
  refine PySem.W.callWith_K (h₀ := X.base) I.ok.mod.kin Mm.kp (thn (ha.run pos pins s σ H _ I h) fun us s1 ⟨vs, H1, I1, r, q⟩ => ⟨I1.kIn, ?_⟩) he hpl
  exact run_makeS Mm FO hr hb (hx σ) I1 r q
theorem pe_makeS0 {k : Nat} {g : Addr} {fd : FuncData} {ps : List Str} {sp : Sp} {E : St → XK} {CX : CXT} (Mm : Mk X.K C g) (FO : FnOk X.prog X.w X.K X.mg X.base CX k g fd ps sp) (hr : Room (k + 1) X.A) (hg : Gl X x) (hm : X.mg x = some (.ref C)) (hb : Binds X.K fd ps []) (hx : ∀ σ, PassesAt CX X σ (E σ))
    (hdb : (x == ("__debug__" : Str)) = false := by decide) : PE X (.Call (.Name x p) [] [] pos) (tMakeS C sp E tNil) := by
  refine ⟨fun pins s σ H Q I h => ?_⟩
  refine wpAny_Call_Name_kw (ld_glob I hg hm ?_ hdb)
  exact PySem.W.callWith_K0 I.kIn Mm.kp (run_makeS (us := []) Mm FO hr hb (hx σ) I .nil h)
theorem make_low {zs : ZSp} {zE : ZW} {W : WX} (gC : X.mg c = some (.ref C)) (wk : Wok X.K X.mg F0 W zE) {F : Fz} {rr : Env} {M1 : Mh} {R : QZ} {s : St} {H1 : Hp} {Q : VK} {ds : List D} {vs : List V} (s0 : Ge F0 F) (w : Wd X.K X.mg F H1 M1) (e : RepE X.K X.mg F s rr) (rl : RepL X.K X.mg F vs ds)
    (h : ∀ p, M1 p = none → zs (.ref p :: ds) (mup M1 p (.ins c [])) (fun d M2 => d = .non ∧ R (.ref p) M2) fun c fs M' => zE c fs rr M') (k : Kq X.K X.mg F R Q) : ∀ y dx, H1 y = none → H1 dx = none → dx ≠ y →
    liftSp X.K X.mg zs (.ref y :: vs) (upd (upd H1 dx (.own y)) y (.ins C dx [])) (fun v H2 => v = .non ∧ Q (.ref y) H2) (WE W s) := by
  intro y dx hy hdx ne
  obtain ⟨s1, w1⟩ := w.laidF (o := .own y) hdx
  have hy' : upd H1 dx (.own y) y = none := by rw [upd_ne (Ne.symm ne)]; exact hy
  obtain ⟨m0, _, _⟩ := w1.free hy'
  have w2 : Wd X.K X.mg (F.up dx (.own y)) (upd (upd H1 dx (.own y)) y (.ins C dx [])) (mup M1 y (.ins c [])) := w1.laidM hy' (by intro z; cases z) ⟨C, dx, [], gC, upd_same, .nil⟩
  refine ⟨_, _, _, _, _, w2, .cons (.ref y) (rl.mono s1), h y m0, fun d M2 ⟨hd, hR⟩ F' H' v s2 w3 r3 => ?_, fun c fs M' hx F' H' cls d s2 w3 rx => ?_⟩
  · subst hd
    cases r3
    exact ⟨rfl, k _ _ hR F' H' _ (s1.trans s2) w3 (.ref y)⟩
  · exact wk c fs rr M' hx F' s H' cls d (s0.trans (s1.trans s2)) w3 (e.mono (s1.trans s2)) rx
theorem ze_make {k : Nat} {g : Addr} {fd : FuncData} {ps : List Str} {zs : ZSp} {zE : ZW} {W : WX} {e : Expr} {es : List Expr} {t : ZA} (gC : X.mg c = some (.ref C)) (Mm : Mk X.K C g) (FO : FnOk X.prog X.w X.K X.mg X.base (L2.CX X.prog X.w) k g fd ps (liftSp X.K X.mg zs)) (hr : Room (k + 1) X.A) (hb : Binds X.K fd ps [])
    (tk : Takes X W) (wk : Wok X.K X.mg F0 W zE) (ha : PA X (e :: es) (UA X F0 t)) (hg : Gl X c := by rfl) (hdb : (c == ("__debug__" : Str)) = false := by decide) (he : starEach (e :: es) X.env = (false, eval e X.env) :: starEach es X.env := by rfl) (hpl : (backTo pos (starEach es X.env)).any (·.1) = false := by rfl) :
    PE X (.Call (.Name c p) (e :: es) [] pos) (UE X F0 (zMake c zs zE t)) := pe_imp (pe_makeS Mm FO hr hg gC hb (fun s => passAt tk s) ha hdb he hpl) fun s H Q h => by
  obtain ⟨F, rr, M, R, s0, w, e, h, k⟩ := h
  exact ⟨F, rr, M, _, s0, w, e, h, fun ds M1 h1 F1 H1 vs s1 w1 r1 => make_low gC wk (s0.trans s1) w1 (e.mono s1) r1 h1 (k.mono s1)⟩
theorem ze_make0 {k : Nat} {g : Addr} {fd : FuncData} {ps : List Str} {zs : ZSp} {zE : ZW} {W : WX} (gC : X.mg c = some (.ref C)) (Mm : Mk X.K C g) (FO : FnOk X.prog X.w X.K X.mg X.base (L2.CX X.prog X.w) k g fd ps (liftSp X.K X.mg zs)) (hr : Room (k + 1) X.A) (hb : Binds X.K fd ps [])
    (tk : Takes X W) (wk : Wok X.K X.mg F0 W zE) (hg : Gl X c := by rfl) (hdb : (c == ("__debug__" : Str)) = false := by decide) :
    PE X (.Call (.Name c p) [] [] pos) (UE X F0 (zMake c zs zE zNil)) := pe_imp (pe_makeS0 Mm FO hr hg gC hb (fun s => passAt tk s) hdb) fun s H Q h => by
  obtain ⟨F, rr, M, R, s0, w, e, h, k⟩ := h
  exact make_low gC wk s0 w e .nil h k
end
end Zl

/-! Zl10: try .. except X as e: y = e; isinstance of what was caught; {} -/
namespace Zl
open PySem L2 PySem.Spec PyProof.Rows
section
variable {X : Cx} {pins : List (Addr × Obj)} {σ : L2.St} {H : Hp} {s : Shared}
/-- an exception object that nobody tracked is tracked -/
theorem track {a C : Addr} {d : Option Addr} {oe : Obj} {vs : Array Value} (I : Inv X pins σ H s) (ha : s.heap.get? a = some oe) (z : Zc (.ref C) d oe) (hd : oe.data = .fields vs) (na : H a = none) (n0 : X.s_0.heap.get? a = none)
    (nL : a ≠ X.env.locals) (nC : ∀ x c, X.env.cells.lookup x = some c → c ≠ a) (nP : ∀ p ∈ X.pn ++ pins, p.1 ≠ a) : Inv X pins σ (upd H a (ExZ C d a)) s := by
  have ne : ∀ b o, H b = some o → b ≠ a := fun b o e z => by rw [z, na] at e; cases e
  refine ⟨I.ok, I.os, I.bare, ⟨I.base.keep, I.base.slot, fun b o e n hq => ?_, I.base.there, fun b xs e => ?_, fun b o u e => ?_, fun b ps e => ?_⟩, I.loc, I.cell, ?_, fun x c e => ?_, fun p hp => ?_, fun b u e => ?_, I.len⟩
  · rw [upd_ne (fun z => by rw [z, n0] at e; cases e)]; exact I.base.free b o e n hq
  · have q := I.base.tups b xs e
    rw [upd_ne (ne b _ q)]; exact q
  · have q := I.base.frzs b o u e
    rw [upd_ne (ne b _ q)]; exact q
  · obtain ⟨m, q⟩ := I.base.tbls b ps e
    exact ⟨m, by rw [upd_ne (ne b _ q)]; exact q⟩
  · rw [upd_ne (Ne.symm nL)]; exact I.free
  · rw [upd_ne (nC x c e)]; exact I.freeC x c e
  · obtain ⟨h1, h2, h3⟩ := I.pin p hp
    exact ⟨h1, by rw [upd_ne (nP p hp)]; exact h2, h3⟩
  · by_cases hb : b = a
    · subst hb
      rw [upd_same] at e; cases e
      exact ⟨⟨oe, vs, ha, z, hd⟩, ⟨oe, ha⟩, fun _ _ ⟨o, v, q, r⟩ k => ⟨o, v, k o q, r⟩⟩
    · rw [upd_ne hb] at e
      refine (I.hok b u e).stay (fun c v _ q => q) (fun c q => ?_) fun c xs q => ?_
      · rw [upd_ne (ne c _ q)]; exact q
      · rw [upd_ne (ne c _ q)]; exact q
end
/-- what the clause wishes of an exception of the body: it stays, tracked -/
def wKeep (K : PySem.W.Frag) (c : Value) (i : Nat) (ts : Addr → Value → Option Addr → TS) (D : Ends) : WX := fun cls d σ H =>
  PySem.W.exmOne K cls c = some true ∧ ∃ C, cls = .ref C ∧ ∀ a, H a = none → ts a cls d { nx := fun σ' H' => D.nx (σ'.set i none) (upd H' a (ExZ C d a)), rt := fun _ _ => False, bk := fun _ _ => False, ct := fun _ _ => False } (σ.set i (some (.ref a))) H
section
variable {X : Cx} {x n : Str} {c : Value} {i : Nat} {body suite : List Stmt} {b₀ : Stmt} {np pos pos' : Pos} {tb : WX → TS} {ts : Addr → Value → Option Addr → TS}
theorem ps_try_keep (hs : X.stack = X.env :: X.outer) (hf : X.env.frame = some X.env.locals) (hex : X.ex = []) (hN : X.N.Nodup) (hi : X.N[i]? = some n) (hln : X.env.kindOf n = some .local) (hc : Names X x c)
    (hb : ∀ (W : WX) (pn : List (Addr × Obj)) (xe : Value → Shared → Prop), Takes (X.tr pn xe) W → PassesOwn (model X.prog X.w) X.A X.env xe → PSs (X.tr pn xe) body (tb W))
    (hsu : ∀ (a : Addr) (oe : Obj) (cls : Value) (d : Option Addr) (pn : List (Addr × Obj)), Zc cls d oe → (∃ vs, oe.data = .fields vs) → PSs (X.suite a ((a, oe) :: pn)) (b₀ :: suite) (ts a cls d)) :
    PS X (.Try body [.ExceptHandler (some (.Name x np)) (some n) (b₀ :: suite) pos'] [] [] pos) (fun D σ H => tb (wKeep X.K c i ts D) D σ H) := by
  refine ⟨fun pins s σ H D I h => ?_⟩
  have ok := I.ok
  have hfr : X.A.frames = some (X.env :: X.outer) := by rw [ok.frames, hs]
  have hloc : Loc X.env.scope n := .inl hln
  refine wpAny_Try_except ?_
  refine wpAny_mono ((hb (wKeep X.K c i ts D) (X.pn ++ pins) (fun e s₁ => wpAny (model X.prog X.w) X.A (noteFrame e X.env) (fun _ s₂ => wpAny (model X.prog X.w) X.A (setFlight e none) (fun _ s₃ =>
    wpAny (model X.prog X.w) X.A (handleBy e X.env [.ExceptHandler (some (.Name x np)) (some n) (b₀ :: suite) pos']) (SP X pins D) X.xe s₃) X.xe s₂) X.xe s₁) (fun u s' xx => ?_) PassesOwn.looking).run [] s σ H D (I.toTry _) h) (fun f s1 hsp => ?_) (fun e s1 he => he)
  · obtain ⟨a, B, sI, pins', σ', H', cls, d, rfl, J', nb, up, sky, na, os, ag, hb1, C, rfl, hyes⟩ := xx
    have J : Inv X pins σ' H' sI := J'.ofTry ok
    have sky' : Sky B (X.env :: X.outer) a (Zc (.ref C) d) X.env.locals s'.heap := by rw [← hs]; exact sky
    show wpAny (model X.prog X.w) X.A (noteFrame (.ref a) X.env) _ _ _
    refine Sky.land Zc.steady hfr hf sky' fun h3 fl3 up3 => ?_
    have J3 : Inv X pins σ' H' { s' with heap := h3 } := J.landed nb fl3.1 (up.trans up3) os ag
    obtain ⟨oe3, vs3, he3, hz3, hd3⟩ := fl3.there
    have notFr : ∀ {h : Heap} {o : Obj} {vs : Array Value}, h.FunFrames B (X.env :: X.outer) → h.get? a = some o → o.data = .fields vs → a ∉ frs (X.env :: X.outer) := fun {h o vs} ff e dd hm => by
      obtain ⟨_, o', e', hnf⟩ := ff.mem hm
      rw [e] at e'; cases e'
      exact hnf _ dd
    have nfr := notFr fl3.2.2.1 he3 hd3
    have nL : a ≠ X.env.locals := fun z => nfr (List.mem_filterMap.mpr ⟨X.env, List.mem_cons_self, by rw [hf, z]⟩)
    have nF : a ∉ X.fs := fun hm => by
      obtain ⟨e, he, q⟩ := List.mem_filterMap.mp hm
      exact nfr (List.mem_filterMap.mpr ⟨e, List.mem_cons_of_mem _ he, q⟩)
    have gI : sI.heap.get? a = none := by
      cases q : sI.heap.get? a with
      | none => rfl
      | some o =>
        have := nb a o q (by rw [hs]; exact nfr)
        rw [fl3.2.1] at this; cases this
    have n0 : X.s_0.heap.get? a = none := by
      cases q : X.s_0.heap.get? a with
      | none => rfl
      | some o =>
        obtain ⟨o', q'⟩ := J.base.there a o q (by rw [hex]; exact fun z => nomatch z)
        rw [gI] at q'; cases q'
    have nC : ∀ x c, X.env.cells.lookup x = some c → c ≠ a := fun x c e z => by
      obtain ⟨v, o, q, _⟩ := J.cell x c e
      rw [z, gI] at q; cases q
    have nP : ∀ p ∈ X.pn ++ pins, p.1 ≠ a := fun p hp z => by
      have q := (J.pin p hp).1
      rw [z, gI] at q; cases q
    have S3 := J3.suite he3 hd3 na nL nF
    refine wpAny_handleBy_cons (codeAny_handlers_test ?_) (by intro q; cases q)
    have LT : PySem.W.Looks (model X.prog X.w) h3 (typeOf (.ref a)) (.ref C) := fun A Q E s k q => wpAny_typeOf_ref (k _ _ he3) (by rw [hz3.1]; exact q)
    have LM := PySem.W.exm_one (M := model X.prog X.w) (J3.kIn) LT hb1
    have test : ∀ {Q : Value → Shared → Prop} {E : Value → Shared → Prop}, Q c { s' with heap := h3 } → wpAny (model X.prog X.w) (X.A.mark (some (.ref a))) (eval (.Name x np) X.env) Q E { s' with heap := h3 } := fun {Q E} q => by
      obtain ⟨hg, hdbg, hm | ⟨hm, hv, hnn⟩⟩ := hc
      · exact ld_glob (X := X.suite a ((a, oe3) :: (X.pn ++ pins))) S3 hg hm q hdbg
      · exact ld_blt (X := X.suite a ((a, oe3) :: (X.pn ++ pins))) S3 hg hm hv q hnn hdbg
    refine test (LM.here ?_)
    refine codeAny_handlers_suite_as ?_
    refine HandSPX.lands_againZ fl3 fun h4 fl4 up4 => ?_
    have J4 : Inv X pins σ' H' { s' with heap := h4 } := J.landed nb fl4.1 ((up.trans up3).trans up4) os ag
    obtain ⟨oe4, vs4, he4, hz4, hd4⟩ := fl4.there
    have S4 := J4.suite he4 hd4 na nL nF
    refine store_ok (X := X.suite a ((a, oe4) :: (X.pn ++ pins))) (v := .ref a) S4 hN hi hloc rfl (fun s5 S5 => ?_) (.inr hln)
    refine wpAny_mono ((hsu a oe4 (.ref C) d (X.pn ++ pins) hz4 ⟨_, hd4⟩).run [] s5 _ H' _ S5 (hyes a na)) (fun f s6 hsp => ?_) (fun _ _ z => False.elim z)
    cases f with
    | next =>
      obtain ⟨σ6, H6, S6, q6⟩ := hsp
      obtain ⟨g1, g2, _⟩ := S6.pin (a, oe4) (List.mem_append.mpr (.inl List.mem_cons_self))
      have T6 := track (S6.unsuite ok) g1 hz4 hd4 g2 n0 nL nC nP
      exact gone_ok T6 hN hi hln fun s7 J7 => ⟨_, _, J7, q6⟩
    | brk => obtain ⟨σ6, H6, S6, q6⟩ := hsp; exact False.elim q6
    | cont => obtain ⟨σ6, H6, S6, q6⟩ := hsp; exact False.elim q6
    | ret u => obtain ⟨v6, σ6, H6, S6, r6, q6⟩ := hsp; exact False.elim q6
  · cases f with
    | next =>
      obtain ⟨σ', H', J', q⟩ := hsp
      exact wpAny_execs_nil ⟨σ', H', J'.ofTry ok, q⟩
    | brk =>
      obtain ⟨σ', H', J', q⟩ := hsp
      exact ⟨σ', H', J'.ofTry ok, q⟩
    | cont =>
      obtain ⟨σ', H', J', q⟩ := hsp
      exact ⟨σ', H', J'.ofTry ok, q⟩
    | ret u =>
      obtain ⟨v, σ', H', J', r, q⟩ := hsp
      exact ⟨v, σ', H', J'.ofTry ok, r, q⟩
end
/-! ### the reading -/
def zTry (cs : List Str) (i j : Nat) (zb : ZW → ZS) : ZS := fun E r M => zb (fun c fs r' M' => c ∈ cs ∧ fs = [] ∧ i < r'.length ∧ E.nx (st (st (st r' i none) j (some (.exc c))) i none) M') E r M
section
variable {X : Cx} {F0 : Fz}
theorem RepE.any {K : PySem.W.Frag} {mg : Str → Option Value} {F : Fz} {s : L2.St} {r : Env} {x : Option V} (i : Nat) (h : RepE K mg F s r) : RepE K mg F (s.set i x) (st r i none) := by
  refine ⟨by rw [List.length_set, st_len]; exact h.1, fun j e z => ?_⟩
  by_cases hj : j = i
  · subst hj
    obtain ⟨a, b⟩ := gt_st_same _ _ _ _ z
    cases a
  · rw [gt_st_ne _ _ _ _ hj] at z
    obtain ⟨w, a, b⟩ := h.2 j e z
    exact ⟨w, by rw [List.getElem?_set_ne (Ne.symm hj)]; exact a, b⟩
theorem zs_try {i j : Nat} {n y x : Str} {CL : Addr} {cs : List Str} {zb : ZW → ZS} {body : List Stmt} {np py pe pa pos pos' : Pos} (hs : X.stack = X.env :: X.outer) (hf : X.env.frame = some X.env.locals) (hex : X.ex = []) (hN : X.N.Nodup) (gL : X.mg x = some (.ref CL))
    (hcs : ∀ c ∈ cs, ∀ C, X.mg c = some (.ref C) → PySem.W.exmOne X.K (.ref C) (.ref CL) = some true)
    (hb : ∀ (F1 : Fz) (W : WX) (zE : ZW) (pn : List (Addr × Obj)) (xe : Value → Shared → Prop), Takes (X.tr pn xe) W → PassesOwn (model X.prog X.w) X.A X.env xe → Wok X.K X.mg F1 W zE → PSs (X.tr pn xe) body (upS X.K X.mg F1 (zb zE)))
    (hi : X.N[i]? = some n := by rfl) (hj : X.N[j]? = some y := by rfl) (hln : X.env.kindOf n = some .local := by rfl) (hly : X.env.scope.names.lookup y = some .local := by rfl) (hvn : Vis X.env.scope n := by first | exact Or.inl rfl | exact Or.inr (Or.inl rfl) | exact Or.inr (Or.inr rfl))
    (hg : Gl X x := by rfl) (hdb : (x == ("__debug__" : Str)) = false := by decide) (hd : (n == ("__debug__" : Str)) = false := by decide) (hcd : (n == ("__classdict__" : Str)) = false := by decide)
    (hsw : swapsWith (.Name n pe) (some (.Name y py)) pa.line X.env = pure false := by rfl) :
    PS X (.Try body [.ExceptHandler (some (.Name x np)) (some n) [.Assign [.Name y py] (.Name n pe) pa] pos'] [] [] pos) (US X F0 (zTry cs i j zb)) := by
  refine ps_imp (ps_try_keep (tb := fun W D s H => ∃ F1 zE, Wok X.K X.mg F1 W zE ∧ upS X.K X.mg F1 (zb zE) D s H) hs hf hex hN hi hln ⟨hg, hdb, .inl gL⟩ (fun W pn xe tk hp => ⟨fun pins s r H E I ⟨F1, zE, wk, q⟩ => (hb F1 W zE pn xe tk hp wk).run pins s r H E I q⟩)
    (fun a oe cls d pn hz hfl => pss_one (ps_set (X := X.suite a ((a, oe) :: pn)) (i := j) hN hj (.inl hly) (pe_var (X := X.suite a ((a, oe) :: pn)) hi hvn hd hcd) hsw (.inr hly)))) fun E s H h => ?_
  obtain ⟨F, rr, M, Z, s0, w, e, h, k⟩ := h
  refine ⟨F, _, ?_, F, rr, M, Z, Ge.refl _, w, e, h, k⟩
  rintro c fs r' M' ⟨hc, hfs, hlt, hz⟩ F2 s2 H2 cls d g w2 e2 ⟨C, gC, rfl, hx⟩
  have hd : d = none := by
    rcases hx with ⟨_, hd⟩ | ⟨_, _, z, _⟩
    · exact hd
    · exact absurd hfs z
  subst hd
  refine ⟨hcs c hc C gC, C, rfl, fun a ha => ⟨.ref a, ?_, ?_⟩⟩
  · rw [List.getElem?_set_self (by rw [e2.1]; exact hlt)]
  · have w3 : Wd X.K X.mg ⟨F2.f, F.u⟩ H2 M' := w2.less g.u
    obtain ⟨s4, w4⟩ := w3.laidF (o := ExZ C none a) ha
    have e3 : RepE X.K X.mg ⟨F2.f, F.u⟩ s2 r' := ⟨e2.1, fun i d q => let ⟨v, a, b⟩ := e2.2 i d q; ⟨v, a, b.monoF (F := F2) (F' := ⟨F2.f, F.u⟩) (Same.refl _)⟩⟩
    refine k.nx _ M' hz _ _ _ (Le.trans (⟨g.f, rfl⟩ : Le F ⟨F2.f, F.u⟩) s4) w4 ?_
    exact (((e3.mono s4).any (x := some (.ref a)) i).set j (.exc gC (show upd F2.f a (ExZ C none a) a = some (ExZ C none a) from upd_same))).unset i
/-! ### isinstance of what was caught -/
theorem call_isX : CallR X (.builtin "isinstance") (fun xs H Q => ∃ (a C : Addr) (c : V) (cv : Value) (b : Bool), xs = [.ref a, c] ∧ H a = some (ExZ C none a) ∧ ExcC X.K C ∧ (∀ u, RelV c u → u = cv) ∧ PySem.W.kitOne X.K (.ref C) cv = some b ∧ Q (.bl b) H) := by
  intro pins s σ H xs us Q I r h
  obtain ⟨a, C, c, cv, b, rfl, ha, T, hcv, e, q⟩ := h
  cases r with
  | cons rx rr =>
    cases rr with
    | cons rt rr =>
      cases rr
      cases rx
      have ec := hcv _ rt
      subst ec
      obtain ⟨⟨oe, vs, hget, hz, hv⟩, _, _⟩ := I.hok a _ ha
      have J : PySem.W.InstAt s.heap a oe C none := by
        obtain ⟨oc, od, oda, osl⟩ := oe
        obtain ⟨h1, h2⟩ := hz
        dsimp only at h1 h2 hv
        subst h1 h2 hv
        exact ⟨hget, rfl, rfl, trivial⟩
      exact PySem.W.kia_one (PySem.W.handS_kitx_exc T.hg T.hk T.hs T.hd T.ha T.hn T.ht T.hm) I.kIn J e (fun z => nomatch z) fun tk => ⟨.bl b, H, I.kept (t' := tk) fun _ _ z => z, rfl, q⟩
/-- by a table: the class's name, the answer -/
def dIsx (tab : List (Str × Bool)) (x : D) (M : Mh) (Q : QZ) : Prop := match x with
  | .exc c => (match tab.lookup c with | some b => Q (.bl b) M | none => False)
  | _ => False
variable {a : Expr} {fa : ZE} {p p2 pos : Pos}
theorem ze_isxO {x : Str} {cv : Addr} {tab : List (Str × Bool)} (ha : PE X a (UE X F0 fa)) (hm : X.mg "isinstance" = none) (hm2 : X.mg x = some (.ref cv)) (hk : ∀ c b, tab.lookup c = some b → ∀ C, X.mg c = some (.ref C) → ExcC X.K C ∧ PySem.W.kitOne X.K (.ref C) (.ref cv) = some b)
    (hg : Gl X "isinstance" := by rfl) (hg2 : Gl X x := by rfl) (hd2 : (x == ("__debug__" : Str)) = false := by decide)
    (he : starEach [a, .Name x p2] X.env = (false, eval a X.env) :: starEach [.Name x p2] X.env := by rfl) (he2 : starEach [.Name x p2] X.env = (false, eval (.Name x p2) X.env) :: starEach [] X.env := by rfl) (hpl : (backTo pos (starEach [.Name x p2] X.env)).any (·.1) = false := by rfl) :
    PE X (.Call (.Name "isinstance" p) [a, .Name x p2] [] pos) (UE X F0 (z1 (dIsx tab) fa)) := by
  refine pe_imp (pe_callB call_isX hg hm (by decide +kernel) (pa_cons ha (pa_cons (pe_glob (v := .ref cv) hg2 hm2 rfl hd2) pa_nil he2) he) (by decide) (by decide) he hpl) fun s H Q h => ?_
  obtain ⟨F, rr, M, R, s0, w, e, h, k⟩ := h
  refine ⟨F, rr, M, _, s0, w, e, h, fun d M1 h1 F1 H1 v s1 w1 r1 => ?_⟩
  cases d with
  | exc c =>
    have h1' : (match tab.lookup c with | some b => R (.bl b) M1 | none => False) := h1
    cases q : tab.lookup c with
    | none => rw [q] at h1'; exact h1'.elim
    | some b =>
      rw [q] at h1'
      cases r1 with
      | exc gC hF =>
        obtain ⟨T, kk⟩ := hk c b q _ gC
        exact ⟨_, _, .ref cv, .ref cv, b, rfl, w1.sub _ _ hF, T, fun u hu => hu, kk, k _ _ h1' _ _ _ s1 w1 (.bl _)⟩
  | _ => exact False.elim h1
theorem ze_isxB {x : Str} {T : String} {tab : List (Str × Bool)} (ha : PE X a (UE X F0 fa)) (hm : X.mg "isinstance" = none) (hm2 : X.mg x = none) (hv2 : bootBuiltins x = some (.type T)) (hk : ∀ c b, tab.lookup c = some b → ∀ C, X.mg c = some (.ref C) → ExcC X.K C ∧ PySem.W.kitOne X.K (.ref C) (.type T) = some b)
    (hg : Gl X "isinstance" := by rfl) (hg2 : Gl X x := by rfl) (hn2 : x ≠ "__name__" := by decide) (hd2 : (x == ("__debug__" : Str)) = false := by decide)
    (he : starEach [a, .Name x p2] X.env = (false, eval a X.env) :: starEach [.Name x p2] X.env := by rfl) (he2 : starEach [.Name x p2] X.env = (false, eval (.Name x p2) X.env) :: starEach [] X.env := by rfl) (hpl : (backTo pos (starEach [.Name x p2] X.env)).any (·.1) = false := by rfl) :
    PE X (.Call (.Name "isinstance" p) [a, .Name x p2] [] pos) (UE X F0 (z1 (dIsx tab) fa)) := by
  refine pe_imp (pe_callB call_isX hg hm (by decide +kernel) (pa_cons ha (pa_cons (pe_bltn (v := .ty T) hg2 hm2 hv2 rfl hn2 hd2) pa_nil he2) he) (by decide) (by decide) he hpl) fun s H Q h => ?_
  obtain ⟨F, rr, M, R, s0, w, e, h, k⟩ := h
  refine ⟨F, rr, M, _, s0, w, e, h, fun d M1 h1 F1 H1 v s1 w1 r1 => ?_⟩
  cases d with
  | exc c =>
    have h1' : (match tab.lookup c with | some b => R (.bl b) M1 | none => False) := h1
    cases q : tab.lookup c with
    | none => rw [q] at h1'; exact h1'.elim
    | some b =>
      rw [q] at h1'
      cases r1 with
      | exc gC hF =>
        obtain ⟨T', kk⟩ := hk c b q _ gC
        exact ⟨_, _, .ty T, .type T, b, rfl, w1.sub _ _ hF, T', fun u hu => hu, kk, k _ _ h1' _ _ _ s1 w1 (.bl _)⟩
  | _ => exact False.elim h1
/-! ### {} -/
def zDct : ZE := fun _ M Q => Q .dct M
theorem ze_dct : PE X (.Dict [] [] pos) (UE X F0 zDct) := pe_imp pe_dnewK fun s H Q h => by
  obtain ⟨F, rr, M, R, s0, w, e, h, k⟩ := h
  intro p hp
  obtain ⟨s1, w1⟩ := w.laidF (o := .dK []) hp
  exact k _ _ h _ _ _ s1 w1 (.dct upd_same)
end
/-! ### the facts of a class, as one question -/
def clB (K : PySem.W.Frag) (C : Addr) : Bool := PySem.W.plainGet K C Str.empty && (PySem.W.hasDictIn K C && (PySem.W.plainOver K C && decide (PySem.W.findIn K (.ref C) "__setattr__" = some (some (.builtin "object.__setattr__")))))
theorem clB_ok {K : PySem.W.Frag} {C : Addr} (h : clB K C = true) : Cls K C := by
  obtain ⟨h1, h⟩ := Bool.and_eq_true_iff.mp h
  obtain ⟨h2, h⟩ := Bool.and_eq_true_iff.mp h
  obtain ⟨h3, h4⟩ := Bool.and_eq_true_iff.mp h
  exact ⟨h1, h2, h3, of_decide_eq_true h4⟩
def mkB (K : PySem.W.Frag) (C f : Addr) : Bool := PySem.W.makesIn K C && (decide (PySem.W.findIn K (.ref C) "__init__" = some (some (.ref f))) && (PySem.W.isFn K (.ref f) && PySem.W.keepIn K (.ref C)))
theorem mkB_ok {K : PySem.W.Frag} {C f : Addr} (h : mkB K C f = true) : Mk K C f := by
  obtain ⟨h1, h⟩ := Bool.and_eq_true_iff.mp h
  obtain ⟨h2, h⟩ := Bool.and_eq_true_iff.mp h
  obtain ⟨h3, h4⟩ := Bool.and_eq_true_iff.mp h
  exact ⟨h1, of_decide_eq_true h2, h3, h4⟩
def naB (K : PySem.W.Frag) (C : Addr) (fs : List Str) : Bool := fs.all fun f => decide (PySem.W.findIn K (.ref C) f = some none)
theorem naB_ok {K : PySem.W.Frag} {C : Addr} {fs : List Str} {f : Str} (h : naB K C fs = true) (hf : fs.contains f = true) : NoAttr K C f := of_decide_eq_true (p := PySem.W.findIn K (.ref C) f = some none) (List.all_eq_true.mp h f (List.contains_iff_mem.mp hf))
def ecB (K : PySem.W.Frag) (C : Addr) : Bool := decide (PySem.W.findIn K (.ref C) "__getattribute__" = some (some (.builtin "BaseException.__getattribute__"))) && (decide (PySem.W.findIn K (.ref C) "__getattr__" = some none) && (decide (PySem.W.subIn K (.ref C) (.type "BaseException") = some true) && (PySem.W.hasDictIn K C &&
  (decide (PySem.W.findIn K (.ref C) "__class__" = some (some (.builtin "object.__class__"))) && (decide (PySem.W.specialIn K (.builtin "object.__class__") "__get__" = some (some (.builtin "getset_descriptor.__get__"))) && (decide (PySem.W.takesIn K (.builtin "object.__class__") = some true) && decide (PySem.W.mroIn K C (.type "object") = some true)))))))
theorem ecB_ok {K : PySem.W.Frag} {C : Addr} (h : ecB K C = true) : ExcC K C := by
  obtain ⟨h1, h⟩ := Bool.and_eq_true_iff.mp h
  obtain ⟨h2, h⟩ := Bool.and_eq_true_iff.mp h
  obtain ⟨h3, h⟩ := Bool.and_eq_true_iff.mp h
  obtain ⟨h4, h⟩ := Bool.and_eq_true_iff.mp h
  obtain ⟨h5, h⟩ := Bool.and_eq_true_iff.mp h
  obtain ⟨h6, h⟩ := Bool.and_eq_true_iff.mp h
  obtain ⟨h7, h8⟩ := Bool.and_eq_true_iff.mp h
  exact ⟨of_decide_eq_true h1, of_decide_eq_true h2, of_decide_eq_true h3, h4, of_decide_eq_true h5, of_decide_eq_true h6, of_decide_eq_true h7, of_decide_eq_true h8⟩
/-- the classes by name, as they stand -/
def kitB2 (K : PySem.W.Frag) (cv : Value) : List (Addr × Bool) → Bool
  | [] => true
  | (C, b) :: r => decide (PySem.W.kitOne K (.ref C) cv = some b) && kitB2 K cv r
theorem kitB2_ok {K : PySem.W.Frag} {cv : Value} {C : Addr} {b : Bool} : ∀ {l : List (Addr × Bool)}, kitB2 K cv l = true → (C, b) ∈ l → PySem.W.kitOne K (.ref C) cv = some b
  | (C', b') :: r, h, hm => by
    obtain ⟨h1, h2⟩ := Bool.and_eq_true_iff.mp h
    rcases List.mem_cons.mp hm with e | hm
    · cases e; exact of_decide_eq_true h1
    · exact kitB2_ok h2 hm
theorem lookup_mem {c : Str} {b : Bool} : ∀ {l : List (Str × Bool)}, l.lookup c = some b → (c, b) ∈ l
  | (k, x) :: r, h => by
    by_cases e : c = k
    · have hb : (c == k) = true := beq_iff_eq.mpr e
      simp only [List.lookup, hb] at h
      cases h; rw [e]; exact List.mem_cons_self
    · have hb : (c == k) = false := beq_eq_false_iff_ne.mpr e
      simp only [List.lookup, hb] at h
      exact List.mem_cons_of_mem _ (lookup_mem h)
/-! ### steps -/
section
variable {r : Env} {M : Mh} {Q : QZ} {a b : ZE} {t : ZA}
theorem mup_get {p q : Addr} {o o' : MO} (h : M q = none) (e : M p = some o) : mup M q o' p = some o := by rw [mup_ne (ne_of_m e h)]; exact e
theorem i_fld {c f : Str} (h : a r M fun d M1 => onIns M1 c d fun _ fs => onFd fs f fun v => Q v M1) : zFld c f a r M Q := h
theorem i_onIns {c : Str} {p : Addr} {fs : List (Str × D)} {k : Addr → List (Str × D) → Prop} (e : M p = some (.ins c fs)) (h : k p fs) : onIns M c (.ref p) k := by
  show (match M p with | some (.ins c' fs) => c' = c ∧ k p fs | _ => False); rw [e]; exact ⟨rfl, h⟩
theorem i_onFd {fs : List (Str × D)} {f : Str} {d : D} {k : D → Prop} (e : fs.lookup f = some d) (h : k d) : onFd fs f k := by
  unfold onFd; rw [e]; exact h
theorem i_setA {c f : Str} {E : ZEnds} (h : b r M fun y M1 => a r M1 fun d M2 => onIns M2 c d fun p fs => fs.length < 1000 ∧ E.nx r (mup M2 p (.ins c (putD f y fs)))) : zSetA c f a b E r M := h
theorem i_f1000 {fs : List (Str × D)} {P : Prop} (h : fs.length < 1000) (q : P) : fs.length < 1000 ∧ P := ⟨h, q⟩
theorem i_lkN {fs : List (Str × D)} {m : Str} {P : Prop} (h : fs.lookup m = none) (q : P) : fs.lookup m = none ∧ P := ⟨h, q⟩
theorem i_meth {c m : Str} {zs : ZSp} {zE : ZW} (h : a r M fun d M1 => onIns M1 c d fun p fs => fs.lookup m = none ∧ t r M1 fun ds M2 => zs (.ref p :: ds) M2 Q fun c fs M' => zE c fs r M') : zMeth c m zs zE a t r M Q := h
theorem i_make {c : Str} {zs : ZSp} {zE : ZW} (h : t r M fun ds M1 => ∀ p, M1 p = none → zs (.ref p :: ds) (mup M1 p (.ins c [])) (fun d M2 => d = .non ∧ Q (.ref p) M2) fun c fs M' => zE c fs r M') : zMake c zs zE t r M Q := h
theorem i_try {cs : List Str} {i j : Nat} {zb : ZW → ZS} {E : ZEnds} (h : zb (fun c fs r' M' => c ∈ cs ∧ fs = [] ∧ i < r'.length ∧ E.nx (st (st (st r' i none) j (some (.exc c))) i none) M') E r M) : zTry cs i j zb E r M := h
theorem i_isx {tab : List (Str × Bool)} {c : Str} {v : Bool} (e : tab.lookup c = some v) (q : Q (.bl v) M) : dIsx tab (.exc c) M Q := by
  show (match tab.lookup c with | some b => Q (.bl b) M | none => False); rw [e]; exact q
theorem i_tryx {cs : List Str} {i : Nat} {c : Str} {P : Prop} (h1 : decide (c ∈ cs) = true) (h2 : decide (i < r.length) = true) (q : P) : c ∈ cs ∧ ([] : List (Str × D)) = [] ∧ i < r.length ∧ P := ⟨of_decide_eq_true h1, rfl, of_decide_eq_true h2, q⟩
theorem i_dct (q : Q .dct M) : zDct r M Q := q
end
end Zl

/-! Zl11: x in a tuple of tuples; xs[::-1]; defs with defaults -/
namespace Zl
open PySem L2
theorem units65 {k : Nat} {A : Around} (r : Room k A) : A.units + 65 < cLine := by have := r.un; omega
def rInDT (K : PySem.W.Frag) : R2 := fun x y H Q => ∃ d ds, Dp K H x d ∧ Dp K H y (.tuple ds) ∧ SeqAt.shaped d = true ∧ SeqAt.shaped (.tuple ds) = true ∧ Q (.bl (ds.any fun z => PyData.eqv z d)) H
theorem op_inT {X : Cx} (hu : X.A.units + 65 < cLine) : OpR X (compareOp .In) (rInDT X.K) := by
  intro pins s σ H x y v u Q I rx ry h
  obtain ⟨d, ds, hd, he, sd, se, q⟩ := h
  obtain ⟨as, r1⟩ := Dp.reads I d x v hd rx
  obtain ⟨bs, r2⟩ := Dp.reads I (.tuple ds) y u he ry
  exact SeqAt.in_tuple_reads r2 r1 (SeqAt.canLay_of_shaped se) (SeqAt.canLay_of_shaped sd) (PyProof.Rows.room_in_shaped sd hu) ⟨.bl _, H, I, rfl, q⟩
/-- x in y, data in a tuple of data -/
def dInT (x y : D) (M : Mh) (Q : QZ) : Prop := match y with
  | .tup ys => plain x = true ∧ plains ys = true ∧ dep x ≤ 64 ∧ dep (.tup ys) ≤ 64 ∧ Q (.bl (ys.any fun z => eqD z x)) M
  | _ => False
theorem any_toP (x : D) : ∀ ys : List D, ((toPs ys).any fun z => PyData.eqv z (toP x)) = ys.any fun z => eqD z x
  | [] => rfl
  | y :: r => by
    show (PyData.eqv (toP y) (toP x) || (toPs r).any _) = _
    rw [any_toP x r]; rfl
theorem snd_inT {K : PySem.W.Frag} {mg : Str → Option Value} : Snd2 K mg (rInDT K) dInT := by
  intro F H M x y p q Q R w rx ry h k
  cases q with
  | tup ys =>
    obtain ⟨h1, h2, h3, h4, h5⟩ := (show plain p = true ∧ plains ys = true ∧ dep p ≤ 64 ∧ dep (.tup ys) ≤ 64 ∧ R (.bl (ys.any fun z => eqD z p)) M from h)
    refine ⟨toP p, toPs ys, rx.dp w.same h1, ry.dp w.same (d := .tup ys) h2, ?_, ?_, ?_⟩
    · show ((toP p).canLay0 && decide ((toP p).depth ≤ 64)) = true
      rw [rx.lay, decide_eq_true (show (toP p).depth ≤ 64 from h3)]; rfl
    · show ((toP (.tup ys)).canLay0 && decide ((toP (.tup ys)).depth ≤ 64)) = true
      rw [ry.lay, decide_eq_true (show (toP (.tup ys)).depth ≤ 64 from h4)]; rfl
    · rw [any_toP]
      exact k _ _ h5 _ _ _ (Le.refl F) w (.bl _)
  | _ => exact False.elim h
/-! ### xs[::-1] -/
def zRev (b : Bool) (a : ZE) : ZE := fun r M Q => a r M fun x M1 => zL M1 x fun ds => zNew b ds.reverse M1 Q
theorem ze_rev {X : Cx} {F0 : Fz} (b : Bool) {e : Expr} {fa : ZE} {k : Nat} {p1 p2 p3 pos : Pos} (he : PE X e (UE X F0 fa)) : PE X (.Subscript e (.Slice none none (some (.UnaryOp .USub (.Constant (.int 1) k p1) p2)) p3) pos) (UE X F0 (zRev b fa)) :=
  pe_imp (pe_revL he) fun s H Q h => by
  obtain ⟨F, rr, M, R, s0, w, e, h, k⟩ := h
  refine ⟨F, rr, M, _, s0, w, e, h, fun x M1 h1 F1 H1 v s1 w1 r1 => ?_⟩
  obtain ⟨p, vs, ds, rfl, e1, l, rl, h2⟩ := zL_out w1 r1 h1
  exact ⟨p, vs, rfl, SqL.of e1, zNew_out w1 (by rw [List.length_reverse]; exact l) rl.reverse h2 (k.mono s1)⟩
/-! ### defs with defaults -/
section
variable {P : Program} {w : World} {K : PySem.W.Frag} {mg : Str → Option Value} {base : Heap}
theorem z_okD (g : Bool) {x qual : Str} {st1 : Stmt} {dvs : List V} {f : Addr} {fd : FuncData} {N ps : List Str} {k n : Nat} {zs : ZSp} {zb : ZW → ZS} (FF : FunD K x qual (defArgs st1) (defBody st1) (defScope st1) dvs [] f fd) (S : FnScope N ps (defScope st1)) (hn : N.length - ps.length = n)
    (hz : ∀ ds M R RE, zs ds M R RE → ds.length = ps.length ∧ zFn g zb (ds.map some ++ List.replicate n none) M R RE)
    (hbody : ∀ (cdv : Value) (A : Around) (outer : List PySem.Env) (s : Shared) (H : Hp) (E : XK) (F0 : Fz) (zE : ZW), Room k (A.deeper (PyProof.Rows.envOfC qual (defScope st1) s.heap.objs.size f cdv)) → Wok K mg F0 (fun cls d _ H => E cls d H) zE →
      PSs (cxOf (L2.CX P w) P w K mg base N qual (defScope st1) f cdv A outer s H E) (defBody st1) (upS K mg F0 (zb zE))) : FnOk P w K mg base (L2.CX P w) (k + 1) f fd ps (liftSp K mg zs) := by
  refine FunD.ok FF S (fun vs H Q E h => ?_) fun cdv A outer s H vs Q E hr h => ?_
  · obtain ⟨F, M, ds, R, RE, w, rl, h, _⟩ := h
    rw [rl.length]; exact (hz ds M R RE h).1
  · obtain ⟨F, M, ds, R, RE, w, rl, h, kq, kx⟩ := h
    obtain ⟨hl, hb⟩ := hz ds M R RE h
    have wk : Wok K mg F (fun cls d _ H => E cls d H) (exB g RE) := by
      cases g with
      | true => exact wok_def kx
      | false => exact wok_def0 kx
    refine ⟨_, hbody cdv A outer s H E F _ hr wk, F, _, M, enB g R, Ge.refl _, w, ?_, hb, ?_⟩
    · have q := repE_start (K := K) (mg := mg) n rl
      have e : L2.start N vs = vs.map some ++ List.replicate n none := by
        show vs.map some ++ List.replicate (N.length - vs.length) none = _
        rw [rl.length, hl, hn]
      rw [e]; exact q
    · cases g with
      | true =>
        refine ⟨fun r M' ⟨M2, l, h⟩ F' s' H' s1 w1 e1 => kq _ _ h F' H' _ s1 (w1.drop l) .non, fun d M' ⟨d', M2, g, h⟩ F' H' v s1 w1 r1 => ?_, fun _ _ h => h.elim, fun _ _ h => h.elim⟩
        obtain ⟨F2, s2, w2, r2⟩ := g.sound w1 r1
        exact kq _ _ h F2 H' v (s1.trans s2) w2 r2
      | false => exact ⟨fun r M' h F' s' H' s1 w1 e1 => kq _ _ h F' H' _ s1 w1 .non, kq, fun _ _ h => h.elim, fun _ _ h => h.elim⟩
/-- the def's facts, from the written part -/
theorem funD_mk {x qual : Str} {st1 : Stmt} {f : Addr} {oc : Value} {od an : Option Addr} {osl : Array (Option Value)} {T : Addr} {ci : List Value} {cn : Nat} {cs : Array (Option Value)} {kV doc pm cdv ct : Value} {dvs : List V} (l : K.lookup f = some ⟨oc, od, .func (PySem.W.fnOf x qual (defArgs st1) (defBody st1) (defScope st1) (.ref T) kV doc pm an cdv ct), osl⟩)
    (c : PySem.W.codeIn K cdv qual = true) (k : PySem.W.keepIn K (.ref f) = true) (lT : K.lookup T = some ⟨.type "tuple", none, .seq ci.toArray cn, cs⟩) (hv : ci.map absV = dvs.map some) (hd : dvs ≠ []) : FunD K x qual (defArgs st1) (defBody st1) (defScope st1) dvs [] f (PySem.W.fnOf x qual (defArgs st1) (defBody st1) (defScope st1) (.ref T) kV doc pm an cdv ct) :=
  ⟨⟨oc, od, .ref T, kV, doc, pm, an, cdv, ct, osl, rfl, l, c, .inr ⟨hd, T, _, ci, cn, rfl, lT, rfl, vals_of_abs hv⟩, .inl rfl⟩, k⟩
end
section
variable {r : Env} {M : Mh} {Q : QZ} {a : ZE}
theorem i_rev {b : Bool} (h : a r M fun x M1 => zL M1 x fun ds => zNew b ds.reverse M1 Q) : zRev b a r M Q := h
theorem i_zLl {ds : List D} {k : List D → Prop} (h : k ds) : zL M (.lst ds) k := h
end
end Zl

/-! Zi: how readings are answered, step by step, outermost first -/
namespace Zl
open PySem L2
section
variable {r : Env} {M M1 : Mh} {Q : QZ} {QB : Bool → Mh → Prop} {QA : List D → Mh → Prop} {d x y : D} {ds xs ys : List D} {i j k : Int} {a b c : ZE} {t u : ZT} {f g : D → D → Mh → QZ → Prop}
theorem i_var {n : Nat} (h : gt r n = some d) (q : Q d M) : zVar n r M Q := by
  unfold zVar; rw [h]; exact q
theorem i_c (q : Q d M) : zC d r M Q := q
theorem i_2 (h : a r M fun x M1 => b r M1 fun y M2 => f x y M2 Q) : z2 f a b r M Q := h
theorem i_1 {f : D → Mh → QZ → Prop} (h : a r M fun x M1 => f x M1 Q) : z1 f a r M Q := h
theorem i_newF (q : Q (.lst ds) M) : zNew false ds M Q := q
theorem i_newT (q : ∀ p, M p = none → Q (.ref p) (mup M p (.lst ds))) : zNew true ds M Q := q
theorem i_addI {n : Bool} (q : Q (.int (i + j)) M) : dAdd n (.int i) (.int j) M Q := q
theorem i_addS {n : Bool} {s t : Str} (h : s.length + t.length ≤ sizeLine) (q : Q (.str (s ++ t)) M) : dAdd n (.str s) (.str t) M Q := ⟨h, q⟩
theorem i_addL {n : Bool} (h : xs.length + ys.length ≤ sizeLine) (q : zNew n (xs ++ ys) M Q) : dAdd n (.lst xs) (.lst ys) M Q := ⟨h, q⟩
theorem i_addLR {n : Bool} {p : Addr} (e : M p = some (.lst ys)) (h : xs.length + ys.length ≤ sizeLine) (q : zNew n (xs ++ ys) M Q) : dAdd n (.lst xs) (.ref p) M Q := by
  show zL M (.ref p) _; rw [zL_ref e]; exact ⟨h, q⟩
theorem i_addRL {n : Bool} {p : Addr} (e : M p = some (.lst xs)) (h : xs.length + ys.length ≤ sizeLine) (q : zNew n (xs ++ ys) M Q) : dAdd n (.ref p) (.lst ys) M Q := by
  show zL M (.ref p) _; rw [zL_ref e]; exact ⟨h, q⟩
theorem i_addRR {n : Bool} {p p' : Addr} (e : M p = some (.lst xs)) (e' : M p' = some (.lst ys)) (h : xs.length + ys.length ≤ sizeLine) (q : zNew n (xs ++ ys) M Q) : dAdd n (.ref p) (.ref p') M Q := by
  show zL M (.ref p) _; rw [zL_ref e, zL_ref e']; exact ⟨h, q⟩
theorem i_sub (q : Q (.int (i - j)) M) : dSub (.int i) (.int j) M Q := q
theorem i_mulI {n : Bool} (h : CMul i j) (q : Q (.int (i * j)) M) : dMul n (.int i) (.int j) M Q := ⟨h, q⟩
theorem i_mulL {n : Bool} (h1 : -(2 ^ 63) ≤ k) (h2 : k < 2 ^ 63) (h : xs.length * k.toNat ≤ sizeLine) (q : zNew n (List.replicate k.toNat xs).flatten M Q) : dMul n (.lst xs) (.int k) M Q := ⟨h1, h2, h, q⟩
theorem i_div (h : CDiv i j) (q : Q (.int (i / j)) M) : dDiv (.int i) (.int j) M Q := ⟨h, q⟩
theorem i_mod (h : 0 < j) (q : Q (.int (i % j)) M) : dMod (.int i) (.int j) M Q := ⟨h, q⟩
theorem i_pow (h : CPow i j) (q : Q (.int (i ^ j.toNat)) M) : dPow (.int i) (.int j) M Q := ⟨h, q⟩
theorem i_shr (h : 0 ≤ j) (q : Q (.int (i / 2 ^ j.toNat)) M) : dShr (.int i) (.int j) M Q := ⟨h, q⟩
theorem i_band (q : Q (.int (Builtin.bitAnd i j)) M) : dAnd (.int i) (.int j) M Q := q
theorem i_bxor (q : Q (.int (Builtin.bitXor i j)) M) : dXor (.int i) (.int j) M Q := q
theorem i_neg (q : Q (.int (-i)) M) : dNeg (.int i) M Q := q
theorem i_lt (q : Q (.bl (decide (i < j))) M) : dCmp pLt (.int i) (.int j) M Q := q
theorem i_le (q : Q (.bl (decide (i ≤ j))) M) : dCmp pLe (.int i) (.int j) M Q := q
theorem i_gt (q : Q (.bl (decide (j < i))) M) : dCmp pGt (.int i) (.int j) M Q := q
theorem i_ge (q : Q (.bl (decide (j ≤ i))) M) : dCmp pGe (.int i) (.int j) M Q := q
/-! equality -/
def nref : D → Bool
  | .ref _ => false
  | _ => true
/-- plain, and not deeper than n -/
structure Pl (n : Nat) (x : D) : Prop where
  p : Zl.plain x = true
  d : dep x ≤ n
theorem Pl.nref {n : Nat} (h : Pl n x) : Zl.nref x = true := by
  cases x <;> first | rfl | exact absurd h.p (by simp [Zl.plain])
theorem Pl.mono {n m : Nat} (h : Pl n x) (l : n ≤ m) : Pl m x := ⟨h.p, Nat.le_trans h.d l⟩
theorem Pl.int (n : Nat) (i : Int) : Pl n (.int i) := ⟨rfl, Nat.zero_le _⟩
theorem Pl.bl (n : Nat) (b : Bool) : Pl n (.bl b) := ⟨rfl, Nat.zero_le _⟩
theorem Pl.str (n : Nat) (s : Str) : Pl n (.str s) := ⟨rfl, Nat.zero_le _⟩
theorem Pl.non (n : Nat) : Pl n .non := ⟨rfl, Nat.zero_le _⟩
theorem plains_all : ∀ {ds : List D}, (∀ x ∈ ds, Zl.plain x = true) → plains ds = true
  | [], _ => rfl
  | d :: r, h => by
    show (Zl.plain d && plains r) = true
    rw [h d List.mem_cons_self, plains_all fun x hx => h x (List.mem_cons_of_mem _ hx)]; rfl
theorem deps_all {n : Nat} : ∀ {ds : List D}, (∀ x ∈ ds, dep x ≤ n) → PyData.depthAll (toPs ds) ≤ n
  | [], _ => Nat.zero_le _
  | d :: r, h => by
    show max (toP d).depth (PyData.depthAll (toPs r)) ≤ n
    exact Nat.max_le.mpr ⟨h d List.mem_cons_self, deps_all fun x hx => h x (List.mem_cons_of_mem _ hx)⟩
theorem Pl.lst {n : Nat} (h : ∀ x ∈ ds, Pl n x) : Pl (n + 1) (.lst ds) := ⟨plains_all fun x hx => (h x hx).p, Nat.succ_le_succ (deps_all fun x hx => (h x hx).d)⟩
theorem Pl.tup {n : Nat} (h : ∀ x ∈ ds, Pl n x) : Pl (n + 1) (.tup ds) := ⟨plains_all fun x hx => (h x hx).p, Nat.succ_le_succ (deps_all fun x hx => (h x hx).d)⟩
theorem Pl.flat {n : Nat} (h : flatD x = true) : Pl n x := by
  cases x with
  | non => exact .non n
  | bl b => exact .bl n b
  | int i => exact .int n i
  | str s => exact .str n s
  | _ => cases h
theorem Pl.lflat {n : Nat} (h : ds.all flatD = true) : Pl (n + 1) (.lst ds) := .lst fun x hx => .flat (List.all_eq_true.mp h x hx)
theorem Pl.tflat {n : Nat} (h : ds.all flatD = true) : Pl (n + 1) (.tup ds) := .tup fun x hx => .flat (List.all_eq_true.mp h x hx)
theorem Pl.ints {n : Nat} (ns : List Int) : Pl (n + 1) (.lst (ns.map D.int)) := .lst fun x hx => by
  obtain ⟨i, _, e⟩ := List.mem_map.mp hx
  subst e; exact .int n i
theorem Pl.two {n : Nat} (h : Pl n x) (h' : Pl n y) : Pl (n + 1) (.tup [x, y]) := .tup fun z hz => by
  rcases List.mem_cons.mp hz with e | hz
  · subst e; exact h
  · rcases List.mem_cons.mp hz with e | hz
    · subst e; exact h'
    · cases hz
theorem i_eqG {x' y' : D} (rx : Rs M x x') (ry : Rs M y y') (hx : Pl 64 x') (hy : Pl 64 y') (q : Q (.bl (eqD x' y')) M) : dEq x y M Q := ⟨x', rx, y', ry, hx.p, hy.p, .inl hx.d, q⟩
theorem i_neG {x' y' : D} (rx : Rs M x x') (ry : Rs M y y') (hx : Pl 64 x') (hy : Pl 64 y') (q : Q (.bl (!eqD x' y')) M) : dNe x y M Q := ⟨x', rx, y', ry, hx.p, hy.p, .inl hx.d, q⟩
theorem Rs.at {p : Addr} (e : M p = some (.lst xs)) : Rs M (.ref p) (.lst xs) := .ref e (.refl M xs)
theorem i_eq (hx : Pl 64 x) (hy : Pl 64 y) (q : Q (.bl (eqD x y)) M) : dEq x y M Q := i_eqG (.refl _) (.refl _) hx hy q
theorem i_ne (hx : Pl 64 x) (hy : Pl 64 y) (q : Q (.bl (!eqD x y)) M) : dNe x y M Q := i_neG (.refl _) (.refl _) hx hy q
theorem i_eqR {p : Addr} (e : M p = some (.lst xs)) (hx : Pl 64 (.lst xs)) (hy : Pl 64 y) (q : Q (.bl (eqD (.lst xs) y)) M) : dEq (.ref p) y M Q := i_eqG (.at e) (.refl _) hx hy q
theorem i_neR {p : Addr} (e : M p = some (.lst xs)) (hx : Pl 64 (.lst xs)) (hy : Pl 64 y) (q : Q (.bl (!eqD (.lst xs) y)) M) : dNe (.ref p) y M Q := i_neG (.at e) (.refl _) hx hy q
theorem i_eqLR {p : Addr} (e : M p = some (.lst ys)) (hx : Pl 64 x) (hy : Pl 64 (.lst ys)) (q : Q (.bl (eqD x (.lst ys))) M) : dEq x (.ref p) M Q := i_eqG (.refl _) (.at e) hx hy q
theorem i_neLR {p : Addr} (e : M p = some (.lst ys)) (hx : Pl 64 x) (hy : Pl 64 (.lst ys)) (q : Q (.bl (!eqD x (.lst ys))) M) : dNe x (.ref p) M Q := i_neG (.refl _) (.at e) hx hy q
@[simp] theorem eqD_int (i j : Int) : eqD (.int i) (.int j) = (i == j) := rfl
@[simp] theorem eqD_str (s t : Str) : eqD (.str s) (.str t) = (s == t) := rfl
@[simp] theorem eqD_bl (s t : Bool) : eqD (.bl s) (.bl t) = (s == t) := rfl
@[simp] theorem eqD_lst (s t : List D) : eqD (.lst s) (.lst t) = eqDs s t := rfl
@[simp] theorem eqD_tup (s t : List D) : eqD (.tup s) (.tup t) = eqDs s t := rfl
@[simp] theorem eqD_is (i : Int) (s : Str) : eqD (.int i) (.str s) = false := rfl
@[simp] theorem eqD_si (i : Int) (s : Str) : eqD (.str s) (.int i) = false := rfl
@[simp] theorem eqDs_nil : eqDs [] [] = true := rfl
@[simp] theorem eqDs_cons (x y : D) (s t : List D) : eqDs (x :: s) (y :: t) = (eqD x y && eqDs s t) := rfl
@[simp] theorem eqDs_nc (y : D) (t : List D) : eqDs [] (y :: t) = false := rfl
@[simp] theorem eqDs_cn (x : D) (s : List D) : eqDs (x :: s) [] = false := rfl
/-! in, is -/
theorem i_inL {n : Bool} (h1 : flatD x = true) (h2 : ys.all flatD = true) (q : Q (.bl (if n then !inD x ys else inD x ys)) M) : dIn n x (.lst ys) M Q := ⟨h1, h2, q⟩
theorem i_inT {n : Bool} (h1 : flatD x = true) (h2 : ys.all flatD = true) (q : Q (.bl (if n then !inD x ys else inD x ys)) M) : dIn n x (.tup ys) M Q := ⟨h1, h2, q⟩
theorem i_isN (q : Q (.bl (isN x)) M) : dIs x .non M Q := q
theorem i_isNotN (q : Q (.bl (!isN x)) M) : dIsNot x .non M Q := q
theorem i_isB {s t : Bool} (q : Q (.bl (decide (s = t))) M) : dIs (.bl s) (.bl t) M Q := q
theorem i_isNotB {s t : Bool} (q : Q (.bl (!decide (s = t))) M) : dIsNot (.bl s) (.bl t) M Q := q
/-! subscripts -/
theorem i_ixL (h : atI ds i = some d) (q : Q d M) : dIx (.lst ds) (.int i) M Q := by
  show (match atI ds i with | some d => Q d M | none => False); rw [h]; exact q
theorem i_ixT (h : atI ds i = some d) (q : Q d M) : dIx (.tup ds) (.int i) M Q := by
  show (match atI ds i with | some d => Q d M | none => False); rw [h]; exact q
theorem i_ixR {p : Addr} (e : M p = some (.lst ds)) (h : atI ds i = some d) (q : Q d M) : dIx (.ref p) (.int i) M Q := by
  show zLT M (.ref p) _; rw [zLT_ref e, h]; exact q
theorem i_ixS {s : Str} {ch : Nat} (h : atI s.cps.toList i = some ch) (q : Q (.str ⟨#[ch]⟩) M) : dIx (.str s) (.int i) M Q := by
  show (match atI s.cps.toList i with | some c => Q (.str ⟨#[c]⟩) M | none => False); rw [h]; exact q
/-- slices, by the values of their parts -/
def dSl (n : Bool) (x : D) (l h : Option Int) (M : Mh) (Q : QZ) : Prop := match x with
  | .str s => Q (.str (cutS s l h)) M
  | x => zL M x fun ds => zNew n (cutD ds l h) M Q
theorem i_sl {n : Bool} {lo hi : ZO} (h : a r M fun x M1 => lo r M1 fun l M2 => hi r M2 fun h M3 => dSl n x l h M3 Q) : zSl n a lo hi r M Q := h
theorem i_part {Q : Option Int → Mh → Prop} (h : a r M fun d M1 => onInt d fun i => Q (some i) M1) : zPart a r M Q := h
theorem i_nopart {Q : Option Int → Mh → Prop} (q : Q none M) : zNoPart r M Q := q
theorem i_onInt {k : Int → Prop} (h : k i) : onInt (.int i) k := h
theorem i_slL {n : Bool} {l h : Option Int} (q : zNew n (cutD ds l h) M Q) : dSl n (.lst ds) l h M Q := q
theorem i_slR {n : Bool} {l h : Option Int} {p : Addr} (e : M p = some (.lst ds)) (q : zNew n (cutD ds l h) M Q) : dSl n (.ref p) l h M Q := by
  show zL M (.ref p) _; rw [zL_ref e]; exact q
theorem i_slS {n : Bool} {l h : Option Int} {s : Str} (q : Q (.str (cutS s l h)) M) : dSl n (.str s) l h M Q := q
/-! truth -/
theorem i_B (h : a r M fun d M1 => onBl d fun b => QB b M1) : zB a r M QB := h
theorem i_onBl {k : Bool → Prop} {b : Bool} (h : k b) : onBl (.bl b) k := h
theorem i_and (h : t r M fun b M1 => bsel b (u r M1 QB) (QB false M1)) : zAnd t u r M QB := h
theorem i_or (h : t r M fun b M1 => bsel b (QB true M1) (u r M1 QB)) : zOr t u r M QB := h
theorem i_not (h : t r M fun b M1 => QB (!b) M1) : zNot t r M QB := h
theorem i_andV (h : a r M fun d M1 => onBl d fun c => bsel c (b r M1 Q) (Q (.bl false) M1)) : zAndV a b r M Q := h
theorem i_orV (h : a r M fun d M1 => onBl d fun c => bsel c (Q (.bl true) M1) (b r M1 Q)) : zOrV a b r M Q := h
theorem i_notV (h : a r M fun d M1 => onBl d fun b => Q (.bl (!b)) M1) : zNotV a r M Q := h
theorem i_ifE (h : t r M fun c M1 => bsel c (a r M1 Q) (b r M1 Q)) : zIfE t a b r M Q := h
theorem i_chain (h : a r M fun x M1 => b r M1 fun y M2 => f x y M2 fun z M3 => onBl z fun k => bsel k (c r M3 fun u M4 => g y u M4 Q) (Q (.bl false) M3)) : zChain f g a b c r M Q := h
theorem i_bT {A B : Prop} (h : A) : bsel true A B := h
theorem i_bF {A B : Prop} (h : B) : bsel false A B := h
theorem i_b {A B : Prop} {b : Bool} (h1 : b = true → A) (h2 : b = false → B) : bsel b A B := by cases b with | true => exact h1 rfl | false => exact h2 rfl
theorem i_bd {A B C : Prop} [Decidable C] (h1 : C → A) (h2 : ¬ C → B) : bsel (decide C) A B := i_b (fun e => h1 (of_decide_eq_true e)) fun e => h2 (of_decide_eq_false e)
theorem i_bdT {A B C : Prop} [Decidable C] (c : C) (h : A) : bsel (decide C) A B := by rw [decide_eq_true c]; exact h
theorem i_bdF {A B C : Prop} [Decidable C] (c : ¬ C) (h : B) : bsel (decide C) A B := by rw [decide_eq_false c]; exact h
theorem i_bnT {A B : Prop} {b : Bool} (e : b = true) (h : B) : bsel (!b) A B := by rw [e]; exact h
theorem i_bnF {A B : Prop} {b : Bool} (e : b = false) (h : A) : bsel (!b) A B := by rw [e]; exact h
theorem i_beT {A B : Prop} {b : Bool} (e : b = true) (h : A) : bsel b A B := by rw [e]; exact h
theorem i_beF {A B : Prop} {b : Bool} (e : b = false) (h : B) : bsel b A B := by rw [e]; exact h
/-! arguments, displays, calls -/
theorem i_nil (q : QA [] M) : zNil r M QA := q
theorem i_cons {t : ZA} (h : a r M fun x M1 => t r M1 fun xs M2 => QA (x :: xs) M2) : zCons a t r M QA := h
theorem i_tup {t : ZA} (h : t r M fun ds M1 => ds.length ≤ sizeLine ∧ Q (.tup ds) M1) : zTup t r M Q := h
theorem i_lst {n : Bool} {t : ZA} (h : t r M fun ds M1 => ds.length ≤ sizeLine ∧ zNew n ds M1 Q) : zLst n t r M Q := h
theorem i_call {zs : ZSp} {zE : ZW} {t : ZA} (h : t r M fun ds M1 => zs ds M1 Q fun c fs M' => zE c fs r M') : zCall zs zE t r M Q := h
theorem i_cb {f : List D → Mh → QZ → Prop} {t : ZA} (h : t r M fun ds M1 => f ds M1 Q) : zCB f t r M Q := h
theorem i_lenL (q : Q (.int ds.length) M) : dLen [.lst ds] M Q := q
theorem i_lenT (q : Q (.int ds.length) M) : dLen [.tup ds] M Q := q
theorem i_lenS {s : Str} (q : Q (.int s.length) M) : dLen [.str s] M Q := q
theorem i_lenR {p : Addr} (e : M p = some (.lst ds)) (q : Q (.int ds.length) M) : dLen [.ref p] M Q := by
  show zLT M (.ref p) _; rw [zLT_ref e]; exact q
theorem i_isi {T t : String} (h : tyD M x = some t) (q : Q (.bl (isiB t T)) M) : dIsi T x M Q := by
  unfold dIsi; rw [h]; exact q
theorem i_sumL {ns : List Int} (q : Q (.int ns.sum) M) : dSum [.lst (ns.map D.int)] M Q := ⟨ns, rfl, q⟩
theorem i_sumE {ns : List Int} (h : ds = ns.map D.int) (q : Q (.int ns.sum) M) : dSum [.lst ds] M Q := ⟨ns, h, q⟩
theorem i_allE {bs : List Bool} (h : ds = bs.map D.bl) (q : Q (.bl (bs.all id)) M) : dAll [.lst ds] M Q := ⟨bs, h, q⟩
theorem i_max2 (q : Q (.int (if j > i then j else i)) M) : dMaxL [.int i, .int j] M Q := q
theorem i_min2 (q : Q (.int (if j < i then j else i)) M) : dMinL [.int i, .int j] M Q := q
theorem i_listL {n : Bool} (q : zNew n ds M Q) : dList n [.lst ds] M Q := q
theorem i_listT {n : Bool} (q : zNew n ds M Q) : dList n [.tup ds] M Q := q
theorem i_listR {n : Bool} {p : Addr} (e : M p = some (.lst ds)) (q : zNew n ds M Q) : dList n [.ref p] M Q := by
  show zLT M (.ref p) _; rw [zLT_ref e]; exact q
theorem i_tuple (q : Q (.tup ds) M) : dTuple [.lst ds] M Q := q
theorem i_divmod (h : CDiv i j) (q : Q (.tup [.int (i / j), .int (i % j)]) M) : dDivmod [.int i, .int j] M Q := ⟨h, q⟩
theorem i_abs (q : Q (.int (if i < 0 then -i else i)) M) : dAbs [.int i] M Q := q
theorem i_m {T : String} {f : D → List D → Mh → QZ → Prop} {t : ZA} (h : a r M fun x M1 => tyD M1 x = some T ∧ t r M1 fun ds M2 => f x ds M2 Q) : zM T f a t r M Q := h
theorem i_app {p : Addr} (e : M p = some (.lst ds)) (h : ds.length < sizeLine) (q : Q .non (mup M p (.lst (ds ++ [d])))) : dApp (.ref p) [d] M Q := by
  have z : dApp (.ref p) [d] M Q = zR M (.ref p) (fun p l => l.length < sizeLine ∧ Q .non (mup M p (.lst (l ++ [d])))) := rfl
  rw [z, zR_ref e]; exact ⟨h, q⟩
theorem i_ext {p : Addr} (e : M p = some (.lst ds)) (h : ds.length + ys.length ≤ sizeLine) (q : Q .non (mup M p (.lst (ds ++ ys)))) : dExt (.ref p) [.lst ys] M Q := by
  have z : dExt (.ref p) [.lst ys] M Q = zR M (.ref p) (fun p l => zL M (.lst ys) fun m => l.length + m.length ≤ sizeLine ∧ Q .non (mup M p (.lst (l ++ m)))) := rfl
  rw [z, zR_ref e]; exact ⟨h, q⟩
theorem tyD_ref {p : Addr} (e : M p = some (.lst ds)) : tyD M (.ref p) = some "list" := by
  show (match M p with | some (.lst _) => some "list" | _ => none) = _; rw [e]
theorem i_tix {t : ZA} (h : t r M fun es M1 => match es with
  | [y] => flatD y = true ∧ (match idxD y ds with | some j => Q (.int (j : Nat)) M1 | none => False)
  | _ => False) : zTIx ds t r M Q := h
end
section
variable {E : ZEnds} {r : Env} {M : Mh} {t u : ZS} {a : ZE} {c : ZT} {g : ZG} {d : D} {Q : Env → Mh → Prop}
theorem i_seq (h : t { nx := u E, rt := E.rt, bk := E.bk, ct := E.ct } r M) : zSeq t u E r M := h
theorem i_asg (h : a r M fun d M1 => g d r M1 E.nx) : zAsg a g E r M := h
theorem i_name {i : Nat} (h : Q (st r i (some d)) M) : zgName i d r M Q := h
theorem i_gtup {n : Nat} {gs : ZGs} {ds : List D} (e : ds.length = n) (h : gs ds r M Q) : zgTup n gs (.tup ds) r M Q := ⟨e, h⟩
theorem i_gcons {gs : ZGs} {ds : List D} (h : g d r M fun r' M' => gs ds r' M' Q) : zgCons g gs (d :: ds) r M Q := h
theorem i_gnil (h : Q r M) : zgNil [] r M Q := h
theorem i_if (h : c r M fun b M1 => bsel b (t E r M1) (u E r M1)) : zIf c t u E r M := h
theorem i_ret (h : a r M E.rt) : zRet a E r M := h
theorem i_retN (h : E.rt .non M) : zRetN E r M := h
theorem i_drop (h : a r M fun _ M1 => E.nx r M1) : zDrop a E r M := h
theorem i_next (h : E.nx r M) : zNext E r M := h
theorem i_brk (h : E.bk r M) : zBreak E r M := h
theorem i_for {zi : ZI} {tb : ZS} (h : zi r M fun ds c M1 => zLoop c (zStep g tb E) E.nx ds r M1) : zFor zi g tb E r M := h
theorem i_while {tb : ZS} (n : Nat) (h : zWhileN c tb E n r M) : zWhile c tb E r M := ⟨n, h⟩
theorem i_raise {zE : ZW} {x : Str} (h : zE x [] r M) : zRaise zE x E r M := h
theorem i_gsub {o i : ZE} (h : o r M fun x M1 => i r M1 fun y M2 => dSet x y d M2 fun M3 => Q r M3) : zgSub o i d r M Q := h
theorem i_set {p : Addr} {n : Int} {j : Nat} {ds : List D} {k : Mh → Prop} (e : M p = some (.lst ds)) (h : ixN ds.length n = some j) (q : k (mup M p (.lst (ds.set j d)))) : dSet (.ref p) (.int n) d M k := by
  show (match M p with | some (.lst ds) => (match ixN ds.length n with | some j => k (mup M p (.lst (ds.set j d))) | none => False) | _ => False)
  rw [e]; simp only [h]; exact q
theorem i_rtG {R : QZ} (h : R d M) : (enB true R).rt d M := ⟨d, M, .refl, h⟩
theorem i_rtF {R : QZ} {p : Addr} {ds : List D} (e : M p = some (.lst ds)) (h : R (.lst ds) (mdel M p)) : (enB true R).rt (.ref p) M := ⟨_, _, .frz e, by unfold frzD; rw [if_pos rfl]; exact h⟩
theorem i_rt0 {R : QZ} (h : R d M) : (enB false R).rt d M := h
theorem i_ex0 {RE : ZX} {x : Str} {fs : List (Str × D)} (h : RE x fs M) : exB false RE x fs r M := h
theorem i_exG {RE : ZX} {x : Str} {fs : List (Str × D)} (h : RE x fs M) : exB true RE x fs r M := ⟨M, Less.refl M, h⟩
theorem i_nx0 {R : QZ} (h : R .non M) : (enB false R).nx r M := h
theorem i_nxG {R : QZ} (h : R .non M) : (enB true R).nx r M := ⟨M, Less.refl M, h⟩
end
/-! ### loops and comprehensions by what holds -/
theorem zLoop_ind {c : Ck} {step : D → (Env → Mh → Prop) → Env → Mh → Prop} {nx : Env → Mh → Prop} (P : List D → Env → Mh → Prop) (hd : ∀ r M, P [] r M → zck c M (nx r M)) (hs : ∀ d l r M (k : Env → Mh → Prop), P (d :: l) r M → (∀ r' M', P l r' M' → k r' M') → zck c M (step d k r M)) :
    ∀ {ds : List D} {r : Env} {M : Mh}, P ds r M → zLoop c step nx ds r M
  | [], r, M, h => hd r M h
  | d :: l, r, M, h => hs d l r M _ h fun r' M' h' => zLoop_ind P hd hs h'
theorem zLcL_ind {c : Ck} {step : D → Mh → (Option D → Mh → Prop) → Prop} {k : List D → Mh → Prop} (P : List D → List D → Mh → Prop) (hd : ∀ acc M, P [] acc M → zck c M (k acc M))
    (hs : ∀ d l acc M (q : Option D → Mh → Prop), P (d :: l) acc M → (∀ M', P l acc M' → q none M') → (∀ y M', P l (acc ++ [y]) M' → q (some y) M') → zck c M (step d M q)) :
    ∀ {ds acc : List D} {M : Mh}, P ds acc M → zLcL c step k ds acc M
  | [], acc, M, h => hd acc M h
  | d :: l, acc, M, h => hs d l acc M _ h (fun M' h' => zLcL_ind P hd hs h') (fun y M' h' => zLcL_ind P hd hs h')
/-- a comprehension that only reckons -/
theorem zLcL_map {step : D → Mh → (Option D → Mh → Prop) → Prop} {k : List D → Mh → Prop} (f : D → D) {M : Mh} : ∀ {ds acc : List D}, (∀ d, d ∈ ds → ∀ Q : Option D → Mh → Prop, Q (some (f d)) M → step d M Q) → k (acc ++ ds.map f) M → zLcL none step k ds acc M
  | [], acc, _, h => by
    show k acc M
    simpa using h
  | d :: l, acc, hs, h => by
    show step d M _
    refine hs d List.mem_cons_self _ ?_
    show zLcL none step k l (acc ++ [f d]) M
    exact zLcL_map f (fun e he => hs e (List.mem_cons_of_mem _ he)) (by simpa using h)
/-- .. with a test -/
theorem zLcL_filter {step : D → Mh → (Option D → Mh → Prop) → Prop} {k : List D → Mh → Prop} (p : D → Bool) (f : D → D) {M : Mh} : ∀ {ds acc : List D}, (∀ d, d ∈ ds → ∀ Q : Option D → Mh → Prop, (p d = true → Q (some (f d)) M) → (p d = false → Q none M) → step d M Q) → k (acc ++ (ds.filter p).map f) M → zLcL none step k ds acc M
  | [], acc, _, h => by
    show k acc M
    simpa using h
  | d :: l, acc, hs, h => by
    show step d M _
    refine hs d List.mem_cons_self _ (fun hp => ?_) (fun hp => ?_)
    · show zLcL none step k l (acc ++ [f d]) M
      exact zLcL_filter p f (fun e he => hs e (List.mem_cons_of_mem _ he)) (by simpa [List.filter_cons, hp] using h)
    · show zLcL none step k l acc M
      exact zLcL_filter p f (fun e he => hs e (List.mem_cons_of_mem _ he)) (by simpa [List.filter_cons, hp] using h)
theorem i_lc {nb : Bool} {zi : ZI} {g : ZG} {tt : ZT} {te : ZE} {vs : List Nat} {r : Env} {M : Mh} {Q : QZ} (h : zi r M fun ds c M1 => zLcL c (zLcS g tt te (zwipe r vs)) (fun acc M2 => zNew nb acc M2 Q) ds [] M1) : zLc nb zi g tt te vs r M Q := h
theorem i_lcS {g : ZG} {tt : ZT} {te : ZE} {r : Env} {d : D} {M : Mh} {Q : Option D → Mh → Prop} (h : g d r M fun r' M' => tt r' M' fun b M1 => bsel b (te r' M1 fun y M2 => Q (some y) M2) (Q none M1)) : zLcS g tt te r d M Q := h
theorem i_yes {r : Env} {M : Mh} {Q : Bool → Mh → Prop} (h : Q true M) : zYes r M Q := h
theorem i_iLl {r : Env} {M : Mh} {a : ZE} {Q : List D → Ck → Mh → Prop} (h : a r M fun d M1 => onLst d M1 fun ds c => Q ds c M1) : ziList a r M Q := h
theorem i_onL {M : Mh} {ds : List D} {k : List D → Ck → Prop} (h : k ds none) : onLst (.lst ds) M k := h
theorem i_onR {M : Mh} {p : Addr} {ds : List D} {k : List D → Ck → Prop} (e : M p = some (.lst ds)) (h : k ds (some (p, ds))) : onLst (.ref p) M k := by
  show (match M p with | some (.lst ds) => k ds (some (p, ds)) | _ => False); rw [e]; exact h
theorem i_range {r : Env} {M : Mh} {ta : ZA} {Q : List D → Ck → Mh → Prop} (h : ta r M fun ds M1 => onI1 ds fun j => -(2 ^ 62) ≤ j ∧ j ≤ 16777216 ∧ Q (rangeD 0 1 j.toNat) none M1) : ziRange ta r M Q := h
theorem i_range2 {r : Env} {M : Mh} {ta : ZA} {Q : List D → Ck → Mh → Prop} (h : ta r M fun ds M1 => onI2 ds fun i j => -(2 ^ 62) ≤ i ∧ i < 2 ^ 62 ∧ -(2 ^ 62) ≤ j ∧ j < 2 ^ 62 ∧ j - i ≤ 16777216 ∧ Q (rangeD i 1 (j - i).toNat) none M1) : ziRange2 ta r M Q := h
theorem i_onI1 {k : Int → Prop} {i : Int} (h : k i) : onI1 [.int i] k := h
theorem i_onI2 {k : Int → Int → Prop} {i j : Int} (h : k i j) : onI2 [.int i, .int j] k := h
theorem i_iT {r : Env} {M : Mh} {a : ZE} {Q : List D → Ck → Mh → Prop} (h : a r M fun d M1 => onTup d fun ds => Q ds none M1) : ziTup a r M Q := h
theorem i_onT {ds : List D} {k : List D → Prop} (h : k ds) : onTup (.tup ds) k := h
theorem i_iS {r : Env} {M : Mh} {a : ZE} {Q : List D → Ck → Mh → Prop} (h : a r M fun d M1 => onStr d fun s => Q (charsD s) none M1) : ziStr a r M Q := h
theorem i_onS {s : Str} {k : Str → Prop} (h : k s) : onStr (.str s) k := h
theorem i_par2 {E : ZEnds} {r : Env} {M : Mh} {i j : Nat} {ta : ZA} (h : ta r M fun ds M1 => on2 ds fun x y => E.nx (st (st r i (some x)) j (some y)) M1) : zPar i j ta E r M := h
theorem i_on2 {x y : D} {k : D → D → Prop} (h : k x y) : on2 [x, y] k := h
theorem rangeD_map (lo : Int) : ∀ (n : Nat), rangeD lo 1 n = (List.range n).map fun (k : Nat) => D.int (lo + (k : Nat)) := by
  intro n
  apply List.ext_getElem?
  intro i
  by_cases h : i < n
  · have h1 : i < (rangeD lo 1 n).length := by rw [rangeD_len]; exact h
    obtain ⟨_, e⟩ := rangeD_get n lo 1 i _ (List.getElem?_eq_getElem h1)
    rw [List.getElem?_eq_getElem h1, e, List.getElem?_map, List.getElem?_range h]
    simp
  · rw [List.getElem?_eq_none (by rw [rangeD_len]; omega), List.getElem?_eq_none (by simp; omega)]
theorem i_ck0 {M : Mh} {P : Prop} (h : P) : zck none M P := h
theorem i_step {g : ZG} {tb : ZS} {E : ZEnds} {d : D} {k : Env → Mh → Prop} {r : Env} {M : Mh} (h : g d r M fun r' M' => tb { nx := k, rt := E.rt, bk := E.nx, ct := k } r' M') : zStep g tb E d k r M := h
/-- a new list goes out, as one that stays -/
theorem i_rtN {R : QZ} {M : Mh} {p : Addr} {ds : List D} (hp : M p = none) (h : R (.lst ds) M) : (enB true R).rt (.ref p) (mup M p (.lst ds)) := i_rtF mup_same (by rw [mdel_mup hp]; exact h)
/-! steps that close their own conditions -/
theorem i_sz {n : Nat} {P : Prop} (h : n ≤ sizeLine) (q : P) : n ≤ sizeLine ∧ P := ⟨h, q⟩
theorem i_rg {j : Int} {P : Prop} (h : -(2 ^ 62) ≤ j) (h' : j ≤ 16777216) (q : P) : -(2 ^ 62) ≤ j ∧ j ≤ 16777216 ∧ P := ⟨h, h', q⟩
theorem i_ty {M : Mh} {x : D} {T : String} {P : Prop} (h : tyD M x = some T) (q : P) : tyD M x = some T ∧ P := ⟨h, q⟩
theorem i_lenIs {M : Mh} {Q : QZ} {α : Type} {f : α → D} {as : List α} (q : Q (.int as.length) M) : dLen [.lst (as.map f)] M Q := by
  show Q (.int (as.map f).length) M; rw [List.length_map]; exact q
theorem i_lenRs {M : Mh} {Q : QZ} {α : Type} {f : α → D} {as : List α} {p : Addr} (e : M p = some (.lst (as.map f))) (q : Q (.int as.length) M) : dLen [.ref p] M Q := i_lenR e (by rw [List.length_map]; exact q)
theorem i_eqII {M : Mh} {Q : QZ} {i j : Int} (q : Q (.bl (decide (i = j))) M) : dEq (.int i) (.int j) M Q := i_eq (.int _ _) (.int _ _) (by
  rw [show eqD (.int i) (.int j) = decide (i = j) from rfl]; exact q)
theorem i_neII {M : Mh} {Q : QZ} {i j : Int} (q : Q (.bl (!decide (i = j))) M) : dNe (.int i) (.int j) M Q := i_ne (.int _ _) (.int _ _) (by
  rw [show eqD (.int i) (.int j) = decide (i = j) from rfl]; exact q)
theorem i_eqSS {M : Mh} {Q : QZ} {i j : Str} (q : Q (.bl (decide (i = j))) M) : dEq (.str i) (.str j) M Q := i_eq (.str _ _) (.str _ _) (by
  rw [show eqD (.str i) (.str j) = decide (i = j) from rfl]; exact q)
theorem i_neSS {M : Mh} {Q : QZ} {i j : Str} (q : Q (.bl (!decide (i = j))) M) : dNe (.str i) (.str j) M Q := i_ne (.str _ _) (.str _ _) (by
  rw [show eqD (.str i) (.str j) = decide (i = j) from rfl]; exact q)
theorem i_eqIS {M : Mh} {Q : QZ} {i : Int} {j : Str} (q : Q (.bl false) M) : dEq (.int i) (.str j) M Q := i_eq (.int _ _) (.str _ _) q
theorem i_neIS {M : Mh} {Q : QZ} {i : Int} {j : Str} (q : Q (.bl true) M) : dNe (.int i) (.str j) M Q := i_ne (.int _ _) (.str _ _) q
theorem i_bN {A B : Prop} {b : Bool} (h : bsel b B A) : bsel (!b) A B := by cases b <;> exact h
theorem i_cif {M : Mh} {Q : QZ} {b : Bool} (q : Q (.bl b) M) : Q (.bl (if false = true then !b else b)) M := q
theorem i_enum {r : Env} {M : Mh} {n : Nat} {ds : List D} {Q : List D → Ck → Mh → Prop} (h : gt r n = some (.lst ds)) (q : Q (enumD 0 ds) none M) : ziEnum (zCons (zVar n) zNil) r M Q := i_cons (i_var h (i_nil q))
theorem i_pair {r : Env} {M : Mh} {i j : Nat} {x y : D} {Q : Env → Mh → Prop} (q : Q (st (st r i (some x)) j (some y)) M) : zgPair i j (.tup [x, y]) r M Q := ⟨rfl, q⟩
theorem enumD_map {α : Type} {f : α → D} : ∀ (as : List α) (k : Nat), enumD k (as.map f) = (as.zipIdx k).map fun x => .tup [.int (x.2 : Nat), f x.1]
  | [], _ => rfl
  | a :: r, k => by
    show .tup [.int (k : Nat), f a] :: enumD (k + 1) (r.map f) = _
    rw [enumD_map r (k + 1)]; rfl
theorem i_inTT {M : Mh} {Q : QZ} {x : D} {ys : List D} (h1 : Pl 64 x) (h2 : Pl 64 (.tup ys)) (q : Q (.bl (ys.any fun z => eqD z x)) M) : dInT x (.tup ys) M Q := ⟨h1.p, h2.p, h1.d, h2.d, q⟩
theorem atI_hd {d : D} {l : List D} : atI (d :: l) (0 : Int) = some d := by
  unfold atI ixN
  rw [if_pos (by decide), if_pos (by rw [List.length_cons]; omega)]; rfl
theorem i_ixH {M : Mh} {Q : QZ} {d : D} {l : List D} (q : Q d M) : dIx (.lst (d :: l)) (.int 0) M Q := i_ixL atI_hd q
end Zl

/-! Zl12: what is never reached; xs[a:b:c]; sorted(xs, reverse=True); list(range(..)); left-out defaults -/
namespace Zl
open PySem L2
section
variable {X : Cx} {F0 : Fz}
/-- a statement that is never reached -/
def zNo : ZS := fun _ _ _ => False
theorem zs_no {st1 : Stmt} : PS X st1 (US X F0 zNo) := ⟨fun pins s r H E I h => by
  obtain ⟨F, rr, M, Z, s0, w, e, h, k⟩ := h
  exact h.elim⟩
def zNoE : ZE := fun _ _ _ => False
theorem ze_no {e : Expr} : PE X e (UE X F0 zNoE) := ⟨fun pins s r H Q I h => by
  obtain ⟨F, rr, M, R, s0, w, e, h, k⟩ := h
  exact h.elim⟩
/-! ### xs[a:b:c] -/
/-- the places of a slice -/
def pickN (n : Nat) (lo hi st : Option Int) : List Nat := sliceRange (sliceBounds lo hi st n).1 (sliceBounds lo hi st n).2.1 (sliceBounds lo hi st n).2.2
def pickL {α : Type} (ds : List α) (lo hi st : Option Int) : List α := (pickN ds.length lo hi st).filterMap (ds[·]?)
theorem pickL_map {α β : Type} (f : α → β) (ds : List α) (lo hi st : Option Int) : pickL (ds.map f) lo hi st = (pickL ds lo hi st).map f := by
  unfold pickL
  rw [List.length_map, List.map_filterMap]
  congr 1
  funext i
  rw [List.getElem?_map]
theorem vals_pick {vs : List V} {us : List Value} (h : Vals vs us) : ∀ l : List Nat, Vals (l.filterMap (vs[·]?)) (l.filterMap (us[·]?))
  | [] => .nil
  | i :: l => by
    cases e : vs[i]? with
    | none =>
      have e2 : us[i]? = none := by
        rw [List.getElem?_eq_none_iff] at e ⊢
        rw [← h.length]; exact e
      rw [List.filterMap_cons_none e, List.filterMap_cons_none e2]
      exact vals_pick h l
    | some v =>
      obtain ⟨u, e2, r⟩ := h.get e
      rw [List.filterMap_cons_some e, List.filterMap_cons_some e2]
      exact .cons r (vals_pick h l)
theorem repL_pick {K : PySem.W.Frag} {mg : Str → Option Value} {F : Fz} {vs : List V} {ds : List D} (h : RepL K mg F vs ds) : ∀ l : List Nat, RepL K mg F (l.filterMap (vs[·]?)) (l.filterMap (ds[·]?))
  | [] => .nil
  | i :: l => by
    cases e : ds[i]? with
    | none =>
      have e2 : vs[i]? = none := by
        rw [List.getElem?_eq_none_iff] at e ⊢
        rw [h.length]; exact e
      rw [List.filterMap_cons_none e, List.filterMap_cons_none e2]
      exact repL_pick h l
    | some d =>
      obtain ⟨v, e2, r⟩ := h.get e
      rw [List.filterMap_cons_some e, List.filterMap_cons_some e2]
      exact .cons r (repL_pick h l)
def tSlS (K : PySem.W.Frag) (te : TE) (tl th ts : TO) : TE := fun σ H Q => te σ H fun x H1 => tl σ H1 fun l H2 => th σ H2 fun h H3 => ts σ H3 fun c H4 => c ≠ some 0 ∧ ∃ a xs, x = .ref a ∧ SqL K H4 a xs ∧ (pickL xs l h c).length ≤ sizeLine ∧ ∀ p, H4 p = none → Q (.ref p) (upd H4 p (.lst (pickL xs l h c)))
theorem pe_slS {e sp : Expr} {te : TE} {lo hi : Option Expr} {tl th ts : TO} {p3 pos : Pos} (he : PE X e te) (hl : PO X lo tl) (hh : PO X hi th) (hs : PO X (some sp) ts) : PE X (.Subscript e (.Slice lo hi (some sp) p3) pos) (tSlS X.K te tl th ts) := by
  refine ⟨fun pins s σ H Q I h => ?_⟩
  refine PyProof.Rows.Subscript_ (thn (he.run pins s σ H _ I h) fun v s1 ⟨x, H1, I1, r1, q1⟩ => ?_)
  refine wpAny_Slice (thn (hl.run pins s1 σ H1 _ I1 q1) fun vl s2 ⟨l, H2, I2, pl, q2⟩ => ?_)
  refine thn (hh.run pins s2 σ H2 _ I2 q2) fun vu s3 ⟨u, H3, I3, pu, q3⟩ => ?_
  refine thn (hs.run pins s3 σ H3 _ I3 q3) fun vs s4 ⟨o, H4, I4, ps, q4⟩ => ?_
  obtain ⟨h0, a, xs, ex, hx, hsz, q⟩ := q4
  subst ex
  cases r1
  have I5 : Inv X pins σ H4 { s4 with heap := s4.heap.push { cls := .type "slice", data := .fields #[vl, vu, vs] } } := I4.kept (t' := s4.toks) fun b ob q => Heap.get?_push_of_some _ q
  obtain ⟨its, r, ht, hz⟩ := I5.list hx
  have hlen := r.length
  show wpAny (model X.prog X.w) X.A (PyProof.Rows.subscriptTail e (.Slice lo hi (some sp) p3) (.ref a) (.ref s4.heap.objs.size)) (EP X pins σ Q) X.xe { s4 with heap := s4.heap.push { cls := .type "slice", data := .fields #[vl, vu, vs] } }
  refine PyProof.Rows.tail_any (ops := [.ref a, .ref s4.heap.objs.size]) ht.isList.typeIs (PySem.slot_list_getitem.lookup) ?_ (by with_unfolding_all rfl)
  refine wpAny_getItem_list_slice ht.isList (Heap.IsSliceOf.new _ vl vu vs) pl pu ps h0 ?_ (by rw [List.size_toArray]; omega)
  have e1 : slicePick its.toArray l u o = (((pickN xs.length l u o).filterMap (its[·]?))).toArray := by
    unfold slicePick pickN
    rw [List.size_toArray, ← hlen]
    congr 1
    congr 1
    funext i
    simp
  rw [e1]
  refine ⟨.ref _, _, I5.laid (t' := s4.toks) (o := .lst (pickL xs l u o)) (fun b ob q => Heap.get?_push_of_some _ q) (Nat.le_refl _) ?_, rfl, q _ (I5.hok.fresh (Nat.le_refl _))⟩
  exact ⟨hsz, _, 0, vals_pick r _, Heap.get?_push_size _ rfl⟩
def zSlS (b : Bool) (a : ZE) (lo hi sp : ZO) : ZE := fun r M Q => a r M fun x M1 => lo r M1 fun l M2 => hi r M2 fun h M3 => sp r M3 fun c M4 => c ≠ some 0 ∧ zL M4 x fun ds => (pickL ds l h c).length ≤ sizeLine ∧ zNew b (pickL ds l h c) M4 Q
theorem ze_slS (b : Bool) {e sp : Expr} {fa : ZE} {lo hi : Option Expr} {fl fh fs : ZO} {p3 pos : Pos} (he : PE X e (UE X F0 fa)) (hl : PO X lo (upO X.K X.mg F0 fl)) (hh : PO X hi (upO X.K X.mg F0 fh)) (hs : PO X (some sp) (upO X.K X.mg F0 fs)) : PE X (.Subscript e (.Slice lo hi (some sp) p3) pos) (UE X F0 (zSlS b fa fl fh fs)) :=
  pe_imp (pe_slS he hl hh hs) fun s H Q h => by
  obtain ⟨F, rr, M, R, s0, w, e, h, k⟩ := h
  refine ⟨F, rr, M, _, s0, w, e, h, fun x M1 h1 F1 H1 v s1 w1 r1 => ⟨F1, rr, M1, _, s0.trans s1, w1, e.mono s1, h1, fun l M2 h2 F2 H2 s2 w2 => ⟨F2, rr, M2, _, s0.trans (s1.trans s2), w2, e.mono (s1.trans s2), h2, fun l2 M3 h3 F3 H3 s3 w3 => ⟨F3, rr, M3, _, s0.trans (s1.trans (s2.trans s3)), w3, e.mono (s1.trans (s2.trans s3)), h3, fun c M4 h4 F4 H4 s4 w4 => ?_⟩⟩⟩⟩
  obtain ⟨h0, h4⟩ := h4
  obtain ⟨p, vs, ds, rfl, e1, len, rl, h5, h6⟩ := zL_out w4 (r1.mono (s2.trans (s3.trans s4))) h4
  have el : vs.length = ds.length := rl.length
  have rp : RepL X.K X.mg F4 (pickL vs l l2 c) (pickL ds l l2 c) := by unfold pickL; rw [el]; exact repL_pick rl _
  exact ⟨h0, p, vs, rfl, SqL.of e1, by rw [rp.length]; exact h5, zNew_out w4 (by rw [rp.length]; exact h5) rp h6 (k.mono (s1.trans (s2.trans (s3.trans s4))))⟩
/-! ### sorted(xs, reverse=True) -/
def dSortedR (b : Bool) (ds : List D) (M : Mh) (Q : QZ) : Prop := match ds with
  | [x] => zL M x fun l => ∃ ns : List Int, l = ns.map D.int ∧ ∀ ns' : List Int, ns'.Perm ns → ns'.Pairwise (· ≥ ·) → zNew b (ns'.map D.int) M Q
  | _ => False
theorem ze_sortedR (b : Bool) {a : Expr} {t : ZA} {j : Nat} {p pos kpos kp2 : Pos} (hm : X.mg "sorted" = none) (hv : bootBuiltins "sorted" = some (.builtin "sorted")) (ha : PA X [a] (UA X F0 t)) (hg : Gl X "sorted" := by rfl)
    (he : backTo pos (starEach [a] X.env) = (false, eval a X.env) :: backTo pos (starEach [] X.env) := by rfl) (hpl : (backTo pos (starEach [a] X.env)).any (·.1) = false := by rfl)
    (hall : (backToKw pos (keywordEach [⟨some (Str.ofString "reverse"), .Constant (.bool true) j kp2, kpos⟩] X.env)).all (·.1.isSome) = true := by rfl) (hnone : (backToKw pos (keywordEach [⟨some (Str.ofString "reverse"), .Constant (.bool true) j kp2, kpos⟩] X.env)).any (·.1.isNone) = false := by rfl) (hks : (backToKw pos (keywordEach [⟨some (Str.ofString "reverse"), .Constant (.bool true) j kp2, kpos⟩] X.env)).filterMap (·.1) = [Str.ofString "reverse"] := by rfl) :
    PE X (.Call (.Name "sorted" p) [a] [⟨some (Str.ofString "reverse"), .Constant (.bool true) j kp2, kpos⟩] pos) (UE X F0 (zCB (dSortedR b) t)) :=
  pe_imp (pe_callBK (cr_sortedRev (b := true)) hg hm hv ha (pk_cons pe_bl pk_nil) (by decide) (by decide) he hpl hall hnone hks) fun s H Q h => by
  obtain ⟨F, rr, M, R, s0, w, e, h, k⟩ := h
  refine ⟨F, rr, M, _, s0, w, e, h, fun ds M1 h1 F1 H1 vs s1 w1 r1 => ?_⟩
  unfold dSortedR at h1
  split at h1
  · cases r1 with
    | cons r1 rl =>
      cases rl
      obtain ⟨a, vs, es, rfl, e, l, rl, ns, rfl, h⟩ := zL_out w1 r1 h1
      have hv := rl.ints_of
      subst hv
      refine ⟨a, ns, rfl, rfl, SqL.of e, fun ns' p hp hs hn => zNew_out w1 ?_ (RepL.ints ns') (h ns' hp hs) (k.mono s1) p hn⟩
      rw [List.length_map, hp.length_eq]; rw [List.length_map] at l; exact l
  · exact h1.elim
/-! ### list(range(..)) -/
def dLrg (b : Bool) (i j : Int) (M : Mh) (Q : QZ) : Prop := RgOk i j ∧ zNew b (rangeD i 1 (j - i).toNat) M Q
def zLrg1 (b : Bool) (ta : ZA) : ZE := fun r M Q => ta r M fun ds M1 => onI1 ds fun j => dLrg b 0 j M1 Q
def zLrg2 (b : Bool) (ta : ZA) : ZE := fun r M Q => ta r M fun ds M1 => onI2 ds fun i j => dLrg b i j M1 Q
theorem rgV_rep {K : PySem.W.Frag} {mg : Str → Option Value} {F : Fz} (i j : Int) : RepL K mg F (rgV i j) (rangeD i 1 (j - i).toNat) := by
  rw [rangeD_map]
  unfold rgV
  generalize List.range (j - i).toNat = l
  induction l with
  | nil => exact .nil
  | cons a l ih => exact .cons (.int _) ih
theorem rg_out {K : PySem.W.Frag} {mg : Str → Option Value} {F : Fz} {H : Hp} {M : Mh} {b : Bool} {i j : Int} {R : QZ} {Q : VK} (w : Wd K mg F H M) (h : dLrg b i j M R) (k : Kq K mg F R Q) : RgOk i j ∧ ∀ q, H q = none → Q (.ref q) (upd H q (.lst (rgV i j))) :=
  ⟨h.1, zNew_out w (by rw [rgV_length, sizeLine_eq]; have := h.1.2.2.2.2; omega) (rgV_rep i j) h.2 k⟩
theorem ze_lrg1 (b : Bool) {a : Expr} {fa : ZE} {p p2 pos pos2 : Pos} (hc : X.calm = true) (hm : X.mg "list" = none) (hm2 : X.mg "range" = none) (ha : PE X a (UE X F0 fa)) (hg : Gl X "list" := by rfl) (hg2 : Gl X "range" := by rfl)
    (na : starEach [a] X.env = (false, eval a X.env) :: starEach [] X.env := by rfl) (na2 : starEach [(.Call (.Name "range" p) [a] [] pos : Expr)] X.env = (false, eval (.Call (.Name "range" p) [a] [] pos) X.env) :: starEach [] X.env := by rfl) : PE X (.Call (.Name "list" p2) [.Call (.Name "range" p) [a] [] pos] [] pos2) (UE X F0 (zLrg1 b (zCons fa zNil))) :=
  pe_imp (pe_listRg hc hg hm (prg_1 hg2 hm2 ha na) na2) fun s H Q h => by
  obtain ⟨F, rr, M, R, s0, w, e, h, k⟩ := h
  refine ⟨F, rr, M, _, s0, w, e, h, fun x M1 h1 F1 H1 v s1 w1 r1 => ?_⟩
  have h1 : onI1 [x] fun j => dLrg b 0 j M1 R := h1
  cases x with
  | int j => cases r1; exact ⟨j, rfl, rg_out w1 h1 (k.mono s1)⟩
  | _ => exact h1.elim
theorem ze_lrg2 (b : Bool) {a c : Expr} {fa fc : ZE} {p p2 pos pos2 : Pos} (hc : X.calm = true) (hm : X.mg "list" = none) (hm2 : X.mg "range" = none) (ha : PE X a (UE X F0 fa)) (hc2 : PE X c (UE X F0 fc)) (hg : Gl X "list" := by rfl) (hg2 : Gl X "range" := by rfl)
    (na : starEach [a, c] X.env = (false, eval a X.env) :: starEach [c] X.env := by rfl) (nb : starEach [c] X.env = (false, eval c X.env) :: starEach [] X.env := by rfl) (hp : (backTo pos (starEach [c] X.env)).any (·.1) = false := by rfl)
    (na2 : starEach [(.Call (.Name "range" p) [a, c] [] pos : Expr)] X.env = (false, eval (.Call (.Name "range" p) [a, c] [] pos) X.env) :: starEach [] X.env := by rfl) : PE X (.Call (.Name "list" p2) [.Call (.Name "range" p) [a, c] [] pos] [] pos2) (UE X F0 (zLrg2 b (zCons fa (zCons fc zNil)))) :=
  pe_imp (pe_listRg hc hg hm (prg_2 hg2 hm2 ha hc2 na nb hp) na2) fun s H Q h => by
  obtain ⟨F, rr, M, R, s0, w, e, h, k⟩ := h
  refine ⟨F, rr, M, _, s0, w, e, h, fun x M1 h1 F1 H1 v s1 w1 r1 => ⟨F1, rr, M1, _, s0.trans s1, w1, e.mono s1, h1, fun y M2 h2 F2 H2 u s2 w2 r2 => ?_⟩⟩
  have h2 : onI2 [x, y] fun i j => dLrg b i j M2 R := h2
  cases x with
  | int i =>
    cases r1
    cases y with
    | int j => cases r2; exact ⟨i, j, rfl, rfl, rg_out w2 h2 (k.mono (s1.trans s2))⟩
    | _ => exact h2.elim
  | _ => exact h2.elim
/-! ### left-out defaults -/
/-- f(e, ..) with the last parameters left out: es their values -/
def zCallD (zs : ZSp) (zE : ZW) (es : List D) (t : ZA) : ZE := fun r M Q => t r M fun ds M1 => zs (ds ++ es) M1 Q fun c fs M' => zE c fs r M'
theorem ze_callD {f : Addr} {fd : FuncData} {ps : List Str} {k : Nat} {zs : ZSp} {zE : ZW} {W : WX} {x : Str} {a : Expr} {es : List Expr} {t : ZA} {p pos : Pos} {dvs : List V} {dws : List Value} {dds : List D} (FO : FnOk X.prog X.w X.K X.mg X.base (L2.CX X.prog X.w) k f fd ps (liftSp X.K X.mg zs)) (hr : Room k X.A) (hm : X.mg x = some (.ref f))
    (hk : PySem.W.keepIn X.K (.ref f) = true) (hb : Binds X.K fd ps dws) (hd : Vals dvs dws) (hdd : ∀ F, RepL X.K X.mg F dvs dds) (tk : Takes X W) (wk : Wok X.K X.mg F0 W zE) (ha : PA X (a :: es) (UA X F0 t)) (hg : Gl X x := by rfl) (hdb : (x == ("__debug__" : Str)) = false := by decide)
    (he : starEach (a :: es) X.env = (false, eval a X.env) :: starEach es X.env := by rfl) (hpl : (backTo pos (starEach es X.env)).any (·.1) = false := by rfl) : PE X (.Call (.Name x p) (a :: es) [] pos) (UE X F0 (zCallD zs zE dds t)) :=
  pe_imp (pe_callSD FO hr hg hm hk hb hd (fun s => passAt tk s) ha hdb he hpl) fun s H Q h => by
  obtain ⟨F, rr, M, R, s0, w, e, h, k⟩ := h
  refine ⟨F, rr, M, _, s0, w, e, h, fun ds M1 h1 F1 H1 vs s1 w1 r1 => ⟨F1, M1, ds ++ dds, R, _, w1, r1.append (hdd F1), h1, k.mono s1, fun c fs M' hx F' H' cls d s2 w2 rx => ?_⟩⟩
  exact wk c fs rr M' hx F' s H' cls d (s0.trans (s1.trans s2)) w2 (e.mono (s1.trans s2)) rx
end
section
variable {r : Env} {M : Mh} {Q : QZ} {a : ZE} {t : ZA}
theorem i_slStep {b : Bool} {lo hi sp : ZO} (h : a r M fun x M1 => lo r M1 fun l M2 => hi r M2 fun h M3 => sp r M3 fun c M4 => c ≠ some 0 ∧ zL M4 x fun ds => (pickL ds l h c).length ≤ sizeLine ∧ zNew b (pickL ds l h c) M4 Q) : zSlS b a lo hi sp r M Q := h
theorem i_lrg1 {b : Bool} (h : t r M fun ds M1 => onI1 ds fun j => dLrg b 0 j M1 Q) : zLrg1 b t r M Q := h
theorem i_lrg2 {b : Bool} (h : t r M fun ds M1 => onI2 ds fun i j => dLrg b i j M1 Q) : zLrg2 b t r M Q := h
theorem i_callD {zs : ZSp} {zE : ZW} {es : List D} (h : t r M fun ds M1 => zs (ds ++ es) M1 Q fun c fs M' => zE c fs r M') : zCallD zs zE es t r M Q := h
end
end Zl

/-! Zl13: len of an own object; calls with keywords; making with defaults -/
namespace Zl
open PySem L2
section
variable {X : Cx} {F0 : Fz}
/-! ### len(o), o of a class with a __len__ of its own -/
theorem call_lenO {C g : Addr} {fd : FuncData} {ps : List Str} {k : Nat} {sp : Sp} (FO : FnOk X.prog X.w X.K X.mg X.base (L2.CX X.prog X.w) k g fd ps sp) (hr : Room (k + 1) X.A) (hm : Meth X.K C "__len__" g) (hb : Binds X.K fd ps []) :
    CallR X (.builtin "len") (fun xs H Q => ∃ a dx fs, xs = [.ref a] ∧ H a = some (.ins C dx fs) ∧ sp [.ref a] H (fun v H' => ∃ n : Int, v = .int n ∧ 0 ≤ n ∧ n < 2 ^ 63 ∧ Q (.int n) H') E0) := by
  intro pins s σ H xs us Q I r h
  obtain ⟨a, dx, fs, rfl, ha, hsp⟩ := h
  obtain ⟨u, rfl, ru⟩ := vals1 r
  obtain rfl : u = Value.ref a := ru
  obtain ⟨mA, J, _⟩ := ins_get I.hok ha
  obtain ⟨od, J, _⟩ := J.look
  refine Calls.call_function_entry kind_len plain_len entry_len (args_len1 _) ?_
  unfold Builtin.«len»
  refine wpAny_bind (m := oneArg "len" _) (wpAny_pure ?_)
  refine wpAny_bind (m := callSpecial? (.ref a) (PySem.Str.ofString "__len__")) (PySem.W.special_fn I.kIn J hm.at_ (beq_iff_eq.mp hm.fn) ?_)
  have e0 : Env0 X.prog X.w X.K X.mg X.base X.A.in1 X.stack s H := by
    have e := I.env0
    exact ⟨e.frames, e.mod, e.bs, e.bsz, e.funs, e.frf, e.hok, e.bare⟩
  have r2 : Vals [V.ref a] [Value.ref a] := .cons rfl .nil
  have hl := FO.len _ _ _ _ hsp
  refine wpAny_call (codeAny_mono (FO.run X.A.in1 X.stack s H ⟨[.ref a], []⟩ [.ref a] [.ref a] _ E0 hr.in1 e0 (by
    have := hb s [.ref a] I.kIn (by simpa using hl)
    simpa using this) r2 hsp) fun r s' hq => ?_)
  cases r with
  | error e => exact passL pins σ H s e s' I hq
  | ok fl =>
    cases fl with
    | ret u =>
      obtain ⟨z, H', I', rz, n, ez, h0, h1, q⟩ := I.after hq
      subst ez
      obtain ⟨t, rfl⟩ := rz
      refine wpAny_bind (wpAny_holding (wpAny_pure ?_))
      refine wpAny_bind (wpAny_letGo ?_)
      show wpAny _ _ (if n < 0 then _ else _) _ _ _
      rw [if_neg (by omega)]
      show wpAny _ _ (if n ≥ 2 ^ 63 then _ else _) _ _ _
      rw [if_neg (by omega)]
      exact wpAny_bind (wpAny_mkInt (wpAny_pure ⟨_, rfl, .int n, H', I'.tok _, ⟨_, rfl⟩, q⟩))
    | next => exact False.elim hq
    | brk => exact False.elim hq
    | cont => exact False.elim hq
def zLenO (c : Str) (zs : ZSp) (a : ZE) : ZE := fun r M Q => a r M fun d M1 => onIns M1 c d fun p _ => zs [.ref p] M1 (fun v M2 => onInt v fun n => 0 ≤ n ∧ n < 2 ^ 63 ∧ Q (.int n) M2) fun _ _ _ => False
theorem ze_lenO {c : Str} {C g : Addr} {fd : FuncData} {ps : List Str} {k : Nat} {zs : ZSp} {a : Expr} {fa : ZE} {p pos : Pos} (gC : X.mg c = some (.ref C)) (hm : Meth X.K C "__len__" g) (FO : FnOk X.prog X.w X.K X.mg X.base (L2.CX X.prog X.w) k g fd ps (liftSp X.K X.mg zs)) (hr : Room (k + 1) X.A) (hb : Binds X.K fd ps [])
    (hn : X.mg "len" = none) (ha : PE X a (UE X F0 fa)) (hg : Gl X "len" := by rfl) (he : starEach [a] X.env = (false, eval a X.env) :: starEach [] X.env := by rfl) (hpl : (backTo pos (starEach [] X.env)).any (·.1) = false := by rfl) : PE X (.Call (.Name "len" p) [a] [] pos) (UE X F0 (zLenO c zs fa)) :=
  pe_imp (pe_callB (call_lenO FO hr hm hb) hg hn (by decide +kernel) (pa_cons ha pa_nil he) (by decide) (by decide) he hpl) fun s H Q h => by
  obtain ⟨F, rr, M, R, s0, w, e, h, k⟩ := h
  refine ⟨F, rr, M, _, s0, w, e, h, fun d M1 h1 F1 H1 v s1 w1 r1 => ?_⟩
  obtain ⟨q, fs, C', dx, vs, rfl, rfl, hM, gC', hH, rv, h2⟩ := onIns_out w1 r1 h1
  cases ref_inj gC gC'
  refine ⟨q, dx, _, rfl, hH, F1, M1, [.ref q], _, _, w1, .cons (.ref q) .nil, h2, fun v M2 h3 F' H' u s2 w2 r2 => ?_, fun _ _ _ z => z.elim⟩
  cases v with
  | int n =>
    cases r2
    obtain ⟨a1, a2, a3⟩ := (show 0 ≤ n ∧ n < 2 ^ 63 ∧ R (.int n) M2 from h3)
    exact ⟨n, rfl, a1, a2, k _ _ a3 F' H' _ (s1.trans s2) w2 (.int n)⟩
  | _ => exact h3.elim
/-! ### f(e, .., k = v, ..), which lets nothing out -/
def zCallK (zs : ZSp) (n m : Nat) (g : List D → List D → List D) (t tk : ZA) : ZE := fun r M Q => t r M fun ds M1 => tk r M1 fun es M2 => ds.length = n ∧ es.length = m ∧ zs (g ds es) M2 Q fun _ _ _ => False
theorem ze_callK {f : Addr} {fd : FuncData} {ps ks : List Str} {k n m : Nat} {zs : ZSp} {x : Str} {a : Expr} {es : List Expr} {kws : List Keyword} {t : ZA} {zk : ZA} {p pos : Pos} {gg : List Value → List Value → List Value} {gV : List V → List V → List V} {gD : List D → List D → List D}
    (FO : FnOk X.prog X.w X.K X.mg X.base (L2.CX X.prog X.w) k f fd ps (liftSp X.K X.mg zs)) (hr : Room k X.A) (hm : X.mg x = some (.ref f)) (hk : PySem.W.keepIn X.K (.ref f) = true) (hb : KBn X.K fd ps n ks gg gV) (hkl : ks.length = m)
    (hgd : ∀ (F : Fz) (vs zs : List V) (ds es : List D), RepL X.K X.mg F vs ds → RepL X.K X.mg F zs es → ds.length = n → es.length = ks.length → RepL X.K X.mg F (gV vs zs) (gD ds es))
    (ha : PA X (a :: es) (UA X F0 t)) (hkw : PK X kws (UA X F0 zk)) (hall : (backToKw pos (keywordEach kws X.env)).all (·.1.isSome) = true := by rfl) (hks : (backToKw pos (keywordEach kws X.env)).filterMap (·.1) = ks := by rfl) (hg : Gl X x := by rfl)
    (hdb : (x == ("__debug__" : Str)) = false := by decide) (he : starEach (a :: es) X.env = (false, eval a X.env) :: starEach es X.env := by rfl)
    (hpl : ((backTo pos (starEach (a :: es) X.env)).any (·.1) || (backToKw pos (keywordEach kws X.env)).any (·.1.isNone)) = false := by rfl) : PE X (.Call (.Name x p) (a :: es) kws pos) (UE X F0 (zCallK zs n m gD t zk)) := by
  subst hkl
  refine pe_imp (pe_callN FO hr hg hm hk hb passL ha hkw hall hks hdb he hpl) fun s H Q h => ?_
  obtain ⟨F, rr, M, R, s0, w, e, h, k⟩ := h
  refine ⟨F, rr, M, _, s0, w, e, h, fun ds M1 h1 F1 H1 vs s1 w1 r1 => ⟨F1, rr, M1, _, s0.trans s1, w1, e.mono s1, h1, fun es M2 h2 F2 H2 us s2 w2 r2 => ⟨by rw [r1.length]; exact h2.1, by rw [r2.length]; exact h2.2.1, F2, M2, _, R, _, w2, hgd F2 vs us ds es (r1.mono s2) r2 h2.1 h2.2.1, h2.2.2, k.mono (s1.trans s2), fun _ _ _ z => z.elim⟩⟩⟩
/-- the keywords' values -/
theorem zk_nil : PK X [] (UA X F0 zNil) := ⟨fun pos pins s σ H Q I h => by
  obtain ⟨F, rr, M, R, s0, w, e, h, k⟩ := h
  exact pk_nil.run pos pins s σ H Q I (k [] M h F H [] (Le.refl F) w .nil)⟩
theorem zk_cons {a : Expr} {fa : ZE} {t : ZA} {kws : List Keyword} {nm : Option Str} {kpos : Pos} (ha : PE X a (UE X F0 fa)) (ht : PK X kws (UA X F0 t)) : PK X (⟨nm, a, kpos⟩ :: kws) (UA X F0 (zCons fa t)) := ⟨fun pos pins s σ H Q I h => by
  obtain ⟨F, rr, M, R, s0, w, e, h, k⟩ := h
  refine (pk_cons (nm := nm) (kpos := kpos) ha ht).run pos pins s σ H Q I ⟨F, rr, M, _, s0, w, e, h, fun d M1 h1 F1 H1 v s1 w1 r1 => ⟨F1, rr, M1, _, s0.trans s1, w1, e.mono s1, h1, fun ds M2 h2 F2 H2 vs s2 w2 r2 => k (d :: ds) M2 h2 F2 H2 (v :: vs) (s1.trans s2) w2 (.cons (r1.mono s2) r2)⟩⟩⟩
/-! ### C(): all defaults; C(k = v, ..): keywords alone; nothing is let out -/
def zMakeD0 (c : Str) (zs : ZSp) (es : List D) : ZE := fun _ M Q => ∀ p, M p = none → zs (.ref p :: es) (mup M p (.ins c [])) (fun d M2 => d = .non ∧ Q (.ref p) M2) fun _ _ _ => False
theorem make_low0 {c : Str} {C : Addr} {zs : ZSp} (gC : X.mg c = some (.ref C)) {F : Fz} {M1 : Mh} {R : QZ} {H1 : Hp} {Q : VK} {ds : List D} {vs : List V} (w : Wd X.K X.mg F H1 M1) (rl : RepL X.K X.mg F vs ds)
    (h : ∀ p, M1 p = none → zs (.ref p :: ds) (mup M1 p (.ins c [])) (fun d M2 => d = .non ∧ R (.ref p) M2) fun _ _ _ => False) (k : Kq X.K X.mg F R Q) : ∀ y dx, H1 y = none → H1 dx = none → dx ≠ y →
    liftSp X.K X.mg zs (.ref y :: vs) (upd (upd H1 dx (.own y)) y (.ins C dx [])) (fun v H2 => v = .non ∧ Q (.ref y) H2) E0 := by
  intro y dx hy hdx ne
  obtain ⟨s1, w1⟩ := w.laidF (o := .own y) hdx
  have hy' : upd H1 dx (.own y) y = none := by rw [upd_ne (Ne.symm ne)]; exact hy
  obtain ⟨m0, _, _⟩ := w1.free hy'
  have w2 : Wd X.K X.mg (F.up dx (.own y)) (upd (upd H1 dx (.own y)) y (.ins C dx [])) (mup M1 y (.ins c [])) := w1.laidM hy' (by intro z; cases z) ⟨C, dx, [], gC, upd_same, .nil⟩
  refine ⟨_, _, _, _, _, w2, .cons (.ref y) (rl.mono s1), h y m0, fun d M2 ⟨hd, hR⟩ F' H' v s2 w3 r3 => ?_, fun _ _ _ z => z.elim⟩
  subst hd
  cases r3
  exact ⟨rfl, k _ _ hR F' H' _ (s1.trans s2) w3 (.ref y)⟩
theorem ze_makeD0 {c : Str} {C : Addr} {k : Nat} {g : Addr} {fd : FuncData} {ps : List Str} {zs : ZSp} {dvs : List V} {dws : List Value} {dds : List D} {p pos : Pos} (gC : X.mg c = some (.ref C)) (Mm : Mk X.K C g) (FO : FnOk X.prog X.w X.K X.mg X.base (L2.CX X.prog X.w) k g fd ps (liftSp X.K X.mg zs)) (hr : Room (k + 1) X.A) (hb : Binds X.K fd ps dws) (hd : Vals dvs dws)
    (hdd : ∀ F, RepL X.K X.mg F dvs dds) (hg : Gl X c := by rfl) (hdb : (c == ("__debug__" : Str)) = false := by decide) : PE X (.Call (.Name c p) [] [] pos) (UE X F0 (zMakeD0 c zs dds)) :=
  pe_imp (pe_make0 (E := E0) Mm FO hr hg gC hb hd passL hdb) fun s H Q h => by
  obtain ⟨F, rr, M, R, s0, w, e, h, k⟩ := h
  exact make_low0 gC w (hdd F) h k
def zMakeK0 (c : Str) (zs : ZSp) (m : Nat) (gD : List D → List D) (tk : ZA) : ZE := fun r M Q => tk r M fun es M1 => es.length = m ∧ ∀ p, M1 p = none → zs (.ref p :: gD es) (mup M1 p (.ins c [])) (fun d M2 => d = .non ∧ Q (.ref p) M2) fun _ _ _ => False
theorem ze_makeK0 {c : Str} {C : Addr} {k m : Nat} {g : Addr} {fd : FuncData} {ps ks : List Str} {zs : ZSp} {kws : List Keyword} {zk : ZA} {p pos : Pos} {gg : List Value → List Value → List Value} {gV : List V → List V → List V} {gD : List D → List D} (gC : X.mg c = some (.ref C)) (Mm : Mk X.K C g) (FO : FnOk X.prog X.w X.K X.mg X.base (L2.CX X.prog X.w) k g fd ps (liftSp X.K X.mg zs)) (hr : Room (k + 1) X.A) (hb : KBn X.K fd ps 1 ks gg gV) (hkl : ks.length = m)
    (hgd : ∀ (x : V) (zs : List V), zs.length = ks.length → ∃ us, gV [x] zs = x :: us ∧ ∀ (F : Fz) (es : List D), RepL X.K X.mg F zs es → RepL X.K X.mg F us (gD es))
    (hkw : PK X kws (UA X F0 zk)) (hall : (backToKw pos (keywordEach kws X.env)).all (·.1.isSome) = true := by rfl) (hks : (backToKw pos (keywordEach kws X.env)).filterMap (·.1) = ks := by rfl) (hg : Gl X c := by rfl)
    (hdb : (c == ("__debug__" : Str)) = false := by decide) (hpl : ((backTo pos (starEach [] X.env)).any (·.1) || (backToKw pos (keywordEach kws X.env)).any (·.1.isNone)) = false := by rfl) : PE X (.Call (.Name c p) [] kws pos) (UE X F0 (zMakeK0 c zs m gD zk)) := by
  subst hkl
  refine pe_imp (pe_makeK0 (E := E0) Mm FO hr hg gC hb passL hkw hall hks hdb hpl) fun s H Q h => ?_
  obtain ⟨F, rr, M, R, s0, w, e, h, k⟩ := h
  refine ⟨F, rr, M, _, s0, w, e, h, fun es M1 h1 F1 H1 vs s1 w1 r1 => ?_⟩
  have hl : vs.length = ks.length := by rw [r1.length]; exact h1.1
  refine ⟨rfl, hl, fun y dx hy hdx ne => ?_⟩
  obtain ⟨us, e1, e2⟩ := hgd (.ref y) vs hl
  rw [e1]
  exact make_low0 gC w1 (e2 F1 es r1) h1.2 (k.mono s1) y dx hy hdx ne
end
/-! ### a choice of readings -/
section
variable {X : Cx} {F0 : Fz}
def zAny (a b : ZE) : ZE := fun r M Q => a r M Q ∨ b r M Q
theorem ze_any {e : Expr} {a b : ZE} (ha : PE X e (UE X F0 a)) (hb : PE X e (UE X F0 b)) : PE X e (UE X F0 (zAny a b)) := ⟨fun pins s r H Q I h => by
  obtain ⟨F, rr, M, R, s0, w, e, h, k⟩ := h
  rcases h with h | h
  · exact ha.run pins s r H Q I ⟨F, rr, M, R, s0, w, e, h, k⟩
  · exact hb.run pins s r H Q I ⟨F, rr, M, R, s0, w, e, h, k⟩⟩
end
section
variable {r : Env} {M : Mh} {Q : QZ} {a : ZE} {t tk : ZA}
/-- the frozen one, the changing one -/
theorem i_anyF {b : ZE} (h : a r M Q) : zAny a b r M Q := .inl h
theorem i_anyT {b : ZE} (h : b r M Q) : zAny a b r M Q := .inr h
theorem i_lenO {c : Str} {zs : ZSp} (h : a r M fun d M1 => onIns M1 c d fun p _ => zs [.ref p] M1 (fun v M2 => onInt v fun n => 0 ≤ n ∧ n < 2 ^ 63 ∧ Q (.int n) M2) fun _ _ _ => False) : zLenO c zs a r M Q := h
theorem i_callK {zs : ZSp} {n m : Nat} {g : List D → List D → List D} (h : t r M fun ds M1 => tk r M1 fun es M2 => ds.length = n ∧ es.length = m ∧ zs (g ds es) M2 Q fun _ _ _ => False) : zCallK zs n m g t tk r M Q := h
theorem i_makeD0 {c : Str} {zs : ZSp} {es : List D} (h : ∀ p, M p = none → zs (.ref p :: es) (mup M p (.ins c [])) (fun d M2 => d = .non ∧ Q (.ref p) M2) fun _ _ _ => False) : zMakeD0 c zs es r M Q := h
theorem i_makeK0 {c : Str} {zs : ZSp} {m : Nat} {gD : List D → List D} (h : tk r M fun es M1 => es.length = m ∧ ∀ p, M1 p = none → zs (.ref p :: gD es) (mup M1 p (.ins c [])) (fun d M2 => d = .non ∧ Q (.ref p) M2) fun _ _ _ => False) : zMakeK0 c zs m gD tk r M Q := h
end
end Zl

namespace Zp
open PySem L2 Zl
def zb_is_whole (zE : ZW) : ZS := (zRet (zAndV (z1 (dIsi "int") (zVar 0)) (zAndV (zNotV (z1 (dIsi "bool") (zVar 0))) (zChain (dCmp pLe) (dCmp pLe) (zVar 1) (zVar 0) (zVar 2)))))
def z_is_whole : ZSp := fun ds M Q E => match ds with
  | [a0, a1, a2] => zFn false zb_is_whole [some a0, some a1, some a2] M Q E
  | _ => False
def zb_is_row (zE : ZW) : ZS := (zSeq (zIf (zOr (zNot (zB (z1 (dIsi "list") (zVar 0)))) (zB (z2 (dCmp pGt) (zCB dLen (zCons (zVar 0) zNil)) (zVar 1)))) (zRet (zC (.bl false)))
  zNext)
  (zRet (zCB dAll (zCons (zLc false (ziList (zVar 0)) (zgName 2) zYes (zCall z_is_whole zNoX (zCons (zVar 2) (zCons (zC (.int 0)) (zCons (zC (.int 255)) zNil)))) [2]) zNil))))
def z_is_row : ZSp := fun ds M Q E => match ds with
  | [a0, a1] => zFn false zb_is_row [some a0, some a1, none] M Q E
  | _ => False
def zb_look_row (zE : ZW) : ZS := (zIf (zNot (zB (zCall z_is_row zE (zCons (zVar 0) (zCons (zVar 1) zNil))))) (zRaise zE "BadRow")
  zNext)
def z_look_row : ZSp := fun ds M Q E => match ds with
  | [a0, a1] => zFn false zb_look_row [some a0, some a1] M Q E
  | _ => False
def zb_look_many (zE : ZW) : ZS := (zIf (zNot (zB (zCall z_is_whole zE (zCons (zVar 0) (zCons (zC (.int 2)) (zCons (zC (.int 4)) zNil)))))) (zRaise zE "BadLane")
  zNext)
def z_look_many : ZSp := fun ds M Q E => match ds with
  | [a0] => zFn false zb_look_many [some a0] M Q E
  | _ => False
def zb_dealt (zE : ZW) : ZS := (zSeq (zDrop (zCall z_look_many zE (zCons (zVar 1) zNil)))
  (zSeq (zDrop (zCall z_look_row zE (zCons (zVar 0) (zCons (z2 (dMul false) (z2 dSub (zC (.int 64)) (zC (.int 1))) (zVar 1)) zNil))))
  (zSeq (zIf (zNot (zB (zCall z_is_whole zE (zCons (zVar 2) (zCons (zC (.int 0)) (zCons (z2 dSub (zC (.int 256)) (zC (.int 1))) zNil)))))) (zRaise zE "BadRow")
  zNext)
  (zRet (zLc true (ziRange (zCons (zVar 1) zNil)) (zgName 3) zYes (zAny (z2 (dAdd false) (zLst false (zCons (zVar 2) zNil)) (zSlS false (zVar 0) (zPart (zVar 3)) zNoPart (zPart (zVar 1)))) (z2 (dAdd true) (zLst false (zCons (zVar 2) zNil)) (zSlS false (zVar 0) (zPart (zVar 3)) zNoPart (zPart (zVar 1))))) [3])))))
def z_dealt : ZSp := fun ds M Q E => match ds with
  | [a0, a1, a2] => zFn true zb_dealt [some a0, some a1, some a2, none] M Q E
  | _ => False
def zb_fits (zE : ZW) : ZS := (zSeq (zAsg (zLc false (ziList (zVar 0)) (zgName 2) zYes (zCB dLen (zCons (zVar 2) zNil)) [2]) (zgName 1))
  (zRet (zAndV (z2 dEq (zVar 1) (zCB (dSortedR false) (zCons (zVar 1) zNil))) (z2 (dCmp pLt) (z2 dSub (z2 dIx (zVar 1) (zC (.int 0))) (z2 dIx (zVar 1) (z1 dNeg (zC (.int 1))))) (zC (.int 2))))))
def z_fits : ZSp := fun ds M Q E => match ds with
  | [a0] => zFn false zb_fits [some a0, none, none] M Q E
  | _ => False
def zb_gathered (zE : ZW) : ZS := (zSeq (zIf (zOr (zNot (zB (z1 (dIsi "list") (zVar 0)))) (zNot (zB (zChain (dCmp pLe) (dCmp pLe) (zC (.int 2)) (zCB dLen (zCons (zVar 0) zNil)) (zC (.int 4)))))) (zRaise zE "BadLane")
  zNext)
  (zSeq (zIf (zNot (zB (zCB dAll (zCons (zLc false (ziList (zVar 0)) (zgName 2) zYes (zAndV (zCall z_is_row zNoX (zCons (zVar 2) (zCons (zC (.int 64)) zNil))) (z2 dNe (zVar 2) (zLst false zNil))) [2]) zNil)))) (zRaise zE "BadRow")
  zNext)
  (zSeq (zIf (zOr (zNot (zB (zCall z_fits zE (zCons (zVar 0) zNil)))) (zNot (zB (zCB dAll (zCons (zLc false (ziList (zVar 0)) (zgName 2) zYes (z2 dEq (z2 dIx (zVar 2) (zC (.int 0))) (z2 dIx (z2 dIx (zVar 0) (zC (.int 0))) (zC (.int 0)))) [2]) zNil))))) (zRaise zE "BadLane")
  zNext)
  (zSeq (zAsg (zCB dSum (zCons (zLc false (ziList (zVar 0)) (zgName 2) zYes (z2 dSub (zCB dLen (zCons (zVar 2) zNil)) (zC (.int 1))) [2]) zNil)) (zgName 1))
  (zRet (zTup (zCons (z2 dIx (z2 dIx (zVar 0) (zC (.int 0))) (zC (.int 0))) (zCons (zAny (zLc false (ziRange (zCons (zVar 1) zNil)) (zgName 3) zYes (z2 dIx (z2 dIx (zVar 0) (z2 dMod (zVar 3) (zCB dLen (zCons (zVar 0) zNil)))) (z2 (dAdd false) (zC (.int 1)) (z2 dDiv (zVar 3) (zCB dLen (zCons (zVar 0) zNil))))) [3]) (zLc true (ziRange (zCons (zVar 1) zNil)) (zgName 3) zYes (z2 dIx (z2 dIx (zVar 0) (z2 dMod (zVar 3) (zCB dLen (zCons (zVar 0) zNil)))) (z2 (dAdd false) (zC (.int 1)) (z2 dDiv (zVar 3) (zCB dLen (zCons (zVar 0) zNil))))) [3])) zNil))))))))
def z_gathered : ZSp := fun ds M Q E => match ds with
  | [a0] => zFn false zb_gathered [some a0, none, none, none] M Q E
  | _ => False
def zb_Lanes___init__ (zE : ZW) : ZS := (zSeq (zDrop (zCall z_look_many zE (zCons (zVar 1) zNil)))
  (zSeq (zSetA "Lanes" "rows" (zVar 0) (zLc false (ziRange (zCons (zVar 1) zNil)) (zgName 2) zYes (zLst true zNil) [2]))
  (zSetA "Lanes" "turn" (zVar 0) (zC (.int 0)))))
def z_Lanes___init__ : ZSp := fun ds M Q E => match ds with
  | [a0, a1] => zFn false zb_Lanes___init__ [some a0, some a1, none] M Q E
  | _ => False
def zb_Lanes_drop_late (zE : ZW) : ZS := (zFor (ziList (zFld "Lanes" "rows" (zVar 0))) (zgName 1) (zWhile (zAnd (zB (z2 dNe (zVar 1) (zLst false zNil))) (zB (z2 (dCmp pGe) (z2 dMod (z2 dSub (z2 dIx (z2 dIx (zVar 1) (zC (.int 0))) (zC (.int 0))) (zFld "Lanes" "turn" (zVar 0))) (zC (.int 256))) (zC (.int 128))))) (zDrop (zM "list" dPopAt (zVar 1) (zCons (zC (.int 0)) zNil)))))
def z_Lanes_drop_late : ZSp := fun ds M Q E => match ds with
  | [a0] => zFn true zb_Lanes_drop_late [some a0, none] M Q E
  | _ => False
def zb_Lanes_one (zE : ZW) : ZS := (zSeq (zAsg (zLc false (ziList (zFld "Lanes" "rows" (zVar 0))) (zgName 4) zYes (z2 dIx (zVar 4) (zC (.int 0))) [4]) (zgName 1))
  (zSeq (zAsg (zAndV (zCB dAll (zCons (zLc false (ziList (zVar 1)) (zgName 6) zYes (z2 dEq (z2 dIx (zVar 6) (zC (.int 0))) (zFld "Lanes" "turn" (zVar 0))) [6]) zNil)) (zCall z_fits zE (zCons (zVar 1) zNil))) (zgName 2))
  (zSeq (zAsg (zLst true zNil) (zgName 3))
  (zSeq (zFor (ziList (zFld "Lanes" "rows" (zVar 0))) (zgName 4) (zIf (zB (z2 dEq (z2 dIx (z2 dIx (zVar 4) (zC (.int 0))) (zC (.int 0))) (zFld "Lanes" "turn" (zVar 0)))) (zDrop (zM "list" dApp (zVar 3) (zCons (zM "list" dPopAt (zVar 4) (zCons (zC (.int 0)) zNil)) zNil)))
  zNext))
  (zSeq (zGh (zAsg (zFld "Lanes" "turn" (zVar 0)) (zgName 5)))
  (zSeq (zSetA "Lanes" "turn" (zVar 0) (z2 dMod (z2 (dAdd false) (zVar 5) (zC (.int 1))) (zC (.int 256))))
  (zRet (zIfE (zB (zVar 2)) (zLst true (zCons (zTup (zCons (zC (.str "row")) (zCons (zVar 5) (zCons (z2 dIx (zCall z_gathered zE (zCons (zVar 3) zNil)) (zC (.int 1))) zNil)))) zNil)) (zLst true (zCons (zTup (zCons (zC (.str "lost")) (zCons (zVar 5) (zCons (zLst false zNil) zNil)))) zNil))))))))))
def z_Lanes_one : ZSp := fun ds M Q E => match ds with
  | [a0] => zFn true zb_Lanes_one [some a0, none, none, none, none, none, none] M Q E
  | _ => False
def zb_Lanes_due (zE : ZW) : ZS := (zRet (zFld "Lanes" "turn" (zVar 0)))
def z_Lanes_due : ZSp := fun ds M Q E => match ds with
  | [a0] => zFn false zb_Lanes_due [some a0] M Q E
  | _ => False
def zb_Lanes_held (zE : ZW) : ZS := (zRet (zLc true (ziList (zFld "Lanes" "rows" (zVar 0))) (zgName 1) zYes (zCB dLen (zCons (zVar 1) zNil)) [1]))
def z_Lanes_held : ZSp := fun ds M Q E => match ds with
  | [a0] => zFn true zb_Lanes_held [some a0, none] M Q E
  | _ => False
def z__law_town : ZSp := fun ds M Q _ => match ds with
  | [.scr _] => (∀ t, M t ≠ some .town) ∧ ∀ t, M t = none → Q (.ref t) (mup M t .town)
  | _ => False
def zb__law_draw (zE : ZW) : ZS := (zSeq (zAsg (z2 dIx (zVar 0) (zC (.int 0))) (zgName 2))
  (zSeq (zAsg (z2 (dAdd false) (z2 dIx (zVar 0) (zC (.int 1))) (zC (.int 1))) (zgSub (zVar 0) (zC (.int 1))))
  (zSeq (zAsg (z2 dMod (z2 dIx (zVar 0) (zC (.int 1))) (zCB dLen (zCons (zVar 2) zNil))) (zgName 3))
  (zSeq (zAsg (z2 dIx (zVar 2) (zVar 3)) (zgName 4))
  (zSeq (zIf (zB (z2 (dCmp pGe) (zVar 4) (zC (.int 1000000000000000000)))) (zSeq (zAsg (z2 dDiv (zVar 4) (zVar 1)) (zgSub (zVar 2) (zVar 3)))
  (zRet (z2 dMod (zVar 4) (zVar 1))))
  zNext)
  (zSeq (zAsg (z2 dMod (z2 (dAdd false) (zVar 4) (z2 (dMul false) (zC (.int 104729)) (z2 dIx (zVar 0) (zC (.int 1))))) (zC (.int 4294967291))) (zgName 5))
  (zSeq (zAsg (z2 dMod (z2 dPow (zVar 5) (zC (.int 5))) (zC (.int 4294967279))) (zgName 5))
  (zRet (z2 dMod (z2 dDiv (z2 dMod (z2 (dAdd false) (z2 (dMul false) (z2 dDiv (zVar 5) (zC (.int 64))) (zC (.int 69621))) (zVar 5)) (zC (.int 4294967231))) (zC (.int 8))) (zVar 1))))))))))
def z0__law_draw : ZSp := fun ds M Q E => match ds with
  | [a0, a1] => zFn true zb__law_draw [some a0, some a1, none, none, none, none] M Q E
  | _ => False
def z__law_draw : ZSp := fun ds M Q _ => match ds with
  | [.ref t, .int n] => M t = some .town ∧ 0 < n ∧ n < 1073741824 ∧ ∀ k, 0 ≤ k → k < n → Q (.int k) M
  | _ => False
def zb__law_pick (zE : ZW) : ZS := (zRet (z2 dIx (zVar 1) (zCall z__law_draw zE (zCons (zVar 0) (zCons (zCB dLen (zCons (zVar 1) zNil)) zNil)))))
def z__law_pick : ZSp := fun ds M Q E => match ds with
  | [a0, a1] => zFn false zb__law_pick [some a0, some a1] M Q E
  | _ => False
def zb__law_byte (zE : ZW) : ZS := (zSeq (zAsg (zCall z__law_draw zE (zCons (zVar 0) (zCons (zC (.int 6)) zNil))) (zgName 1))
  (zSeq (zIf (zB (z2 dEq (zVar 1) (zC (.int 0)))) (zRet (zCall z__law_pick zE (zCons (zVar 0) (zCons (zLst false (zCons (zC (.int 0)) (zCons (zC (.int 1)) (zCons (zC (.int 178)) (zCons (zC (.int 179)) (zCons (zC (.int 180)) (zCons (zC (.int 181)) (zCons (zC (.int 254)) (zCons (zC (.int 255)) zNil))))))))) zNil))))
  zNext)
  (zRet (zIfE (zB (z2 (dCmp pLt) (zVar 1) (zC (.int 3)))) (z2 (dAdd false) (zC (.int 180)) (zCall z__law_draw zE (zCons (zVar 0) (zCons (zC (.int 76)) zNil)))) (zCall z__law_draw zE (zCons (zVar 0) (zCons (zC (.int 180)) zNil)))))))
def z__law_byte : ZSp := fun ds M Q E => match ds with
  | [a0] => zFn false zb__law_byte [some a0, none] M Q E
  | _ => False
def zb__law_row (zE : ZW) : ZS := (zSeq (zAsg (zCall z__law_pick zE (zCons (zVar 0) (zCons (zLst false (zCons (zC (.int 0)) (zCons (zC (.int 1)) (zCons (zC (.int 2)) (zCons (zC (.int 3)) (zCons (zCall z__law_draw zE (zCons (zVar 0) (zCons (z2 (dAdd false) (zVar 1) (zC (.int 1))) zNil))) zNil)))))) zNil))) (zgName 2))
  (zRet (zLc false (ziRange (zCons (zCB dMinL (zCons (zVar 2) (zCons (zVar 1) zNil))) zNil)) (zgName 3) zYes (zCall z__law_byte zNoX (zCons (zVar 0) zNil)) [3])))
def z__law_row : ZSp := fun ds M Q E => match ds with
  | [a0, a1] => zFn false zb__law_row [some a0, some a1, none, none] M Q E
  | _ => False
def zb__law_late (zE : ZW) : ZS := (zFor (ziRange (zCons (zCB dLen (zCons (z2 dIx (zVar 0) (zC (.int 0))) zNil)) zNil)) (zgName 1) (zWhile (zAnd (zB (z2 dNe (z2 dIx (z2 dIx (zVar 0) (zC (.int 0))) (zVar 1)) (zLst false zNil))) (zB (z2 (dCmp pGt) (z2 dMod (z2 dSub (z2 dIx (z2 dIx (z2 dIx (z2 dIx (zVar 0) (zC (.int 0))) (zVar 1)) (zC (.int 0))) (zC (.int 0))) (z2 dIx (zVar 0) (zC (.int 1)))) (zC (.int 256))) (zC (.int 127))))) (zAsg (zSl false (z2 dIx (z2 dIx (zVar 0) (zC (.int 0))) (zVar 1)) (zPart (zC (.int 1))) zNoPart) (zgSub (z2 dIx (zVar 0) (zC (.int 0))) (zVar 1)))))
def z__law_late : ZSp := fun ds M Q E => match ds with
  | [a0] => zFn false zb__law_late [some a0, none] M Q E
  | _ => False
def zb__law_step (zE : ZW) : ZS := (zSeq (zAsg (zLc false (ziList (z2 dIx (zVar 0) (zC (.int 0)))) (zgName 9) zYes (z2 dIx (zVar 9) (zC (.int 0))) [9]) (zgName 1))
  (zSeq (zAsg (zLc false (ziList (zVar 1)) (zgName 10) (zB (z2 dEq (z2 dIx (zVar 10) (zC (.int 0))) (z2 dIx (zVar 0) (zC (.int 1))))) (zVar 10) [10]) (zgName 2))
  (zSeq (zFor (ziRange (zCons (zCB dLen (zCons (zVar 1) zNil)) zNil)) (zgName 3) (zIf (zB (z2 dEq (z2 dIx (z2 dIx (zVar 1) (zVar 3)) (zC (.int 0))) (z2 dIx (zVar 0) (zC (.int 1))))) (zAsg (zSl false (z2 dIx (z2 dIx (zVar 0) (zC (.int 0))) (zVar 3)) (zPart (zC (.int 1))) zNoPart) (zgSub (z2 dIx (zVar 0) (zC (.int 0))) (zVar 3)))
  zNext))
  (zSeq (zAsg (zLc false (ziList (zVar 1)) (zgName 10) zYes (zCB dLen (zCons (zVar 10) zNil)) [10]) (zgName 4))
  (zSeq (zAsg (zAndV (z2 dEq (zCB dLen (zCons (zVar 2) zNil)) (zCB dLen (zCons (zVar 1) zNil))) (z2 (dCmp pGe) (z2 (dAdd false) (zCB dMinL (zCons (zVar 4) zNil)) (zC (.int 1))) (z2 dIx (zVar 4) (zC (.int 0))))) (zgName 5))
  (zSeq (zFor (ziRange2 (zCons (zC (.int 1)) (zCons (zCB dLen (zCons (zVar 4) zNil)) zNil))) (zgName 6) (zAsg (zAndV (zVar 5) (z2 (dCmp pLe) (z2 dIx (zVar 4) (zVar 6)) (z2 dIx (zVar 4) (z2 dSub (zVar 6) (zC (.int 1)))))) (zgName 5)))
  (zSeq (zAsg (zLst false zNil) (zgName 7))
  (zSeq (zFor (ziRange (zCons (zIfE (zB (zVar 5)) (zC (.int 64)) (zC (.int 0))) zNil)) (zgName 6) (zAsg (z2 (dAdd false) (zVar 7) (zLc false (ziList (zVar 1)) (zgName 10) (zB (z2 (dCmp pGt) (zCB dLen (zCons (zVar 10) zNil)) (z2 (dAdd false) (zVar 6) (zC (.int 1))))) (z2 dIx (zVar 10) (z2 (dAdd false) (zVar 6) (zC (.int 1)))) [10])) (zgName 7)))
  (zSeq (zAsg (z2 dIx (zVar 0) (zC (.int 1))) (zgName 8))
  (zSeq (zAsg (z2 dMod (z2 (dAdd false) (zVar 8) (zC (.int 1))) (zC (.int 256))) (zgSub (zVar 0) (zC (.int 1))))
  (zRet (zLst false (zCons (zIfE (zB (zVar 5)) (zTup (zCons (zC (.str "row")) (zCons (zVar 8) (zCons (zVar 7) zNil)))) (zTup (zCons (zC (.str "lost")) (zCons (zVar 8) (zCons (zLst false zNil) zNil))))) zNil)))))))))))))
def z__law_step : ZSp := fun ds M Q E => match ds with
  | [a0] => zFn true zb__law_step [some a0, none, none, none, none, none, none, none, none, none, none] M Q E
  | _ => False
def zb__law_come (zE : ZW) : ZS := (zSeq (zAsg (z2 (dAdd false) (z2 dIx (z2 dIx (zVar 0) (zC (.int 0))) (zVar 1)) (zLst false (zCons (zCB (dList false) (zCons (zVar 2) zNil)) zNil))) (zgSub (z2 dIx (zVar 0) (zC (.int 0))) (zVar 1)))
  (zSeq (zAsg (zLst false zNil) (zgName 3))
  (zSeq (zDrop (zCall z__law_late zE (zCons (zVar 0) zNil)))
  (zSeq (zWhile (zB (z2 dEq (zLc false (ziList (z2 dIx (zVar 0) (zC (.int 0)))) (zgName 4) (zB (z2 dEq (zVar 4) (zLst false zNil))) (zVar 4) [4]) (zLst false zNil))) (zSeq (zAsg (z2 (dAdd false) (zVar 3) (zCall z__law_step zE (zCons (zVar 0) zNil))) (zgName 3))
  (zDrop (zCall z__law_late zE (zCons (zVar 0) zNil)))))
  (zRet (zVar 3))))))
def z__law_come : ZSp := fun ds M Q E => match ds with
  | [a0, a1, a2] => zFn false zb__law_come [some a0, some a1, some a2, none, none] M Q E
  | _ => False
def zb_Lanes_come (zE : ZW) : ZS := (zSeq (zIf (zNot (zB (zCall z_is_whole zE (zCons (zVar 1) (zCons (zC (.int 0)) (zCons (z2 dSub (zCB dLen (zCons (zFld "Lanes" "rows" (zVar 0)) zNil)) (zC (.int 1))) zNil)))))) (zRaise zE "BadLane")
  zNext)
  (zSeq (zDrop (zCall z_look_row zE (zCons (zVar 2) (zCons (zC (.int 64)) zNil))))
  (zSeq (zIf (zB (z2 dEq (zVar 2) (zLst false zNil))) (zRaise zE "BadRow")
  zNext)
  (zSeq (zDrop (zM "list" dApp (z2 dIx (zFld "Lanes" "rows" (zVar 0)) (zVar 1)) (zCons (zCB (dList false) (zCons (zVar 2) zNil)) zNil)))
  (zSeq (zAsg (zLst true zNil) (zgName 3))
  (zSeq (zDrop (zMeth "Lanes" "drop_late" z_Lanes_drop_late zE (zVar 0) zNil))
  (zSeq (zWhile (zB (zCB dAll (zCons (zLc false (ziList (zFld "Lanes" "rows" (zVar 0))) (zgName 4) zYes (z2 dNe (zVar 4) (zLst false zNil)) [4]) zNil))) (zSeq (zDrop (zM "list" dExt (zVar 3) (zCons (zMeth "Lanes" "one" z_Lanes_one zE (zVar 0) zNil) zNil)))
  (zDrop (zMeth "Lanes" "drop_late" z_Lanes_drop_late zE (zVar 0) zNil))))
  (zRet (zVar 3)))))))))
def z_Lanes_come : ZSp := fun ds M Q E => match ds with
  | [a0, a1, a2] => zFn true zb_Lanes_come [some a0, some a1, some a2, none, none] M Q E
  | _ => False
def zb_law (zE : ZW) : ZS := (zSeq (zAsg (zCall z__law_town zE (zCons (zVar 0) zNil)) (zgName 1))
  (zSeq (zAsg (z2 (dAdd false) (zC (.int 2)) (zCall z__law_draw zE (zCons (zVar 1) (zCons (zC (.int 2)) zNil)))) (zgName 2))
  (zSeq (zAsg (zMake "Lanes" z_Lanes___init__ zE (zCons (zVar 2) zNil)) (zgName 3))
  (zSeq (zAsg (zLst true (zCons (zAny (zLc false (ziRange (zCons (zVar 2) zNil)) (zgName 11) zYes (zLst false zNil) [11]) (zLc true (ziRange (zCons (zVar 2) zNil)) (zgName 11) zYes (zLst false zNil) [11])) (zCons (zC (.int 0)) zNil))) (zgName 4))
  (zSeq (zAsg (zCall z__law_pick zE (zCons (zVar 1) (zCons (zLst false (zCons (zC (.int 0)) (zCons (zC (.int 0)) (zCons (zC (.int 0)) (zCons (zC (.int 100)) (zCons (zC (.int 120)) zNil)))))) zNil))) (zgName 5))
  (zSeq (zFor (ziRange2 (zCons (zVar 5) (zCons (z2 (dAdd false) (zVar 5) (zC (.int 4))) zNil))) (zgName 6) (zSeq (zAsg (zCall z_dealt zE (zCons (zCall z__law_row zE (zCons (zVar 1) (zCons (zC (.int 6)) zNil))) (zCons (zVar 2) (zCons (zVar 6) zNil)))) (zgName 7))
  (zFor (ziRange (zCons (zVar 2) zNil)) (zgName 8) (zSeq (zAsg (z2 dIx (zVar 7) (zVar 8)) (zgName 9))
  (zSeq (zAsg (zCall z__law_draw zE (zCons (zVar 1) (zCons (zC (.int 9)) zNil))) (zgName 10))
  (zSeq (zIf (zB (z2 dEq (zVar 10) (zC (.int 0)))) (zAsg (z2 (dAdd false) (zLst false (zCons (z2 dMod (zCall z__law_pick zE (zCons (zVar 1) (zCons (zLst false (zCons (zVar 6) (zCons (z2 (dAdd false) (zVar 6) (zC (.int 1))) (zCons (zC (.int 255)) (zCons (zC (.int 127)) (zCons (zC (.int 128)) zNil)))))) zNil))) (zC (.int 256))) zNil)) (zCall z__law_row zE (zCons (zVar 1) (zCons (zC (.int 3)) zNil)))) (zgName 9))
  zNext)
  (zFor (ziRange (zCons (zCall z__law_pick zE (zCons (zVar 1) (zCons (zLst false (zCons (zC (.int 1)) (zCons (zC (.int 1)) (zCons (zC (.int 1)) (zCons (zC (.int 1)) (zCons (zC (.int 1)) (zCons (zC (.int 1)) (zCons (zC (.int 0)) (zCons (zC (.int 2)) zNil))))))))) zNil))) zNil)) (zgName 11) (zSeq (zIf (zB (z2 dNe (zMeth "Lanes" "come" z_Lanes_come zE (zVar 3) (zCons (zVar 8) (zCons (zVar 9) zNil))) (zCall z__law_come zE (zCons (zVar 4) (zCons (zVar 8) (zCons (zVar 9) zNil)))))) (zRet (zC (.bl false)))
  zNext)
  (zIf (zOr (zB (z2 dNe (zMeth "Lanes" "due" z_Lanes_due zE (zVar 3) zNil) (z2 dIx (zVar 4) (zC (.int 1))))) (zB (z2 dNe (zMeth "Lanes" "held" z_Lanes_held zE (zVar 3) zNil) (zLc false (ziList (z2 dIx (zVar 4) (zC (.int 0)))) (zgName 12) zYes (zCB dLen (zCons (zVar 12) zNil)) [12])))) (zRet (zC (.bl false)))
  zNext)))))))))
  (zRet (zC (.bl true)))))))))
def z_law : ZSp := fun ds M Q E => match ds with
  | [a0] => zFn true zb_law [some a0, none, none, none, none, none, none, none, none, none, none, none, none] M Q E
  | _ => False
local macro_rules | `(tactic| walk_at "zs") => `(tactic| first | (with_reducible apply i_seq) | (with_reducible apply i_2) | (with_reducible apply i_1) | (with_reducible apply i_c) | (with_reducible apply i_asg) | (with_reducible apply i_cons) | (with_reducible apply i_nil) | (with_reducible apply i_if) | (with_reducible apply i_ret) | (with_reducible apply i_B) | (with_reducible apply i_onBl) | (with_reducible apply i_drop) | (with_reducible apply i_call) | (with_reducible apply i_cb) | (with_reducible apply i_sub) | (with_reducible apply i_addI) | (with_reducible apply i_andV) | (with_reducible apply i_orV) | (with_reducible apply i_notV) | (with_reducible apply i_and) | (with_reducible apply i_or) | (with_reducible apply i_not) | (with_reducible apply i_ifE) | (with_reducible apply i_chain) | (with_reducible apply i_bT) | (with_reducible apply i_bF) | (with_reducible apply i_lt) | (with_reducible apply i_le) | (with_reducible apply i_gt) | (with_reducible apply i_ge) | (with_reducible apply i_neg) | (with_reducible apply i_newF) | (with_reducible apply i_tup) | (with_reducible apply i_lst) | (with_reducible apply i_isN) | (with_reducible apply i_isNotN) | (with_reducible apply i_lenIs) | (with_reducible apply i_lenL) | (with_reducible apply i_lenT) | (with_reducible apply i_lenS) | (with_reducible apply i_sl) | (with_reducible apply i_part) | (with_reducible apply i_nopart) | (with_reducible apply i_onInt) | (with_reducible apply i_slL) | (with_reducible apply i_for) | (with_reducible apply i_m) | (with_reducible apply i_raise) | (with_reducible apply i_rt0) | (with_reducible apply i_nx0) | (with_reducible apply i_ex0) | (with_reducible apply i_next) | (with_reducible apply i_retN) | (with_reducible apply i_band) | (with_reducible apply i_bxor) | (with_reducible apply i_max2) | (with_reducible apply i_min2) | (with_reducible apply i_listL) | (with_reducible apply i_listT) | (with_reducible apply i_abs) | (with_reducible apply i_gcons) | (with_reducible apply i_gnil) | (with_reducible apply i_isB) | (with_reducible apply i_isNotB) | (with_reducible apply i_slS) | (with_reducible apply i_gsub) | (with_reducible apply i_lc) | (with_reducible apply i_lcS) | (with_reducible apply i_yes) | (with_reducible apply i_iLl) | (with_reducible apply i_onL) | (with_reducible apply i_range) | (with_reducible apply i_range2) | (with_reducible apply i_onI1) | (with_reducible apply i_onI2) | (with_reducible apply i_iT) | (with_reducible apply i_onT) | (with_reducible apply i_iS) | (with_reducible apply i_onS) | (with_reducible apply i_par2) | (with_reducible apply i_on2) | (with_reducible apply i_ck0) | (with_reducible apply i_step) | (with_reducible apply i_exG) | (with_reducible apply i_nxG) | (with_reducible apply i_sumL) | (with_reducible apply i_eqII) | (with_reducible apply i_neII) | (with_reducible apply i_eqSS) | (with_reducible apply i_neSS) | (with_reducible apply i_eqIS) | (with_reducible apply i_neIS) | (with_reducible apply i_bN) | (with_reducible apply i_fld) | (with_reducible apply i_setA) | (with_reducible apply i_meth) | (with_reducible apply i_make) | (with_reducible apply i_try) | (with_reducible apply i_dct) | (with_reducible apply i_rev) | (with_reducible apply i_zLl) | (with_reducible apply i_slStep) | (with_reducible apply i_lrg1) | (with_reducible apply i_lrg2) | (with_reducible apply i_callD) | (with_reducible apply i_lenO) | (with_reducible apply i_callK) | (with_reducible apply i_makeD0) | (with_reducible apply i_makeK0) | ((with_reducible apply i_name); (try dsimp only [st, zwipe])) | ((with_reducible apply i_pair); (try dsimp only [st, zwipe])) | ((with_reducible apply i_var); rfl) | ((with_reducible apply i_isi); (first | rfl | exact tyD_ref mup_same)) | ((with_reducible apply i_gtup); rfl) | ((with_reducible apply i_beT); rfl) | ((with_reducible apply i_beF); rfl) | ((with_reducible apply i_sz); exact Nat.le_of_ble_eq_true rfl) | ((with_reducible apply i_inT); rfl; rfl) | ((with_reducible apply i_rg); (first | decide | omega); (first | decide | omega)) | ((with_reducible apply i_ty); (first | rfl | exact tyD_ref mup_same | exact tyD_ref (by assumption))) | ((with_reducible apply i_onIns); walk_at "m") | ((with_reducible apply i_onFd); rfl) | ((with_reducible apply i_f1000); exact of_decide_eq_true rfl) | ((with_reducible apply i_lkN); rfl) | ((with_reducible apply i_isx); rfl) | ((with_reducible apply i_tryx); rfl; rfl) | ((with_reducible apply i_bdT); (first | omega | decide)) | ((with_reducible apply i_bdF); (first | omega | decide)) | ((with_reducible apply i_mod); (first | decide | omega)) | ((with_reducible apply i_div); exact ⟨by first | decide | omega, by first | decide | omega⟩) | ((with_reducible apply i_mulI); (first | exact .inl (by decide) | exact .inr (by decide) | exact .inl (by omega) | exact .inr (by omega))) | ((with_reducible apply i_shr); (first | decide | omega)) | ((with_reducible apply i_ixT); rfl) | ((with_reducible apply i_ixL); rfl) | ((with_reducible apply i_enum); rfl) | ((with_reducible apply i_divmod); exact ⟨by first | decide | omega, by first | decide | omega⟩))
local macro_rules | `(tactic| walk_at "m") => `(tactic| (first | exact mup_same | assumption | (refine mup_get (by assumption) ?_; walk_at "m") | (refine (mup_ne (by first | assumption | (apply Ne.symm; assumption))).trans ?_; walk_at "m")))
local macro_rules | `(tactic| walk_at "sz") => `(tactic| (rw [sizeLine_eq]; (try simp only [List.length_append, List.length_map, List.length_cons, List.length_nil, List.length_take, List.length_drop]); omega))
local macro_rules | `(tactic| walk_at "ys") => `(tactic| first | walk_at "zs" | ((with_reducible apply i_lenRs); walk_at "m") | ((with_reducible apply i_lenR); walk_at "m") | ((with_reducible apply i_listR); walk_at "m") | ((with_reducible apply i_slR); walk_at "m") | ((with_reducible apply i_onR); walk_at "m") | ((with_reducible apply i_app); (walk_at "m"); (walk_at "sz")) | ((with_reducible apply i_ext); (walk_at "m"); (walk_at "sz")) | ((with_reducible apply i_addL); walk_at "sz") | ((with_reducible apply i_addLR); (walk_at "m"); (walk_at "sz")) | ((with_reducible apply i_addRL); (walk_at "m"); (walk_at "sz")) | ((with_reducible apply i_sz); walk_at "sz") | ((with_reducible apply i_ixR); (walk_at "m"); rfl) | ((with_reducible apply i_ty); exact tyD_ref (by walk_at "m")) | ((with_reducible apply i_isi); exact tyD_ref (by walk_at "m")))
local macro_rules | `(tactic| walk_at "y") => `(tactic| repeat walk_at "ys")
local macro_rules | `(tactic| walk_at "z") => `(tactic| repeat walk_at "zs")

-- needs: _law_draw
theorem plains_ints : ∀ ns : List Int, plains (ns.map D.int) = true
  | [] => by simp [plains]
  | n :: r => by simp [plains, Zl.plain, plains_ints r]
theorem tOpen_t {M : Mh} {t c : Addr} {n : Int} {cells : List Int} : tOpen M t c n cells t = some (.lst [.ref c, .int n]) := mup_same
theorem tOpen_c {M : Mh} {t c : Addr} {n : Int} {cells : List Int} (h : c ≠ t) : tOpen M t c n cells c = some (.lst (cells.map D.int)) := by
  unfold tOpen; rw [mup_ne h]; exact mup_same
theorem tOpen_n {M : Mh} {t c : Addr} {n m : Int} {cells : List Int} : mup (tOpen M t c n cells) t (.lst [.ref c, .int m]) = tOpen M t c m cells := mup_mup
theorem tOpen_k {M : Mh} {t c : Addr} {n : Int} {cells cs : List Int} (h : c ≠ t) : mup (tOpen M t c n cells) c (.lst (cs.map D.int)) = tOpen M t c n cs := by
  funext b
  unfold tOpen mup
  by_cases e : b = c
  · subst e; simp [h]
  · simp [e]
theorem draw0 {M : Mh} {t c : Addr} {cells : List Int} {n m : Int} {Q : QZ} {E : ZX} (T : TownOk M t c cells) (h0 : 0 < n) (h1 : n < 1073741824)
    (k : ∀ (k m : Int) (cs : List Int), 0 ≤ k → k < n → cs ≠ [] → cs.length ≤ 1000 → Q (.int k) (tOpen M t c m cs)) : z0__law_draw [.ref t, .int n] (tOpen M t c m cells) Q E := by
  have ct := T.ct
  have lp : 0 < cells.length := List.length_pos_iff.mpr T.ne
  obtain ⟨j, hj, ej⟩ : ∃ j : Nat, j < cells.length ∧ (m + 1) % (cells.length : Int) = (j : Int) := by
    have a := Int.emod_nonneg (m + 1) (show (cells.length : Int) ≠ 0 by omega)
    have b := Int.emod_lt_of_pos (m + 1) (show (0 : Int) < cells.length by omega)
    exact ⟨((m + 1) % (cells.length : Int)).toNat, by omega, by omega⟩
  show zFn true zb__law_draw _ _ _ _
  unfold zFn zb__law_draw
  walk_at "z"
  refine i_ixR tOpen_t (d := .ref c) (by rfl) ?_
  walk_at "z"
  refine i_ixR tOpen_t (d := .int m) (by rfl) ?_
  walk_at "z"
  refine i_set tOpen_t (j := 1) (by rfl) ?_
  dsimp only [List.set]
  rw [tOpen_n]
  walk_at "z"
  refine i_ixR tOpen_t (d := .int (m + 1)) (by rfl) ?_
  walk_at "z"
  refine i_lenR (tOpen_c ct) ?_
  rw [List.length_map]
  refine i_mod (by omega) ?_
  rw [ej]
  walk_at "z"
  have hat : atI (cells.map D.int) (j : Int) = some (.int cells[j]) := atI_nat (by rw [List.getElem?_map, List.getElem?_eq_getElem hj]; rfl)
  have hix : ixN (cells.map D.int).length (j : Int) = some j := by
    unfold ixN
    rw [List.length_map, if_pos (by omega), if_pos (by omega)]; simp
  refine i_ixR (tOpen_c ct) hat ?_
  walk_at "z"
  refine i_bd (fun hc => ?_) (fun hc => ?_)
  · walk_at "z"
    refine i_set (tOpen_c ct) hix ?_
    rw [show (cells.map D.int).set j (.int (cells[j] / n)) = (cells.set j (cells[j] / n)).map D.int by rw [List.map_set], tOpen_k ct]
    walk_at "z"
    exact i_rtG (k _ _ _ (Int.emod_nonneg _ (by omega)) (Int.emod_lt_of_pos _ h0) (fun z => by
      have := congrArg List.length z
      rw [List.length_set] at this
      exact absurd this (by simp; exact T.ne)) (by rw [List.length_set]; exact T.len))
  · walk_at "z"
    refine i_ixR tOpen_t (d := .int (m + 1)) (by rfl) ?_
    walk_at "z"
    have b1 := Int.emod_nonneg (cells[j] + 104729 * (m + 1)) (show (4294967291 : Int) ≠ 0 by decide)
    have b2 := Int.emod_lt_of_pos (cells[j] + 104729 * (m + 1)) (show (0 : Int) < 4294967291 by decide)
    refine i_pow ⟨by decide, by decide, ?_⟩ ?_
    · generalize (cells[j] + 104729 * (m + 1)) % 4294967291 = q at *
      omega
    walk_at "z"
    exact i_rtG (k _ _ _ (Int.emod_nonneg _ (by omega)) (Int.emod_lt_of_pos _ h0) T.ne T.len)

/-- is_whole's answer -/
def iw (d : D) (lo hi : Int) : Bool := match d with
  | .int i => decide (lo ≤ i) && decide (i ≤ hi)
  | _ => false
/-- a thing whose kind is known -/
def known (M : Mh) (d : D) : Prop := ∃ t, tyD M d = some t
theorem known_int {M : Mh} (i : Int) : known M (.int i) := ⟨_, rfl⟩
theorem known_str {M : Mh} (i : Str) : known M (.str i) := ⟨_, rfl⟩
theorem known_lst {M : Mh} (i : List D) : known M (.lst i) := ⟨_, rfl⟩
theorem i_eqT {M : Mh} {Q : QZ} {x y : D} (hx : Pl 64 x) (hy : Pl 64 y) (e : eqD x y = true) (q : Q (.bl true) M) : dEq x y M Q := i_eq hx hy (by rw [e]; exact q)
theorem i_neF {M : Mh} {Q : QZ} {x y : D} (hx : Pl 64 x) (hy : Pl 64 y) (e : eqD x y = true) (q : Q (.bl false) M) : dNe x y M Q := i_ne hx hy (by rw [e]; exact q)
theorem i_eqF {M : Mh} {Q : QZ} {x y : D} (hx : Pl 64 x) (hy : Pl 64 y) (e : eqD x y = false) (q : Q (.bl false) M) : dEq x y M Q := i_eq hx hy (by rw [e]; exact q)
theorem i_neT {M : Mh} {Q : QZ} {x y : D} (hx : Pl 64 x) (hy : Pl 64 y) (e : eqD x y = false) (q : Q (.bl true) M) : dNe x y M Q := i_ne hx hy (by rw [e]; exact q)
theorem i_neFR {M : Mh} {Q : QZ} {y : D} {xs : List D} {p : Addr} (e : M p = some (.lst xs)) (hx : Pl 64 (.lst xs)) (hy : Pl 64 y) (e2 : eqD (.lst xs) y = true) (q : Q (.bl false) M) : dNe (.ref p) y M Q := i_neR e hx hy (by rw [e2]; exact q)
theorem eqDs_refl_ints : ∀ ns : List Int, eqDs (ns.map D.int) (ns.map D.int) = true
  | [] => rfl
  | n :: r => by simp [eqDs_refl_ints r]
theorem eqD_int_of {i j : Int} (h : i = j) : eqD (.int i) (.int j) = true := by simp [h]
theorem eqD_ints_of {ns ms : List Int} (h : ns = ms) : eqD (.lst (ns.map D.int)) (.lst (ms.map D.int)) = true := by subst h; exact eqDs_refl_ints ns
theorem i_neI {M : Mh} {Q : QZ} {i j : Int} (e : i = j) (q : Q (.bl false) M) : dNe (.int i) (.int j) M Q := i_neF (.int _ _) (.int _ _) (eqD_int_of e) q
theorem i_eqI {M : Mh} {Q : QZ} {i j : Int} (e : i = j) (q : Q (.bl true) M) : dEq (.int i) (.int j) M Q := i_eqT (.int _ _) (.int _ _) (eqD_int_of e) q
theorem i_neIs {M : Mh} {Q : QZ} {ns ms : List Int} (e : ns = ms) (q : Q (.bl false) M) : dNe (.lst (ns.map D.int)) (.lst (ms.map D.int)) M Q := i_neF (.ints _) (.ints _) (eqD_ints_of e) q
theorem i_eqIs {M : Mh} {Q : QZ} {ns ms : List Int} (e : ns = ms) (q : Q (.bl true) M) : dEq (.lst (ns.map D.int)) (.lst (ms.map D.int)) M Q := i_eqT (.ints _) (.ints _) (eqD_ints_of e) q
theorem i_idx {M : Mh} {Q : QZ} {y : D} {l : List D} {j : Nat} (h1 : flatD y = true) (h2 : l.all flatD = true) (h3 : idxD y l = some j) (q : Q (.int (j : Nat)) M) : dIndex (.lst l) [y] M Q := by
  show flatD y = true ∧ l.all flatD = true ∧ (match idxD y l with | some j => Q (.int (j : Nat)) M | none => False)
  rw [h3]; exact ⟨h1, h2, q⟩
theorem i_tixV {r : Zl.Env} {M : Mh} {Q : QZ} {y : D} {ds : List D} {n j : Nat} (h : gt r n = some y) (h1 : flatD y = true) (h3 : idxD y ds = some j) (q : Q (.int (j : Nat)) M) : zTIx ds (zCons (zVar n) zNil) r M Q := by
  refine i_tix (i_cons (i_var h (i_nil ?_)))
  show flatD y = true ∧ (match idxD y ds with | some j => Q (.int (j : Nat)) M | none => False)
  rw [h3]; exact ⟨h1, q⟩
def knowns (M : Mh) (ds : List D) : Prop := ∀ d ∈ ds, known M d
theorem knowns_ints {M : Mh} (ns : List Int) : knowns M (ns.map D.int) := fun d hd => by
  obtain ⟨i, _, rfl⟩ := List.mem_map.mp hd
  exact known_int i
/-- the ten bits of a word -/
def ten (w : Int) : List Int := [512, 256, 128, 64, 32, 16, 8, 4, 2, 1].map fun b => w / b % 2
theorem iw_int {i lo hi : Int} : iw (.int i) lo hi = (decide (lo ≤ i) && decide (i ≤ hi)) := rfl
theorem iw_true {i lo hi : Int} (h1 : lo ≤ i) (h2 : i ≤ hi) : iw (.int i) lo hi = true := by simp [iw, h1, h2]
def wordOf (ns : List Int) : Int := ns.foldl (fun a b => 2 * a + b) 0
def bitL (ns : List Int) : Prop := ∀ n ∈ ns, n = 0 ∨ n = 1
theorem ten_bits (w : Int) : bitL (ten w) := fun n hn => by
  obtain ⟨b, _, rfl⟩ := List.mem_map.mp hn
  omega
theorem ten_len (w : Int) : (ten w).length = 10 := rfl
/-! loops and comprehensions over what is known -/
theorem zLoop_map {α : Type} {f : α → D} {c : Ck} {step : D → (Zl.Env → Mh → Prop) → Zl.Env → Mh → Prop} {nx : Zl.Env → Mh → Prop} (P : List α → Zl.Env → Mh → Prop) (hd : ∀ r M, P [] r M → zck c M (nx r M))
    (hs : ∀ a l r M (k : Zl.Env → Mh → Prop), P (a :: l) r M → (∀ r' M', P l r' M' → k r' M') → zck c M (step (f a) k r M)) :
    ∀ {as : List α} {r : Zl.Env} {M : Mh}, P as r M → zLoop c step nx (as.map f) r M
  | [], r, M, h => hd r M h
  | a :: l, r, M, h => hs a l r M _ h fun r' M' h' => zLoop_map P hd hs h'
theorem rangeD_succ (lo : Int) (n : Nat) : rangeD lo 1 (n + 1) = .int lo :: rangeD (lo + 1) 1 n := rfl
theorem zLoop_range0 {step : D → (Zl.Env → Mh → Prop) → Zl.Env → Mh → Prop} {nx : Zl.Env → Mh → Prop} {lo : Int} (P : Nat → Zl.Env → Mh → Prop) (m : Nat) (hd : ∀ r M, P m r M → nx r M)
    (hs : ∀ j r M (k : Zl.Env → Mh → Prop), j < m → P j r M → (∀ r' M', P (j + 1) r' M' → k r' M') → step (.int (lo + (j : Nat))) k r M) :
    ∀ (n i : Nat) {r : Zl.Env} {M : Mh}, i + n = m → P i r M → zLoop none step nx (rangeD (lo + (i : Nat)) 1 n) r M
  | 0, i, r, M, e, h => by
    have e' : i = m := by omega
    subst e'; exact hd r M h
  | n + 1, i, r, M, e, h => by
    rw [rangeD_succ]
    refine hs i r M _ (by omega) h fun r' M' h' => ?_
    have := zLoop_range0 P m hd hs n (i + 1) (by omega) h'
    rw [show (lo + ((i + 1 : Nat) : Int)) = lo + (i : Nat) + 1 by omega] at this
    exact this
/-- a loop over a range, by its index -/
theorem zLoop_range {step : D → (Zl.Env → Mh → Prop) → Zl.Env → Mh → Prop} {nx : Zl.Env → Mh → Prop} {lo : Int} {m : Nat} (P : Nat → Zl.Env → Mh → Prop) (hd : ∀ r M, P m r M → nx r M)
    (hs : ∀ j r M (k : Zl.Env → Mh → Prop), j < m → P j r M → (∀ r' M', P (j + 1) r' M' → k r' M') → step (.int (lo + (j : Nat))) k r M) {r : Zl.Env} {M : Mh} (h : P 0 r M) : zLoop none step nx (rangeD lo 1 m) r M := by
  have := zLoop_range0 P m hd hs m 0 (by omega) h
  rw [show lo + ((0 : Nat) : Int) = lo by omega] at this; exact this
theorem zLcL_mapm {α : Type} {f g : α → D} {step : D → Mh → (Option D → Mh → Prop) → Prop} {k : List D → Mh → Prop} {M : Mh} : ∀ {as : List α} {acc : List D}, (∀ a, a ∈ as → ∀ Q : Option D → Mh → Prop, Q (some (g a)) M → step (f a) M Q) → k (acc ++ as.map g) M → zLcL none step k (as.map f) acc M
  | [], acc, _, h => by
    show k acc M
    simpa using h
  | a :: l, acc, hs, h => by
    show step (f a) M _
    refine hs a List.mem_cons_self _ ?_
    show zLcL none step k (l.map f) (acc ++ [g a]) M
    exact zLcL_mapm (fun e he => hs e (List.mem_cons_of_mem _ he)) (by simpa using h)
theorem zLcL_filterm {α : Type} {f g : α → D} {p : α → Bool} {step : D → Mh → (Option D → Mh → Prop) → Prop} {k : List D → Mh → Prop} {M : Mh} : ∀ {as : List α} {acc : List D}, (∀ a, a ∈ as → ∀ Q : Option D → Mh → Prop, (p a = true → Q (some (g a)) M) → (p a = false → Q none M) → step (f a) M Q) → k (acc ++ (as.filter p).map g) M → zLcL none step k (as.map f) acc M
  | [], acc, _, h => by
    show k acc M
    simpa using h
  | a :: l, acc, hs, h => by
    show step (f a) M _
    refine hs a List.mem_cons_self _ (fun hp => ?_) (fun hp => ?_)
    · show zLcL none step k (l.map f) (acc ++ [g a]) M
      exact zLcL_filterm (fun e he => hs e (List.mem_cons_of_mem _ he)) (by simpa [List.filter_cons, hp] using h)
    · show zLcL none step k (l.map f) acc M
      exact zLcL_filterm (fun e he => hs e (List.mem_cons_of_mem _ he)) (by simpa [List.filter_cons, hp] using h)
theorem rangeD_mapI (n : Nat) : rangeD 0 1 n = (List.range n).map fun (k : Nat) => D.int (k : Nat) := by
  rw [rangeD_map]; apply List.map_congr_left; intro k _; rw [Int.zero_add]
theorem atI_ints {ns : List Int} {k : Nat} (h : k < ns.length) : atI (ns.map D.int) (k : Int) = some (.int ns[k]) := atI_nat (by rw [List.getElem?_map, List.getElem?_eq_getElem h]; rfl)
/-- a while, by a measure that falls -/
theorem zWhile_ind {t : ZT} {tb : ZS} {E : ZEnds} (P : Nat → Zl.Env → Mh → Prop) (hs : ∀ n r M (k : Zl.Env → Mh → Prop), P n r M → (∀ m r' M', m < n → P m r' M' → k r' M') → t r M fun b M1 => bsel b (tb { nx := k, rt := E.rt, bk := E.nx, ct := k } r M1) (E.nx r M1)) {r : Zl.Env} {M : Mh} (n : Nat) (h : P n r M) : zWhile t tb E r M := by
  have up : ∀ (f n : Nat) (r : Zl.Env) (M : Mh), n < f → P n r M → zWhileN t tb E f r M := by
    intro f
    induction f with
    | zero => intro n r M h; omega
    | succ f ih =>
      intro n r M h hp
      exact hs n r M (zWhileN t tb E f) hp fun m r' M' hm h' => ih m r' M' (by omega) h'
  exact ⟨n + 1, up (n + 1) n r M (by omega) h⟩
theorem cutD_to (ds : List D) (k : Nat) : cutD ds none (some (k : Int)) = ds.take k := by
  unfold cutD
  rw [HT.sIx_none, HT.sIx_nat, List.drop_zero, Nat.sub_zero]
  by_cases h : k ≤ ds.length
  · rw [Nat.min_eq_left h]
  · rw [Nat.min_eq_right (by omega), List.take_of_length_le (Nat.le_refl _), List.take_of_length_le (by omega)]
theorem cutD_from (ds : List D) (k : Nat) : cutD ds (some (k : Int)) none = ds.drop k := by
  unfold cutD
  rw [HT.sIx_none, HT.sIx_nat, List.take_of_length_le (by rw [List.length_drop]; omega)]
  by_cases h : k ≤ ds.length
  · rw [Nat.min_eq_left h]
  · rw [Nat.min_eq_right (by omega), List.drop_of_length_le (Nat.le_refl _), List.drop_of_length_le (by omega)]
theorem cutD_mid (ds : List D) (i j : Nat) : cutD ds (some (i : Int)) (some (j : Int)) = (ds.drop i).take (j - i) := by
  unfold cutD
  rw [HT.sIx_nat, HT.sIx_nat]
  by_cases h : i ≤ ds.length
  · rw [Nat.min_eq_left h]
    by_cases h2 : j ≤ ds.length
    · rw [Nat.min_eq_left h2]
    · rw [Nat.min_eq_right (by omega), List.take_of_length_le (by rw [List.length_drop]; omega), List.take_of_length_le (by rw [List.length_drop]; omega)]
  · rw [show min i ds.length = ds.length by omega, List.drop_of_length_le (Nat.le_refl _), List.drop_of_length_le (show ds.length ≤ i by omega), List.take_nil, List.take_nil]
theorem bitL_app {a b : List Int} (h : bitL a) (h' : bitL b) : bitL (a ++ b) := fun n hn => (List.mem_append.mp hn).elim (h n) (h' n)
theorem bitL_take {a : List Int} (h : bitL a) (k : Nat) : bitL (a.take k) := fun n hn => h n (List.mem_of_mem_take hn)
theorem bitL_drop {a : List Int} (h : bitL a) (k : Nat) : bitL (a.drop k) := fun n hn => h n (List.mem_of_mem_drop hn)
theorem ixN_last {acc : List Int} (h : acc ≠ []) : ixN (acc.map D.int).length (-1) = some (acc.length - 1) := by
  have : 0 < acc.length := List.length_pos_iff.mpr h
  unfold ixN
  rw [List.length_map, if_neg (by decide), if_pos (by omega)]
  congr 1; omega
theorem atI_last {acc : List Int} (h : acc ≠ []) : atI (acc.map D.int) (-1) = some (.int (acc.getLastD 0)) := by
  have : 0 < acc.length := List.length_pos_iff.mpr h
  unfold atI
  rw [ixN_last h]
  show (acc.map D.int)[acc.length - 1]? = _
  rw [List.getElem?_map, ← List.getLast?_eq_getElem?, List.getLastD_eq_getLast?]
  cases e : acc.getLast? with
  | none => rw [List.getLast?_eq_none_iff] at e; exact absurd e h
  | some x => rfl
theorem set_last {acc : List Int} {x : Int} (h : acc ≠ []) : (acc.map D.int).set (acc.length - 1) (.int x) = (acc.dropLast ++ [x]).map D.int := by
  have : 0 < acc.length := List.length_pos_iff.mpr h
  rw [← List.map_set]
  congr 1
  obtain ⟨l, y, rfl⟩ : ∃ l y, acc = l ++ [y] := ⟨acc.dropLast, acc.getLast h, (List.dropLast_concat_getLast h).symm⟩
  simp
/-- a statement, by what holds behind it -/
theorem i_seqP {t u : ZS} {E : ZEnds} {r : Zl.Env} {M : Mh} (P : Zl.Env → Mh → Prop) (h1 : ∀ r M, P r M → u E r M) (h2 : ∀ k : Zl.Env → Mh → Prop, (∀ r M, P r M → k r M) → t { nx := k, rt := E.rt, bk := E.bk, ct := E.ct } r M) : zSeq t u E r M := h2 _ h1
theorem rep_ints (x : Int) (n : Nat) : (List.replicate n [D.int x]).flatten = (List.replicate n x).map D.int := by
  induction n with
  | zero => rfl
  | succ n ih => rw [List.replicate_succ, List.flatten_cons, ih]; rfl
theorem i_addIs {M : Mh} {Q : QZ} {a b : List Int} {n : Bool} (h : a.length + b.length ≤ 16777216) (q : zNew n ((a ++ b).map D.int) M Q) : dAdd n (.lst (a.map D.int)) (.lst (b.map D.int)) M Q := i_addL (by rw [List.length_map, List.length_map]; exact h) (by rw [← List.map_append]; exact q)
theorem i_addI1 {M : Mh} {Q : QZ} {a : List Int} {b : Int} {n : Bool} (h : a.length + 1 ≤ 16777216) (q : zNew n ((a ++ [b]).map D.int) M Q) : dAdd n (.lst (a.map D.int)) (.lst [.int b]) M Q := i_addIs (b := [b]) h q
theorem i_mulI1 {M : Mh} {Q : QZ} {x k : Int} {n : Bool} (h0 : 0 ≤ k) (h : k ≤ 16777216) (q : zNew n ((List.replicate k.toNat x).map D.int) M Q) : dMul n (.lst [.int x]) (.int k) M Q := i_mulL (by omega) (by omega) (by show 1 * _ ≤ 2 ^ 24; omega) (by rw [rep_ints]; exact q)
theorem i_rtN2 {R : QZ} {M : Mh} {p : Addr} {ds : List D} {x : Int} (hp : M p = none) (h : R (.tup [.lst ds, .int x]) M) : (enB true R).rt (.tup [.ref p, .int x]) (mup M p (.lst ds)) :=
  ⟨_, _, .frz (p := p) mup_same, by rw [mdel_mup hp]; simpa [frzD, frzDs] using h⟩
theorem zck_at {M : Mh} {p : Addr} {ds : List D} (e : M p = some (.lst ds)) : ∀ P : Prop, P → zck (some (p, ds)) M P := fun _ h => ⟨e, h⟩
/-- a comprehension over what may change, but doesn't here -/
theorem zLcL_filterc {c : Ck} {step : D → Mh → (Option D → Mh → Prop) → Prop} {k : List D → Mh → Prop} {M : Mh} (hc : ∀ P : Prop, P → zck c M P) (p : D → Bool) (f : D → D) : ∀ {ds acc : List D}, (∀ d, d ∈ ds → ∀ Q : Option D → Mh → Prop, (p d = true → Q (some (f d)) M) → (p d = false → Q none M) → step d M Q) → k (acc ++ (ds.filter p).map f) M → zLcL c step k ds acc M
  | [], acc, _, h => by
    refine hc _ ?_
    simpa using h
  | d :: l, acc, hs, h => by
    refine hc _ (hs d List.mem_cons_self _ (fun hp => ?_) (fun hp => ?_))
    · show zLcL c step k l (acc ++ [f d]) M
      exact zLcL_filterc hc p f (fun e he => hs e (List.mem_cons_of_mem _ he)) (by simpa [List.filter_cons, hp] using h)
    · show zLcL c step k l acc M
      exact zLcL_filterc hc p f (fun e he => hs e (List.mem_cons_of_mem _ he)) (by simpa [List.filter_cons, hp] using h)
/-- a changing list is left as it stands -/
theorem i_ghF {t : ZS} {E : ZEnds} {r : Zl.Env} {M : Mh} {p : Addr} {ds : List D} (e : M p = some (.lst ds)) (h : t E (r.map fun o => o.map (frzD p ds)) (mdel M p)) : zGh t E r M := ⟨_, _, .frz e, h⟩
theorem i_gh0 {t : ZS} {E : ZEnds} {r : Zl.Env} {M : Mh} (h : t E r M) : zGh t E r M := ⟨_, _, .refl, h⟩
mutual
/-- no changing thing inside -/
def noRef : D → Bool
  | .lst ds => noRefs ds
  | .tup ds => noRefs ds
  | .ref _ => false
  | _ => true
def noRefs : List D → Bool
  | [] => true
  | d :: r => noRef d && noRefs r
end
mutual
theorem frzD_no {p : Addr} {es : List D} : ∀ {d : D}, noRef d = true → frzD p es d = d
  | .lst ds, h => by unfold frzD; rw [frzDs_no (by simpa [noRef] using h)]
  | .tup ds, h => by unfold frzD; rw [frzDs_no (by simpa [noRef] using h)]
  | .ref a, h => by simp [noRef] at h
  | .non, _ => by simp [frzD]
  | .bl b, _ => by simp [frzD]
  | .int i, _ => by simp [frzD]
  | .str x, _ => by simp [frzD]
  | .dct, _ => by simp [frzD]
  | .exc c, _ => by simp [frzD]
  | .scr ns, _ => by simp [frzD]
theorem frzDs_no {p : Addr} {es : List D} : ∀ {ds : List D}, noRefs ds = true → frzDs p es ds = ds
  | [], _ => by simp [frzDs]
  | d :: r, h => by
    have q := Bool.and_eq_true_iff.mp (show (noRef d && noRefs r) = true by simpa [noRefs] using h)
    unfold frzDs; rw [frzD_no q.1, frzDs_no q.2]
end
theorem noRefs_ints : ∀ ns : List Int, noRefs (ns.map D.int) = true
  | [] => by simp [noRefs]
  | n :: r => by simp [noRefs, noRef, noRefs_ints r]
theorem frz_ints {p : Addr} {es : List D} (ns : List Int) : frzD p es (.lst (ns.map D.int)) = .lst (ns.map D.int) := frzD_no (by unfold noRef; exact noRefs_ints ns)
theorem frz_at {p : Addr} {es : List D} : frzD p es (.ref p) = .lst es := by unfold frzD; rw [if_pos rfl]
theorem frz_other {p a : Addr} {es : List D} (h : a ≠ p) : frzD p es (.ref a) = .ref a := by unfold frzD; rw [if_neg h]
theorem frz_int {p : Addr} {es : List D} (i : Int) : frzD p es (.int i) = .int i := by simp [frzD]
theorem frz_scr {p : Addr} {es : List D} (i : List Int) : frzD p es (.scr i) = .scr i := by simp [frzD]
theorem atI_snoc {ds : List D} {d : D} : atI (ds ++ [d]) (-1) = some d := by
  unfold atI ixN
  rw [List.length_append, if_neg (by decide), if_pos (by simp only [List.length_cons, List.length_nil]; omega)]
  show (ds ++ [d])[_]? = _
  rw [show ((-1 : Int) + ((ds.length + [d].length : Nat) : Int)).toNat = ds.length by simp only [List.length_cons, List.length_nil]; omega]
  simp
theorem ixN_snoc {ds : List D} {d : D} : ixN (ds ++ [d]).length (-1) = some ds.length := by
  unfold ixN
  rw [List.length_append, if_neg (by decide), if_pos (by simp only [List.length_cons, List.length_nil]; omega)]
  congr 1; simp only [List.length_cons, List.length_nil]; omega
theorem set_snoc {ds : List D} {d e : D} : (ds ++ [d]).set ds.length e = ds ++ [e] := by simp
theorem all_flat_ints (ns : List Int) : (ns.map D.int).all flatD = true := by rw [List.all_map]; exact List.all_eq_true.mpr fun _ _ => rfl

theorem l_is_whole {d : D} {lo hi : Int} {M : Mh} {Q : QZ} {E : ZX} (h : known M d) (q : Q (.bl (iw d lo hi)) M) : z_is_whole [d, .int lo, .int hi] M Q E := by
  show zFn false zb_is_whole _ _ _ _
  unfold zFn zb_is_whole
  obtain ⟨t, ht⟩ := h
  cases d with
  | int i =>
    walk_at "z"
    refine i_bd (fun h1 => ?_) (fun h1 => ?_)
    · walk_at "z"
      have e : iw (.int i) lo hi = decide (i ≤ hi) := by simp [iw, h1]
      rw [e] at q; exact q
    · walk_at "z"
      have e : iw (.int i) lo hi = false := by simp [iw, h1]
      rw [e] at q; exact q
  | bl b => walk_at "z"; exact q
  | non => walk_at "z"; exact q
  | str s => walk_at "z"; exact q
  | lst l => walk_at "z"; exact q
  | tup l => walk_at "z"; exact q
  | dct => walk_at "z"; exact q
  | exc c => cases ht
  | scr c => cases ht
  | ref p =>
    have ht' : tyD M (.ref p) = some "list" := by
      have z : (match M p with | some (.lst _) => some "list" | _ => none) = some t := ht
      split at z
      · cases z; exact ht
      · cases z
    walk_at "z"
    refine i_isi ht' ?_
    walk_at "z"
    exact q

/-! rows of bytes -/
def byteL (ns : List Int) : Prop := ∀ n ∈ ns, 0 ≤ n ∧ n ≤ 255
/-- the sum that a check tells -/
def wsum : Nat → List Int → Int
  | _, [] => 0
  | k, b :: r => ((k : Int) + 1) * (b + 1) + wsum (k + 1) r
def sumOf (ns : List Int) : Int := wsum 0 ns % 65521
def checkL (ns : List Int) : List Int := [sumOf ns / 256, sumOf ns % 256]
theorem byteL_app {a b : List Int} (h : byteL a) (h' : byteL b) : byteL (a ++ b) := fun n hn => (List.mem_append.mp hn).elim (h n) (h' n)
theorem byteL_take {a : List Int} (h : byteL a) (k : Nat) : byteL (a.take k) := fun n hn => h n (List.mem_of_mem_take hn)
theorem byteL_drop {a : List Int} (h : byteL a) (k : Nat) : byteL (a.drop k) := fun n hn => h n (List.mem_of_mem_drop hn)
theorem wsum_idx : ∀ (ns : List Int) (k : Nat), ((ns.zipIdx k).map fun x => ((x.2 : Int) + 1) * (x.1 + 1)).sum = wsum k ns
  | [], _ => rfl
  | b :: r, k => by
    rw [List.zipIdx_cons, List.map_cons, List.sum_cons, wsum_idx r (k + 1)]; rfl
theorem wsum_app : ∀ (a b : List Int) (k : Nat), wsum k (a ++ b) = wsum k a + wsum (k + a.length) b
  | [], b, k => by show wsum k b = 0 + wsum (k + 0) b; rw [Int.zero_add]; rfl
  | x :: r, b, k => by
    show _ + wsum (k + 1) (r ++ b) = _ + wsum (k + 1) r + wsum (k + (r.length + 1)) b
    rw [wsum_app r b (k + 1), show k + 1 + r.length = k + (r.length + 1) by omega, Int.add_assoc]
theorem sumOf_rng (ns : List Int) : 0 ≤ sumOf ns ∧ sumOf ns < 65521 := ⟨Int.emod_nonneg _ (by decide), Int.emod_lt_of_pos _ (by decide)⟩
theorem checkL_eq {a b : List Int} : checkL a = checkL b ↔ sumOf a = sumOf b := by
  constructor
  · intro h
    injection h with h1 h2
    injection h2 with h2
    have e1 := Int.mul_ediv_add_emod (sumOf a) 256
    have e2 := Int.mul_ediv_add_emod (sumOf b) 256
    rw [h1, h2] at e1
    omega
  · intro h; unfold checkL; rw [h]
theorem sumOf_ne {a b : List Int} (h : ¬ (wsum 0 a - wsum 0 b) % 65521 = 0) : sumOf a ≠ sumOf b := by
  unfold sumOf; omega
theorem checkL_ne {a b : List Int} (h : ¬ (wsum 0 a - wsum 0 b) % 65521 = 0) : eqD (.lst ((checkL a).map D.int)) (.lst ((checkL b).map D.int)) = false := by
  have hs : sumOf a ≠ sumOf b := sumOf_ne h
  cases e : eqD (.lst ((checkL a).map D.int)) (.lst ((checkL b).map D.int)) with
  | false => rfl
  | true =>
    exfalso
    apply hs
    apply checkL_eq.mp
    simp [checkL] at e ⊢
    exact e
theorem wsum_set : ∀ (ns : List Int) (k j : Nat) (x : Int) (h : j < ns.length), wsum k (ns.set j x) = wsum k ns + ((k + j : Nat) + 1) * (x - ns[j])
  | b :: r, k, 0, x, _ => by
    show ((k : Int) + 1) * (x + 1) + wsum (k + 1) r = ((k : Int) + 1) * (b + 1) + wsum (k + 1) r + ((k + 0 : Nat) + 1) * (x - b)
    have e : ((k + 0 : Nat) : Int) = k := by omega
    rw [e, Int.mul_add, Int.mul_add, Int.mul_sub]; omega
  | b :: r, k, j + 1, x, h => by
    show ((k : Int) + 1) * (b + 1) + wsum (k + 1) (r.set j x) = ((k : Int) + 1) * (b + 1) + wsum (k + 1) r + ((k + (j + 1) : Nat) + 1) * (x - r[j]'(by simpa using h))
    rw [wsum_set r (k + 1) j x (by simpa using h), show k + 1 + j = k + (j + 1) by omega]; omega

-- needs: rows
/-- whether a thing is a row -/
def isRow (M : Mh) (d : D) (most : Int) : Bool := match d with
  | .lst ds => decide ((ds.length : Int) ≤ most) && ds.all fun x => iw x 0 255
  | _ => false
theorem isRow_ok {M : Mh} {ns : List Int} {most : Int} (h : byteL ns) (hl : (ns.length : Int) ≤ most) : isRow M (.lst (ns.map D.int)) most = true := by
  show (decide (((ns.map D.int).length : Int) ≤ most) && (ns.map D.int).all fun x => iw x 0 255) = true
  rw [List.length_map, decide_eq_true hl, List.all_map, Bool.true_and, List.all_eq_true]
  intro n hn
  exact iw_true (h n hn).1 (h n hn).2
theorem l_is_row {d : D} {most : Int} {M : Mh} {Q : QZ} {E : ZX} (h : known M d) (hk : ∀ ds, d = .lst ds → knowns M ds) (hr : ∀ p, d ≠ .ref p) (q : Q (.bl (isRow M d most)) M) : z_is_row [d, .int most] M Q E := by
  show zFn _ zb_is_row _ _ _ _
  unfold zFn zb_is_row
  obtain ⟨t, ht⟩ := h
  cases d with
  | lst ds =>
    walk_at "z"
    refine i_bd (fun h => ?_) (fun h => ?_)
    · walk_at "z"
      rw [show isRow M (.lst ds) most = false by show (decide _ && _) = false; rw [decide_eq_false (by omega)]; rfl] at q
      exact q
    · walk_at "z"
      refine zLcL_map (fun x => .bl (iw x 0 255)) (fun x hx Q hq => ?_) ?_
      · walk_at "z"
        refine l_is_whole (hk ds rfl x hx) ?_
        exact hq
      · walk_at "z"
        refine i_allE (bs := ds.map fun x => iw x 0 255) (by simp [Function.comp_def]) ?_
        walk_at "z"
        rw [show isRow M (.lst ds) most = (ds.map fun x => iw x 0 255).all id by show (decide _ && _) = _; rw [decide_eq_true (by omega), List.all_map]; rfl] at q
        exact q
  | exc c => cases ht
  | scr c => cases ht
  | ref p => exact absurd rfl (hr p)
  | _ => walk_at "z"; exact q
/-- .. of a list that may change -/
theorem l_is_rowR {p : Addr} {ns : List Int} {most : Int} {M : Mh} {Q : QZ} {E : ZX} (e : M p = some (.lst (ns.map D.int))) (h : byteL ns) (hl : (ns.length : Int) ≤ most) (q : Q (.bl true) M) : z_is_row [.ref p, .int most] M Q E := by
  show zFn _ zb_is_row _ _ _ _
  unfold zFn zb_is_row
  walk_at "y"
  refine zLcL_filterc (zck_at e) (fun _ => true) (fun x => .bl (iw x 0 255)) (fun d hd Q h1 _ => ?_) ?_
  · walk_at "y"
    obtain ⟨i, _, rfl⟩ := List.mem_map.mp hd
    exact l_is_whole (known_int i) (h1 rfl)
  · walk_at "y"
    refine i_allE (bs := ns.map fun x => iw (.int x) 0 255) (by rw [List.filter_eq_self.mpr (fun _ _ => rfl)]; simp [Function.comp_def]) ?_
    walk_at "y"
    rw [show (ns.map fun x => iw (.int x) 0 255).all id = true by
      rw [List.all_map, List.all_eq_true]
      intro n hn
      exact iw_true (h n hn).1 (h n hn).2]
    exact q

theorem l_look_row {d : D} {most : Int} {M : Mh} {Q : QZ} {E : ZX} (h : known M d) (hk : ∀ ds, d = .lst ds → knowns M ds) (hr : ∀ p, d ≠ .ref p) (q1 : isRow M d most = true → Q .non M) (q2 : isRow M d most = false → E "BadRow" [] M) : z_look_row [d, .int most] M Q E := by
  show zFn _ zb_look_row _ _ _ _
  unfold zFn zb_look_row
  walk_at "z"
  refine l_is_row h hk hr ?_
  walk_at "z"
  cases e : isRow M d most with
  | true => walk_at "z"; exact q1 e
  | false => walk_at "z"; exact q2 e
theorem l_look_row_ok {ns : List Int} {most : Int} {M : Mh} {Q : QZ} {E : ZX} (h : byteL ns) (hl : (ns.length : Int) ≤ most) (q : Q .non M) : z_look_row [.lst (ns.map D.int), .int most] M Q E :=
  l_look_row (known_lst _) (fun ds e => by cases e; exact knowns_ints ns) (fun p e => by cases e) (fun _ => q) fun e => by rw [isRow_ok h hl] at e; cases e
theorem l_look_rowR {p : Addr} {ns : List Int} {most : Int} {M : Mh} {Q : QZ} {E : ZX} (e : M p = some (.lst (ns.map D.int))) (h : byteL ns) (hl : (ns.length : Int) ≤ most) (q : Q .non M) : z_look_row [.ref p, .int most] M Q E := by
  show zFn _ zb_look_row _ _ _ _
  unfold zFn zb_look_row
  walk_at "z"
  refine l_is_rowR e h hl ?_
  walk_at "z"
  exact q

-- needs: rows
/-- rows as data -/
def rowD (ns : List Int) : D := .lst (ns.map D.int)
def rowsD (rs : List (List Int)) : List D := rs.map rowD
theorem Pl_row (n : Nat) (ns : List Int) : Pl (n + 1) (rowD ns) := .ints ns
theorem Pl_rows (n : Nat) (rs : List (List Int)) : Pl (n + 2) (.lst (rowsD rs)) := .lst fun x hx => by
  obtain ⟨r, _, rfl⟩ := List.mem_map.mp hx
  exact Pl_row n r
theorem eqDs_ints : ∀ {a b : List Int}, eqDs (a.map D.int) (b.map D.int) = decide (a = b)
  | [], [] => rfl
  | [], _ :: _ => rfl
  | _ :: _, [] => rfl
  | x :: a, y :: b => by
    show (eqD (.int x) (.int y) && eqDs (a.map D.int) (b.map D.int)) = _
    rw [eqDs_ints, eqD_int]
    by_cases h : x = y
    · subst h; simp
    · simp [h]
theorem eqD_rows {a b : List Int} : eqD (rowD a) (rowD b) = decide (a = b) := eqDs_ints
theorem eqD_nil {ds : List D} : eqD (.lst ds) (.lst []) = decide (ds = []) := by
  cases ds with
  | nil => rfl
  | cons d r => rfl
theorem atI_head {d : D} {l : List D} : atI (d :: l) (0 : Int) = some d := by
  unfold atI ixN
  rw [if_pos (by decide), if_pos (by rw [List.length_cons]; omega)]; rfl
theorem i_pop0 {M : Mh} {Q : QZ} {p : Addr} {d : D} {l : List D} (e : M p = some (.lst (d :: l))) (q : Q d (mup M p (.lst l))) : dPopAt (.ref p) [.int 0] M Q := by
  refine ⟨by decide, by decide, ?_⟩
  rw [zR_ref e]
  have e1 : ixN (d :: l).length (0 : Int) = some 0 := by
    unfold ixN
    rw [if_pos (by decide), if_pos (by rw [List.length_cons]; omega)]; rfl
  simp only [e1]
  exact q
def badRow (M : Mh) (most : Int) (d : D) : Prop := known M d ∧ (∀ ds, d = .lst ds → knowns M ds) ∧ (∀ p, d ≠ .ref p) ∧ (match d with | .lst ds => decide ((ds.length : Int) ≤ most) && ds.all fun x => iw x 0 255 | _ => false) = false
theorem badRow_of {M : Mh} {most : Int} {d : D} {t : String} (h1 : tyD M d = some t) (h2 : ∀ ds, d ≠ .lst ds) (h3 : ∀ p, d ≠ .ref p) : badRow M most d := by
  refine ⟨⟨_, h1⟩, (fun ds e => absurd e (h2 ds)), h3, ?_⟩
  cases d with
  | lst ds => exact absurd rfl (h2 ds)
  | ref p => exact absurd rfl (h3 p)
  | _ => rfl
theorem badRow_long {M : Mh} {most : Int} {ns : List Int} (h : most < ns.length) : badRow M most (.lst (ns.map D.int)) := by
  refine ⟨known_lst _, (fun ds e => by cases e; exact knowns_ints _), (fun p e => by cases e), ?_⟩
  show (decide (((ns.map D.int).length : Int) ≤ most) && _) = false
  rw [decide_eq_false (by rw [List.length_map]; omega), Bool.false_and]
/-- a row with one odd thing put in -/
theorem badRow_odd {M : Mh} {most : Int} {row : List Int} {b : D} {i j : Nat} (h1 : known M b) (h2 : iw b 0 255 = false) : badRow M most (.lst ((row.map D.int).take i ++ [b] ++ (row.map D.int).drop j)) := by
  have hi : ∀ x ∈ row.map D.int, known M x := fun x hx => by
    obtain ⟨i, _, rfl⟩ := List.mem_map.mp hx
    exact known_int i
  refine ⟨known_lst _, (fun ds e => by
    cases e
    intro x hx
    rcases List.mem_append.mp hx with hx | hx
    · rcases List.mem_append.mp hx with hx | hx
      · exact hi x (List.mem_of_mem_take hx)
      · rw [List.mem_singleton.mp hx]; exact h1
    · exact hi x (List.mem_of_mem_drop hx)), (fun p e => by cases e), ?_⟩
  show (decide _ && List.all _ _) = false
  rw [List.all_append, List.all_append, show List.all [b] (fun x => iw x 0 255) = false by simp [h2]]
  simp

-- needs: rowsD
/-- a row, frozen or one that may change -/
def RowAt (M : Mh) (d : D) (fr : List Int) : Prop := d = rowD fr ∨ ∃ p, d = .ref p ∧ M p = some (.lst (fr.map D.int))
theorem RowAt.frz {M : Mh} (fr : List Int) : RowAt M (rowD fr) fr := .inl rfl
theorem RowAt.at {M : Mh} {p : Addr} {fr : List Int} (h : M p = some (.lst (fr.map D.int))) : RowAt M (.ref p) fr := .inr ⟨p, rfl, h⟩
theorem RowAt.keep {M M' : Mh} {d : D} {fr : List Int} (h : RowAt M d fr) (k : ∀ p, d = .ref p → M' p = M p) : RowAt M' d fr := by
  rcases h with e | ⟨p, e, hp⟩
  · exact .inl e
  · exact .inr ⟨p, e, (k p e).trans hp⟩
theorem i_ixA {M : Mh} {Q : QZ} {d v : D} {fr : List Int} {i : Int} (h : RowAt M d fr) (e : atI (fr.map D.int) i = some v) (q : Q v M) : dIx d (.int i) M Q := by
  rcases h with rfl | ⟨p, rfl, hp⟩
  · exact i_ixL e q
  · exact i_ixR hp e q
theorem i_lenA {M : Mh} {Q : QZ} {d : D} {fr : List Int} (h : RowAt M d fr) (q : Q (.int fr.length) M) : dLen [d] M Q := by
  rcases h with rfl | ⟨p, rfl, hp⟩
  · exact i_lenIs q
  · exact i_lenRs hp q
theorem i_listA {M : Mh} {Q : QZ} {n : Bool} {d : D} {fr : List Int} (h : RowAt M d fr) (q : zNew n (fr.map D.int) M Q) : dList n [d] M Q := by
  rcases h with rfl | ⟨p, rfl, hp⟩
  · exact i_listL q
  · exact i_listR hp q
theorem atI_k {ds : List D} {d : D} (k : Nat) (h : ds[k]? = some d) : atI ds (k : Int) = some d := atI_nat h
theorem atI_0 {a : Int} {r : List Int} : atI ((a :: r).map D.int) 0 = some (.int a) := atI_nat (j := 0) rfl
theorem atI_1 {a b : Int} {r : List Int} : atI ((a :: b :: r).map D.int) 1 = some (.int b) := atI_nat (j := 1) rfl
theorem atI_2 {a b c : Int} {r : List Int} : atI ((a :: b :: c :: r).map D.int) 2 = some (.int c) := atI_nat (j := 2) rfl

-- needs: rowat rowsD rows
/-- the places of a lane, and its bytes -/
def laneN (n L i : Nat) : List Nat := (List.range ((n + L - 1 - i) / L)).map fun j => i + L * j
def laneL (row : List Int) (L i : Nat) : List Int := (laneN row.length L i).map fun k => row.getD k 0
def dealL (row : List Int) (L : Nat) (t : Int) : List (List Int) := (List.range L).map fun i => t :: laneL row L i
def okL (L : Nat) : Prop := L = 2 ∨ L = 3 ∨ L = 4
theorem laneN_lt {n L i k : Nat} (hL : okL L) (h : k ∈ laneN n L i) : k < n := by
  obtain ⟨j, hj, rfl⟩ := List.mem_map.mp h
  have hj := List.mem_range.mp hj
  rcases hL with e | e | e <;> subst e <;> omega
theorem laneN_filter {L i : Nat} (hL : okL L) (hi : i < L) : ∀ n : Nat, (List.range n).filter (fun k => decide (k % L = i)) = laneN n L i
  | 0 => by
    unfold laneN
    rw [show (0 + L - 1 - i) / L = 0 from by rcases hL with e | e | e <;> subst e <;> omega]
    rfl
  | n + 1 => by
    rw [List.range_succ, List.filter_append, laneN_filter hL hi n]
    unfold laneN
    by_cases h : n % L = i
    · have e1 : (n + 1 + L - 1 - i) / L = (n + L - 1 - i) / L + 1 := by rcases hL with e | e | e <;> subst e <;> omega
      have e2 : i + L * ((n + L - 1 - i) / L) = n := by rcases hL with e | e | e <;> subst e <;> omega
      rw [e1, List.range_succ, List.map_append, List.map_singleton, e2]
      simp [h]
    · have e1 : (n + 1 + L - 1 - i) / L = (n + L - 1 - i) / L := by rcases hL with e | e | e <;> subst e <;> omega
      rw [e1]
      simp [h]
theorem bounds_lane {n L i : Nat} (hL : 0 < L) : sliceBounds (some (i : Int)) none (some (L : Int)) n = (((min i n : Nat) : Int), (n : Int), (L : Int)) := by
  have h1 : (L : Int) > 0 := by omega
  have h2 : ¬ ((i : Int) < 0) := by omega
  unfold sliceBounds
  dsimp only [Option.getD_some]
  rw [if_neg h2, if_pos h1, if_pos h1]
  congr 1
  omega
theorem laneN_pick {n L i : Nat} (hL : okL L) (hi : i < L) : pickN n (some (i : Int)) none (some (L : Int)) = laneN n L i := by
  unfold pickN
  rw [bounds_lane (by rcases hL with e | e | e <;> omega)]
  unfold laneN sliceRange
  dsimp only
  have h1 : (L : Int) > 0 := by rcases hL with e | e | e <;> omega
  rw [if_pos h1]
  have e1 : (if ((min i n : Nat) : Int) < (n : Int) then ((n : Int) - ((min i n : Nat) : Int) + (L : Int) - 1) / (L : Int) else 0).toNat = (n + L - 1 - i) / L := by
    by_cases h : i < n
    · rw [if_pos (by omega), show min i n = i by omega]
      rcases hL with e | e | e <;> subst e <;> omega
    · rw [if_neg (by omega)]
      rcases hL with e | e | e <;> subst e <;> omega
  rw [e1]
  apply List.map_congr_left
  intro k hk
  have hk := List.mem_range.mp hk
  by_cases h : i < n
  · rw [show min i n = i by omega]
    rcases hL with e | e | e <;> subst e <;> omega
  · exfalso
    rcases hL with e | e | e <;> subst e <;> omega
theorem filterMap_get (row : List D) : ∀ l : List Nat, (∀ k ∈ l, k < row.length) → l.filterMap (row[·]?) = l.map fun k => row.getD k .non
  | [], _ => rfl
  | k :: l, h => by
    have hk := h k List.mem_cons_self
    rw [List.filterMap_cons_some (List.getElem?_eq_getElem hk), filterMap_get row l fun m hm => h m (List.mem_cons_of_mem _ hm), List.map_cons]
    congr 1
    rw [List.getD_eq_getElem?_getD, List.getElem?_eq_getElem hk]; rfl
theorem pickL_lane {row : List Int} {L i : Nat} (hL : okL L) (hi : i < L) : pickL (row.map D.int) (some (i : Int)) none (some (L : Int)) = (laneL row L i).map D.int := by
  unfold pickL
  rw [List.length_map, laneN_pick hL hi, filterMap_get _ _ fun k hk => by rw [List.length_map]; exact laneN_lt hL hk]
  unfold laneL
  rw [List.map_map]
  apply List.map_congr_left
  intro k hk
  have := laneN_lt hL hk
  show (row.map D.int).getD k .non = D.int (row.getD k 0)
  rw [List.getD_eq_getElem?_getD, List.getD_eq_getElem?_getD, List.getElem?_map, List.getElem?_eq_getElem this]; rfl
theorem laneL_len {row : List Int} {L i : Nat} : (laneL row L i).length = (row.length + L - 1 - i) / L := by unfold laneL laneN; rw [List.length_map, List.length_map, List.length_range]
theorem laneL_byte {row : List Int} {L i : Nat} (hL : okL L) (h : byteL row) : byteL (laneL row L i) := fun x hx => by
  obtain ⟨k, hk, rfl⟩ := List.mem_map.mp hx
  have := laneN_lt hL hk
  rw [List.getD_eq_getElem?_getD, List.getElem?_eq_getElem this]
  exact h _ (List.getElem_mem _)
/-- rows, some of which may change -/
inductive RAt (M : Mh) : List D → List (List Int) → Prop
  | nil : RAt M [] []
  | cons {d : D} {fr : List Int} {ds : List D} {rs : List (List Int)} : RowAt M d fr → RAt M ds rs → RAt M (d :: ds) (fr :: rs)
theorem RAt.rows {M : Mh} : ∀ rs : List (List Int), RAt M (rowsD rs) rs
  | [] => .nil
  | r :: rs => .cons (.inl rfl) (RAt.rows rs)
theorem RAt.len {M : Mh} {ds : List D} {rs : List (List Int)} (h : RAt M ds rs) : ds.length = rs.length := by
  induction h with
  | nil => rfl
  | cons _ _ ih => rw [List.length_cons, List.length_cons, ih]
theorem RAt.get {M : Mh} {ds : List D} {rs : List (List Int)} (h : RAt M ds rs) : ∀ {i : Nat} {fr : List Int}, rs[i]? = some fr → ∃ d, ds[i]? = some d ∧ RowAt M d fr := by
  induction h with
  | nil => intro i fr h; simp at h
  | cons hd _ ih =>
    intro i fr h
    cases i with
    | zero => simp at h; subst h; exact ⟨_, rfl, hd⟩
    | succ i =>
      rw [List.getElem?_cons_succ] at h
      obtain ⟨d, h1, h2⟩ := ih h
      exact ⟨d, by rw [List.getElem?_cons_succ]; exact h1, h2⟩
theorem zLcL_rat {g : List Int → D} {step : D → Mh → (Option D → Mh → Prop) → Prop} {k : List D → Mh → Prop} {M : Mh} : ∀ {ds acc : List D} {rs : List (List Int)}, RAt M ds rs → (∀ d fr, fr ∈ rs → RowAt M d fr → ∀ Q : Option D → Mh → Prop, Q (some (g fr)) M → step d M Q) → k (acc ++ rs.map g) M → zLcL none step k ds acc M
  | _, acc, _, .nil, _, h => by
    show k acc M
    simpa using h
  | _, acc, _, .cons hd ht, hs, h => by
    show step _ M _
    refine hs _ _ List.mem_cons_self hd _ ?_
    show zLcL none step k _ (acc ++ [g _]) M
    exact zLcL_rat ht (fun d fr hm => hs d fr (List.mem_cons_of_mem _ hm)) (by simpa using h)

-- needs: lanedef
theorem l_look_many {L : Nat} {M : Mh} {Q : QZ} {E : ZX} (h : okL L) (q : Q .non M) : z_look_many [.int (L : Nat)] M Q E := by
  show zFn _ zb_look_many _ _ _ _
  unfold zFn zb_look_many
  walk_at "z"
  refine l_is_whole (known_int _) ?_
  rw [iw_true (by rcases h with e | e | e <;> omega) (by rcases h with e | e | e <;> omega)]
  walk_at "z"
  exact q
theorem l_look_many_bad {d : D} {M : Mh} {Q : QZ} {E : ZX} (h : known M d) (hb : iw d 2 4 = false) (q : E "BadLane" [] M) : z_look_many [d] M Q E := by
  show zFn _ zb_look_many _ _ _ _
  unfold zFn zb_look_many
  walk_at "z"
  refine l_is_whole h ?_
  rw [hb]
  walk_at "z"
  exact q

-- needs: rowsD is_row
theorem badRow.isRow {M : Mh} {m : Int} {d : D} (h : badRow M m d) : isRow M d m = false := by
  obtain ⟨h1, h2, h3, h4⟩ := h
  cases d with
  | lst ds => exact h4
  | _ => rfl

-- needs: lanedef look_many badrow
theorem l_dealt_many {d x : D} {y : D} {M : Mh} {Q : QZ} {E : ZX} (h : known M x) (hb : iw x 2 4 = false) (q : E "BadLane" [] M) : z_dealt [d, x, y] M Q E := by
  show zFn _ zb_dealt _ _ _ _
  unfold zFn zb_dealt
  walk_at "z"
  refine l_look_many_bad h hb ?_
  walk_at "z"
  exact q
theorem l_dealt_row {d y : D} {L : Nat} {M : Mh} {Q : QZ} {E : ZX} (hL : okL L) (h : badRow M (63 * L) d) (q : E "BadRow" [] M) : z_dealt [d, .int (L : Nat), y] M Q E := by
  show zFn _ zb_dealt _ _ _ _
  unfold zFn zb_dealt
  walk_at "z"
  refine l_look_many hL ?_
  walk_at "z"
  refine l_look_row h.1 h.2.1 h.2.2.1 (fun e => by rw [show isRow M d ((64 - 1) * (L : Int)) = false from h.isRow] at e; cases e) fun _ => ?_
  walk_at "z"
  exact q
theorem l_dealt_turn {row : List Int} {y : D} {L : Nat} {M : Mh} {Q : QZ} {E : ZX} (hL : okL L) (hb : byteL row) (hl : row.length ≤ 63 * L) (hy : known M y) (hi : iw y 0 255 = false) (q : E "BadRow" [] M) : z_dealt [rowD row, .int (L : Nat), y] M Q E := by
  show zFn _ zb_dealt _ _ _ _
  unfold zFn zb_dealt
  walk_at "z"
  refine l_look_many hL ?_
  walk_at "z"
  refine l_look_row_ok hb (by omega) ?_
  walk_at "z"
  refine l_is_whole hy ?_
  rw [show iw y 0 (256 - 1) = false from hi]
  walk_at "z"
  exact q
/-- what is dealt; mu_ tells which rows are to be changed -/
theorem l_dealtG {row : List Int} {t : Int} {L : Nat} {M : Mh} {Q : QZ} {E : ZX} (mu_ : Nat → Bool) (hL : okL L) (hb : byteL row) (hl : row.length ≤ 63 * L) (h0 : 0 ≤ t) (h1 : t ≤ 255)
    (q : ∀ M' ds, (∀ y o, M y = some o → M' y = some o) → RAt M' ds (dealL row L t) → (∀ i : Nat, i < L → ∀ d, ds[i]? = some d → (mu_ i = false → d = rowD (t :: laneL row L i)) ∧ (mu_ i = true → ∃ p, d = .ref p ∧ M p = none ∧ ∀ j d', j < L → j ≠ i → ds[j]? = some d' → d' ≠ .ref p)) → (∀ y, M' y ≠ none → M y = none → ∃ i : Nat, ds[i]? = some (.ref y)) → Q (.lst ds) M') : z_dealt [rowD row, .int (L : Nat), .int t] M Q E := by
  show zFn _ zb_dealt _ _ _ _
  unfold zFn zb_dealt
  walk_at "z"
  refine l_look_many hL ?_
  walk_at "z"
  refine l_look_row_ok hb (by omega) ?_
  walk_at "z"
  refine l_is_whole (known_int _) ?_
  rw [iw_true h0 (by omega)]
  unfold rowD
  have hL4 : L ≤ 4 := by rcases hL with e | e | e <;> omega
  walk_at "z"
  rw [Int.toNat_natCast, rangeD_mapI]
  have elt : ∀ (i : Nat) (b : Bool) (M' : Mh) (Q : QZ), i < L → zNew b ((t :: laneL row L i).map D.int) M' Q → z2 (dAdd b) (zLst false (zCons (zVar 2) zNil)) (zSlS false (zVar 0) (zPart (zVar 3)) zNoPart (zPart (zVar 1))) [some (.lst (row.map D.int)), some (.int (L : Nat)), some (.int t), some (.int (i : Nat))] M' Q := by
    intro i b M' Q hi hq
    walk_at "z"
    refine ⟨fun z => by injection z with z; omega, ?_⟩
    refine i_zLl ?_
    rw [pickL_lane hL hi]
    refine ⟨by rw [List.length_map, laneL_len, sizeLine_eq]; rcases hL with e | e | e <;> subst e <;> omega, ?_⟩
    walk_at "z"
    refine i_addIs (a := [t]) (by rw [laneL_len]; show 1 + _ ≤ _; rcases hL with e | e | e <;> subst e <;> omega) ?_
    exact hq
  refine zLcL_ind (fun l acc M' => ∃ j : Nat, j ≤ L ∧ l = ((List.range L).drop j).map (fun k : Nat => D.int (k : Nat)) ∧ (∀ y o, M y = some o → M' y = some o) ∧ RAt M' acc ((dealL row L t).take j) ∧ (∀ i : Nat, i < j → ∀ d, acc[i]? = some d → (mu_ i = false → d = rowD (t :: laneL row L i)) ∧ (mu_ i = true → ∃ p, d = .ref p ∧ M p = none ∧ ∀ j' d', j' < j → j' ≠ i → acc[j']? = some d' → d' ≠ .ref p)) ∧ (∀ y, M' y ≠ none → M y = none → ∃ i : Nat, acc[i]? = some (.ref y)) ∧ acc.length = j) ?_ ?_
    ⟨0, Nat.zero_le _, rfl, fun _ _ h => h, .nil, (fun i h => absurd h (Nat.not_lt_zero i)), (fun y h1 h2 => absurd h2 h1), rfl⟩
  · rintro acc M' ⟨j, hj, e1, hk, hR, hm, hn, hal⟩
    have hj2 : j = L := by
      have := congrArg List.length e1
      rw [List.length_map, List.length_drop, List.length_range, List.length_nil] at this; omega
    subst hj2
    have hDl : (dealL row j t).length = j := by unfold dealL; rw [List.length_map, List.length_range]
    rw [show (dealL row j t).take j = dealL row j t by rw [List.take_of_length_le (by omega)]] at hR
    walk_at "z"
    refine i_newT fun p hp => i_rtN hp ?_
    exact q M' acc hk hR hm hn
  · rintro d l acc M' q2 ⟨j, hj, e1, hk, hR, hm, hn, hal⟩ h1 h2
    have hj2 : j < L := by
      have := congrArg List.length e1
      rw [List.length_map, List.length_drop, List.length_range, List.length_cons] at this; omega
    have e2 : (List.range L).drop j = j :: (List.range L).drop (j + 1) := by
      rw [List.drop_eq_getElem_cons (by rw [List.length_range]; exact hj2)]
      congr 1
      rw [List.getElem_range]
    rw [e2] at e1
    injection e1 with e3 e4
    subst e3 e4
    have eT : (dealL row L t).take (j + 1) = (dealL row L t).take j ++ [t :: laneL row L j] := by
      rw [List.take_add_one]
      congr 1
      unfold dealL
      rw [List.getElem?_map, List.getElem?_range hj2]; rfl
    walk_at "z"
    have rapp : ∀ {M1 : Mh} {as : List D} {rs : List (List Int)} {d1 : D} {fr : List Int}, RAt M1 as rs → RowAt M1 d1 fr → RAt M1 (as ++ [d1]) (rs ++ [fr]) := by
      intro M1 as rs d1 fr h hd
      induction h with
      | nil => exact .cons hd .nil
      | cons h0 _ ih => exact .cons h0 ih
    have aget : ∀ {d1 : D} {i : Nat} {d : D}, (acc ++ [d1])[i]? = some d → (i < j ∧ acc[i]? = some d) ∨ (i = j ∧ d = d1) := by
      intro d1 i d h
      by_cases hi : i < acc.length
      · rw [List.getElem?_append_left hi] at h; exact .inl ⟨by omega, h⟩
      · rw [List.getElem?_append_right (by omega)] at h
        have : i - acc.length = 0 := by
          rcases Nat.eq_zero_or_pos (i - acc.length) with e | e
          · exact e
          · rw [List.getElem?_eq_none (by simp; omega)] at h; cases h
        rw [this] at h
        simp at h
        exact .inr ⟨by omega, h.symm⟩
    cases em : mu_ j with
    | false =>
      refine i_anyF (elt j false _ _ hj2 ?_)
      walk_at "z"
      refine h2 _ _ ⟨j + 1, by omega, rfl, hk, by rw [eT]; exact rapp hR (.inl rfl), fun i hi d hd => ?_, fun y h3 h4 => ?_, by rw [List.length_append, hal]; rfl⟩
      · rcases aget hd with ⟨hi2, hd⟩ | ⟨rfl, rfl⟩
        · obtain ⟨a1, a2⟩ := hm i hi2 d hd
          refine ⟨a1, fun e => ?_⟩
          obtain ⟨p, b1, b2, b3⟩ := a2 e
          refine ⟨p, b1, b2, fun j' d' c1 c2 c3 => ?_⟩
          rcases aget c3 with ⟨c4, c5⟩ | ⟨_, rfl⟩
          · exact b3 j' d' c4 c2 c5
          · intro z; cases z
        · exact ⟨fun _ => rfl, fun e => by rw [em] at e; cases e⟩
      · obtain ⟨i, hi⟩ := hn y h3 h4
        exact ⟨i, by rw [List.getElem?_append_left (by rw [List.getElem?_eq_some_iff] at hi; exact hi.1)]; exact hi⟩
    | true =>
      refine i_anyT (elt j true _ _ hj2 ?_)
      refine i_newT fun p hp => ?_
      walk_at "z"
      have hpM : M p = none := by
        cases e : M p with
        | none => rfl
        | some o => rw [hk p o e] at hp; cases hp
      refine h2 _ _ ⟨j + 1, by omega, rfl, fun y o hy => mup_get hp (hk y o hy), ?_, fun i hi d hd => ?_, fun y h3 h4 => ?_, by rw [List.length_append, hal]; rfl⟩
      · rw [eT]
        refine rapp ?_ (.at mup_same)
        have kp : ∀ {as : List D} {rs : List (List Int)}, RAt M' as rs → RAt (mup M' p (.lst ((t :: laneL row L j).map D.int))) as rs := by
          intro as rs h
          induction h with
          | nil => exact .nil
          | cons h0 _ ih => exact .cons (by
              rcases h0 with e | ⟨p', e, hp'⟩
              · exact .inl e
              · exact .inr ⟨p', e, mup_get hp hp'⟩) ih
        exact kp hR
      · rcases aget hd with ⟨hi2, hd⟩ | ⟨rfl, rfl⟩
        · obtain ⟨a1, a2⟩ := hm i hi2 d hd
          refine ⟨a1, fun e => ?_⟩
          obtain ⟨p', b1, b2, b3⟩ := a2 e
          refine ⟨p', b1, b2, fun j' d' c1 c2 c3 => ?_⟩
          rcases aget c3 with ⟨c4, c5⟩ | ⟨_, rfl⟩
          · exact b3 j' d' c4 c2 c5
          · intro z
            injection z with z
            subst z
            obtain ⟨fr, hf⟩ : ∃ fr, ((dealL row L t).take j)[i]? = some fr := by
              have : i < ((dealL row L t).take j).length := by rw [← hR.len]; omega
              exact ⟨_, List.getElem?_eq_getElem this⟩
            obtain ⟨d2, e5, e6⟩ := hR.get hf
            rw [hd] at e5
            cases e5
            subst b1
            rcases e6 with e7 | ⟨p2, e7, e8⟩
            · cases e7
            · cases e7; rw [hp] at e8; cases e8
        · refine ⟨(fun e => by rw [em] at e; cases e), fun _ => ⟨p, rfl, hpM, fun j' d' c1 c2 c3 => ?_⟩⟩
          rcases aget c3 with ⟨c4, c5⟩ | ⟨c4, _⟩
          · intro z
            subst z
            obtain ⟨fr, hf⟩ : ∃ fr, ((dealL row L t).take i)[j']? = some fr := by
              have : j' < ((dealL row L t).take i).length := by rw [← hR.len]; omega
              exact ⟨_, List.getElem?_eq_getElem this⟩
            obtain ⟨d2, e5, e6⟩ := hR.get hf
            rw [c5] at e5
            cases e5
            rcases e6 with e7 | ⟨p2, e7, e8⟩
            · cases e7
            · cases e7; rw [hp] at e8; cases e8
          · exact absurd c4 c2
      · by_cases hy : y = p
        · subst hy
          refine ⟨acc.length, by rw [List.getElem?_append_right (Nat.le_refl _)]; simp⟩
        · rw [mup_ne hy] at h3
          obtain ⟨i, hi⟩ := hn y h3 h4
          exact ⟨i, by rw [List.getElem?_append_left (by rw [List.getElem?_eq_some_iff] at hi; exact hi.1)]; exact hi⟩

-- needs: lanedef
theorem sorted_one : ∀ {a b : List Int}, a.Perm b → a.Pairwise (· ≥ ·) → b.Pairwise (· ≥ ·) → a = b
  | [], b, h, _, _ => by rw [h.nil_eq]
  | x :: a, [], h, _, _ => by have := h.length_eq; simp at this
  | x :: a, y :: b, h, ha, hb => by
    have hx : x ∈ y :: b := h.subset List.mem_cons_self
    have hy : y ∈ x :: a := h.symm.subset List.mem_cons_self
    have e : x = y := by
      have h1 : y ≥ x := by
        rcases List.mem_cons.mp hx with e | hx
        · omega
        · exact (List.pairwise_cons.mp hb).1 x hx
      have h2 : x ≥ y := by
        rcases List.mem_cons.mp hy with e | hy
        · omega
        · exact (List.pairwise_cons.mp ha).1 y hy
      omega
    subst e
    rw [sorted_one (List.Perm.cons_inv h) (List.pairwise_cons.mp ha).2 (List.pairwise_cons.mp hb).2]
def lensI (rs : List (List Int)) : List Int := rs.map fun r => (r.length : Int)
instance (l : List Int) : Decidable (l.Pairwise (· ≥ ·)) := inferInstance
def fitsB (rs : List (List Int)) : Bool := decide ((lensI rs).Pairwise (· ≥ ·)) && decide ((lensI rs).headD 0 - (lensI rs).getLastD 0 < 2)
theorem i_sortedR {b : Bool} {ns : List Int} {M : Mh} {Q : QZ} (h : ∀ ns' : List Int, ns'.Perm ns → ns'.Pairwise (· ≥ ·) → zNew b (ns'.map D.int) M Q) : dSortedR b [.lst (ns.map D.int)] M Q := ⟨ns, rfl, h⟩
theorem l_fits {ds : List D} {rs : List (List Int)} {M : Mh} {Q : QZ} {E : ZX} (h : RAt M ds rs) (hn : rs ≠ []) (hl : rs.length ≤ 1000) (q : Q (.bl (fitsB rs)) M) : z_fits [.lst ds] M Q E := by
  show zFn _ zb_fits _ _ _ _
  unfold zFn zb_fits
  walk_at "z"
  refine zLcL_rat (g := fun r => .int r.length) h (fun d fr _ hd Q hq => ?_) ?_
  · walk_at "z"
    exact i_lenA hd hq
  walk_at "z"
  rw [List.nil_append, show rs.map (fun r => D.int r.length) = (lensI rs).map D.int by unfold lensI; rw [List.map_map]; rfl]
  refine i_sortedR fun ns' hp hs => ?_
  walk_at "z"
  refine i_eq (.ints _) (.ints _) ?_
  rw [show eqD (.lst ((lensI rs).map D.int)) (.lst (ns'.map D.int)) = decide (lensI rs = ns') from eqDs_ints]
  have hne : lensI rs ≠ [] := by unfold lensI; simpa using hn
  by_cases e : (lensI rs).Pairwise (· ≥ ·)
  · rw [decide_eq_true (sorted_one hp hs e).symm]
    unfold fitsB at q
    rw [decide_eq_true e, Bool.true_and] at q
    walk_at "z"
    refine i_ixL (d := .int ((lensI rs).headD 0)) ?_ ?_
    · cases e5 : lensI rs with
      | nil => exact absurd e5 hne
      | cons a l => exact atI_head
    walk_at "z"
    refine i_ixL (atI_last hne) ?_
    walk_at "z"
    exact q
  · rw [decide_eq_false (fun z => e (by rw [z]; exact hs))]
    unfold fitsB at q
    rw [decide_eq_false e, Bool.false_and] at q
    walk_at "z"
    exact q

-- needs: rowat look_row is_row
theorem l_is_rowA {d : D} {ns : List Int} {most : Int} {M : Mh} {Q : QZ} {E : ZX} (e : RowAt M d ns) (h : byteL ns) (hl : (ns.length : Int) ≤ most) (q : Q (.bl true) M) : z_is_row [d, .int most] M Q E := by
  rcases e with rfl | ⟨p, rfl, hp⟩
  · exact l_is_row (known_lst _) (fun ds e => by cases e; exact knowns_ints ns) (fun p e => by cases e) (by rw [show isRow M (rowD ns) most = true from isRow_ok h hl]; exact q)
  · exact l_is_rowR hp h hl q
theorem l_look_rowA {d : D} {ns : List Int} {most : Int} {M : Mh} {Q : QZ} {E : ZX} (e : RowAt M d ns) (h : byteL ns) (hl : (ns.length : Int) ≤ most) (q : Q .non M) : z_look_row [d, .int most] M Q E := by
  rcases e with rfl | ⟨p, rfl, hp⟩
  · exact l_look_row_ok h hl q
  · exact l_look_rowR hp h hl q

-- needs: fits look_rowA badrow lanedef
def totL (rs : List (List Int)) : Int := (rs.map fun r => (r.length : Int) - 1).sum
def gathL (rs : List (List Int)) : List Int := (List.range (totL rs).toNat).map fun k => (rs.getD (k % rs.length) []).getD (1 + k / rs.length) 0
/-- rows that go together -/
structure GoOk (rs : List (List Int)) (t : Int) : Prop where
  n : okL rs.length
  b : ∀ r ∈ rs, byteL r ∧ r.length ≤ 64 ∧ r.head? = some t
  f : fitsB rs = true
theorem gath_in {rs : List (List Int)} {t : Int} (h : GoOk rs t) {k : Nat} (hk : k < (totL rs).toNat) : 0 ≤ totL rs ∧ totL rs ≤ 1000 ∧ ∃ fr, rs[k % rs.length]? = some fr ∧ 1 + k / rs.length < fr.length := by
  obtain ⟨hn, hb, hf⟩ := h
  have hf2 := Bool.and_eq_true_iff.mp hf
  have p1 := of_decide_eq_true hf2.1
  have p2 := of_decide_eq_true hf2.2
  have hl : ∀ r ∈ rs, 1 ≤ r.length := fun r hr => by
    have := (hb r hr).2.2
    cases r with
    | nil => cases this
    | cons a l => simp
  match rs, hn, hb, p1, p2, hl, hk with
  | [a, b], _, hb, p1, p2, hl, hk =>
    have h1 := hl a (by simp)
    have h2 := hl b (by simp)
    have h1' := (hb a (by simp)).2.1
    have h2' := (hb b (by simp)).2.1
    simp [lensI] at p1 p2
    simp [totL] at hk ⊢
    refine ⟨by omega, by omega, ?_⟩
    rcases (show k % 2 = 0 ∨ k % 2 = 1 by omega) with e | e <;> rw [e]
    · exact ⟨a, rfl, by omega⟩
    · exact ⟨b, rfl, by omega⟩
  | [a, b, c], _, hb, p1, p2, hl, hk =>
    have h1 := hl a (by simp)
    have h2 := hl b (by simp)
    have h3 := hl c (by simp)
    have h1' := (hb a (by simp)).2.1
    have h2' := (hb b (by simp)).2.1
    have h3' := (hb c (by simp)).2.1
    simp [lensI] at p1 p2
    simp [totL] at hk ⊢
    refine ⟨by omega, by omega, ?_⟩
    rcases (show k % 3 = 0 ∨ k % 3 = 1 ∨ k % 3 = 2 by omega) with e | e | e <;> rw [e]
    · exact ⟨a, rfl, by omega⟩
    · exact ⟨b, rfl, by omega⟩
    · exact ⟨c, rfl, by omega⟩
  | [a, b, c, d], _, hb, p1, p2, hl, hk =>
    have h1 := hl a (by simp)
    have h2 := hl b (by simp)
    have h3 := hl c (by simp)
    have h4 := hl d (by simp)
    have h1' := (hb a (by simp)).2.1
    have h2' := (hb b (by simp)).2.1
    have h3' := (hb c (by simp)).2.1
    have h4' := (hb d (by simp)).2.1
    simp [lensI] at p1 p2
    simp [totL] at hk ⊢
    refine ⟨by omega, by omega, ?_⟩
    rcases (show k % 4 = 0 ∨ k % 4 = 1 ∨ k % 4 = 2 ∨ k % 4 = 3 by omega) with e | e | e | e <;> rw [e]
    · exact ⟨a, rfl, by omega⟩
    · exact ⟨b, rfl, by omega⟩
    · exact ⟨c, rfl, by omega⟩
    · exact ⟨d, rfl, by omega⟩
  | [], hn, _, _, _, _, _ => rcases hn with e | e | e <;> cases e
  | [_], hn, _, _, _, _, _ => rcases hn with e | e | e <;> cases e
  | _ :: _ :: _ :: _ :: _ :: _, hn, _, _, _, _, _ => rcases hn with e | e | e <;> simp at e
theorem i_neNilA {M : Mh} {Q : QZ} {d : D} {fr : List Int} (h : RowAt M d fr) (q : Q (.bl (!decide (fr = []))) M) : dNe d (.lst []) M Q := by
  have e : eqD (.lst (fr.map D.int)) (.lst []) = decide (fr = []) := by rw [eqD_nil]; cases fr <;> rfl
  rcases h with rfl | ⟨p, rfl, hp⟩
  · exact i_ne (.ints _) (.lflat rfl) (by unfold rowD; rw [e]; exact q)
  · exact i_neR hp (.ints _) (.lflat rfl) (by rw [e]; exact q)
theorem atI_headL {t : Int} : ∀ {fr : List Int}, fr.head? = some t → atI (fr.map D.int) 0 = some (.int t)
  | [], h => by cases h
  | a :: l, h => by cases h; exact atI_head
/-- mu_: whether the row told may change -/
theorem l_gatheredG {ds : List D} {rs : List (List Int)} {t : Int} {M : Mh} {Q : QZ} {E : ZX} (mu_ : Bool) (hR : RAt M ds rs) (G : GoOk rs t) (q0 : mu_ = false → Q (.tup [.int t, rowD (gathL rs)]) M) (q1 : mu_ = true → ∀ p, M p = none → Q (.tup [.int t, .ref p]) (mup M p (.lst ((gathL rs).map D.int)))) : z_gathered [.lst ds] M Q E := by
  have hlen := hR.len
  have hn := G.n
  have h2 : 2 ≤ rs.length := by rcases hn with e | e | e <;> omega
  have h4 : rs.length ≤ 4 := by rcases hn with e | e | e <;> omega
  obtain ⟨r0, hr0⟩ : ∃ r0, rs[0]? = some r0 := ⟨_, List.getElem?_eq_getElem (by omega)⟩
  obtain ⟨d0, hd0, hd0R⟩ := hR.get hr0
  have hat0 : atI ds 0 = some d0 := atI_nat (j := 0) hd0
  have hb0 := G.b r0 (List.mem_of_getElem? hr0)
  show zFn _ zb_gathered _ _ _ _
  unfold zFn zb_gathered
  walk_at "z"
  refine zLcL_rat (g := fun r => .bl true) hR (fun d fr hfr hd Q hq => ?_) ?_
  · obtain ⟨b1, b2, b3⟩ := G.b fr hfr
    walk_at "z"
    refine l_is_rowA hd b1 (by omega) ?_
    walk_at "z"
    refine i_neNilA hd ?_
    rw [decide_eq_false (fun z => by rw [z] at b3; cases b3)]
    exact hq
  walk_at "z"
  refine i_allE (bs := rs.map fun _ => true) (by simp [Function.comp_def]) ?_
  walk_at "z"
  rw [show (rs.map fun _ => true).all id = true by simp]
  walk_at "z"
  refine l_fits hR (fun z => by rw [z] at h2; simp at h2) (by omega) ?_
  rw [G.f]
  walk_at "z"
  refine zLcL_rat (g := fun r => .bl true) hR (fun d fr hfr hd Q hq => ?_) ?_
  · obtain ⟨b1, b2, b3⟩ := G.b fr hfr
    walk_at "z"
    refine i_ixA hd (atI_headL b3) ?_
    walk_at "z"
    refine i_ixL hat0 ?_
    walk_at "z"
    refine i_ixA hd0R (atI_headL hb0.2.2) ?_
    walk_at "z"
    rw [decide_eq_true rfl]
    exact hq
  walk_at "z"
  refine i_allE (bs := rs.map fun _ => true) (by simp [Function.comp_def]) ?_
  walk_at "z"
  rw [show (rs.map fun _ => true).all id = true by simp]
  walk_at "z"
  refine zLcL_rat (g := fun r => .int ((r.length : Int) - 1)) hR (fun d fr hfr hd Q hq => ?_) ?_
  · walk_at "z"
    refine i_lenA hd ?_
    walk_at "z"
    exact hq
  walk_at "z"
  refine i_sumE (ns := rs.map fun r => (r.length : Int) - 1) (by rw [List.nil_append, List.map_map]; rfl) ?_
  rw [show (rs.map fun r => (r.length : Int) - 1).sum = totL rs from rfl]
  walk_at "z"
  refine i_ixL hat0 ?_
  walk_at "z"
  refine i_ixA hd0R (atI_headL hb0.2.2) ?_
  walk_at "z"
  have htot : -(2 ^ 62) ≤ totL rs ∧ totL rs ≤ 16777216 := by
    by_cases hz : 0 < (totL rs).toNat
    · have := gath_in G hz; omega
    · have h0 : ∀ r ∈ rs, 1 ≤ r.length := fun r hr => by
        have := (G.b r hr).2.2
        cases r with
        | nil => cases this
        | cons a l => simp
      have : ∀ l : List (List Int), (∀ r ∈ l, 1 ≤ r.length) → 0 ≤ totL l := by
        intro l
        induction l with
        | nil => intro _; exact Int.le_refl _
        | cons x l ih =>
          intro hx
          have h1 := ih fun r hr => hx r (List.mem_cons_of_mem _ hr)
          have h2 := hx x List.mem_cons_self
          show 0 ≤ ((x.length : Int) - 1) + totL l
          omega
      have := this rs h0
      omega
  have stp : ∀ (b : Bool) (Q : QZ), zNew b ((gathL rs).map D.int) M Q → zLc b (ziRange (zCons (zVar 1) zNil)) (zgName 3) zYes (z2 dIx (z2 dIx (zVar 0) (z2 dMod (zVar 3) (zCB dLen (zCons (zVar 0) zNil)))) (z2 (dAdd false) (zC (.int 1)) (z2 dDiv (zVar 3) (zCB dLen (zCons (zVar 0) zNil))))) [3] [some (.lst ds), some (.int (totL rs)), none, none] M Q := by
    intro b Q hq
    walk_at "z"
    rw [rangeD_mapI]
    refine zLcL_mapm (g := fun k : Nat => .int ((rs.getD (k % rs.length) []).getD (1 + k / rs.length) 0)) (fun k hk Q hq => ?_) ?_
    · obtain ⟨_, _, fr, hf, hi⟩ := gath_in G (List.mem_range.mp hk)
      obtain ⟨d, hd, hdR⟩ := hR.get hf
      walk_at "z"
      rw [hlen]
      refine i_ixL (d := d) (by rw [show ((k : Int) % (rs.length : Int)) = ((k % rs.length : Nat) : Int) by omega]; exact atI_nat hd) ?_
      walk_at "z"
      rw [hlen]
      refine i_ixA hdR (v := .int (fr.getD (1 + k / rs.length) 0)) (by
        rw [show ((1 : Int) + (k : Int) / (rs.length : Int)) = ((1 + k / rs.length : Nat) : Int) by omega]
        refine atI_nat ?_
        rw [List.getElem?_map, List.getD_eq_getElem?_getD, List.getElem?_eq_getElem hi]; rfl) ?_
      rw [show rs.getD (k % rs.length) [] = fr by rw [List.getD_eq_getElem?_getD, hf]; rfl] at hq
      exact hq
    · walk_at "z"
      rw [List.nil_append, show (List.range (totL rs).toNat).map (fun k : Nat => D.int ((rs.getD (k % rs.length) []).getD (1 + k / rs.length) 0)) = (gathL rs).map D.int by unfold gathL; rw [List.map_map]; rfl]
      exact hq
  cases mu_ with
  | false =>
    refine i_anyF (stp false _ ?_)
    walk_at "z"
    exact q0 rfl
  | true =>
    refine i_anyT (stp true _ ?_)
    refine i_newT fun p hp => ?_
    walk_at "z"
    exact q1 rfl p hp
theorem l_gathered {ds : List D} {rs : List (List Int)} {t : Int} {M : Mh} {Q : QZ} {E : ZX} (hR : RAt M ds rs) (G : GoOk rs t) (q0 : Q (.tup [.int t, rowD (gathL rs)]) M) : z_gathered [.lst ds] M Q E := l_gatheredG false hR G (fun _ => q0) fun z => nomatch z

-- needs: lanedef gathered
theorem dealL_len (row : List Int) (L : Nat) (t : Int) : (dealL row L t).length = L := by unfold dealL; rw [List.length_map, List.length_range]
theorem dealL_get {row : List Int} {L i : Nat} {t : Int} (h : i < L) : (dealL row L t)[i]? = some (t :: laneL row L i) := by
  unfold dealL
  rw [List.getElem?_map, List.getElem?_range h]; rfl
theorem dealL_go {row : List Int} {L : Nat} {t : Int} (hL : okL L) (hb : byteL row) (hl : row.length ≤ 63 * L) (h0 : 0 ≤ t) (h1 : t ≤ 255) : GoOk (dealL row L t) t := by
  refine ⟨by rw [dealL_len]; exact hL, fun r hr => ?_, ?_⟩
  · obtain ⟨i, hi, rfl⟩ := List.mem_map.mp hr
    have hi := List.mem_range.mp hi
    refine ⟨fun x hx => ?_, ?_, rfl⟩
    · rcases List.mem_cons.mp hx with e | hx
      · subst e; exact ⟨h0, h1⟩
      · exact laneL_byte hL hb x hx
    · rw [List.length_cons, laneL_len]
      rcases hL with e | e | e <;> subst e <;> omega
  · unfold fitsB
    have e : lensI (dealL row L t) = (List.range L).map fun i => (((row.length + L - 1 - i) / L + 1 : Nat) : Int) := by
      unfold lensI dealL
      rw [List.map_map]
      apply List.map_congr_left
      intro i _
      show (((t :: laneL row L i).length : Nat) : Int) = _
      rw [List.length_cons, laneL_len]
    rw [e]
    rcases hL with e | e | e <;> subst e
    · simp [List.range_succ]; omega
    · simp [List.range_succ]; omega
    · simp [List.range_succ]; omega
theorem totL_deal {row : List Int} {L : Nat} {t : Int} (hL : okL L) : totL (dealL row L t) = row.length := by
  have e : (dealL row L t).map (fun r => (r.length : Int) - 1) = (List.range L).map fun i => (((row.length + L - 1 - i) / L : Nat) : Int) := by
    unfold dealL
    rw [List.map_map]
    apply List.map_congr_left
    intro i _
    show (((t :: laneL row L i).length : Nat) : Int) - 1 = _
    rw [List.length_cons, laneL_len]; omega
  unfold totL
  rw [e]
  rcases hL with e | e | e <;> subst e
  · simp [List.range_succ]; omega
  · simp [List.range_succ]; omega
  · simp [List.range_succ]; omega
theorem gath_deal {row : List Int} {L : Nat} {t : Int} (hL : okL L) : gathL (dealL row L t) = row := by
  unfold gathL
  rw [totL_deal hL, Int.toNat_natCast, dealL_len]
  apply List.ext_getElem?
  intro k
  by_cases hk : k < row.length
  · rw [List.getElem?_map, List.getElem?_range hk, List.getElem?_eq_getElem hk]
    show some (((dealL row L t).getD (k % L) []).getD (1 + k / L) 0) = _
    have hkl : k % L < L := Nat.mod_lt _ (by rcases hL with e | e | e <;> omega)
    rw [show (dealL row L t).getD (k % L) [] = t :: laneL row L (k % L) by rw [List.getD_eq_getElem?_getD, dealL_get hkl]; rfl]
    rw [show (t :: laneL row L (k % L)).getD (1 + k / L) 0 = (laneL row L (k % L)).getD (k / L) 0 by rw [Nat.add_comm 1]; rfl]
    have hj : k / L < (row.length + L - 1 - k % L) / L := by rcases hL with e | e | e <;> subst e <;> omega
    unfold laneL laneN
    rw [List.getD_eq_getElem?_getD, List.getElem?_map, List.getElem?_map, List.getElem?_range hj]
    show some (row.getD (k % L + L * (k / L)) 0) = _
    rw [show k % L + L * (k / L) = k by have := Nat.mod_add_div k L; omega, List.getD_eq_getElem?_getD, List.getElem?_eq_getElem hk]; rfl
  · rw [List.getElem?_eq_none (by rw [List.length_map, List.length_range]; omega), List.getElem?_eq_none (by omega)]

-- needs: lanedef fits gathered dealgath
abbrev LF := Nat → List (List Int)
/-- lanes: what waits in each, the turn due -/
structure LnAt (M : Mh) (a : Addr) (ws : List Addr) (t : Int) (f : LF) : Prop where
  me : M a = some (.ins "Lanes" [("rows", .lst (ws.map D.ref)), ("turn", .int t)])
  q : ∀ (i : Nat) (w : Addr), ws[i]? = some w → M w = some (.lst (rowsD (f i)))
  inj : ∀ (i j : Nat) (w : Addr), ws[i]? = some w → ws[j]? = some w → i = j
  L : okL ws.length
  t0 : 0 ≤ t
  t1 : t < 256
  ok : ∀ i, i < ws.length → ∀ r ∈ f i, byteL r ∧ r.length ≤ 64 ∧ r ≠ []
  sz : ∀ i, i < ws.length → (f i).length ≤ 10000
def lateB (t : Int) (r : List Int) : Bool := decide (128 ≤ (r.headD 0 - t) % 256)
def dropL (t : Int) (q : List (List Int)) : List (List Int) := q.dropWhile (lateB t)
def dropF (t : Int) (f : LF) : LF := fun i => dropL t (f i)
def setF (f : LF) (i : Nat) (q : List (List Int)) : LF := fun j => if j = i then q else f j
theorem LnAt.na {M : Mh} {a : Addr} {ws : List Addr} {t : Int} {f : LF} (h : LnAt M a ws t f) {i : Nat} {w : Addr} (hw : ws[i]? = some w) : w ≠ a := fun e => by
  have := h.q i w hw
  rw [e, h.me] at this; cases this
theorem LnAt.set {M : Mh} {a : Addr} {ws : List Addr} {t : Int} {f : LF} (h : LnAt M a ws t f) {i : Nat} {w : Addr} {q : List (List Int)} (hw : ws[i]? = some w) (hq : ∀ r ∈ q, byteL r ∧ r.length ≤ 64 ∧ r ≠ []) (hs : q.length ≤ 10000) : LnAt (mup M w (.lst (rowsD q))) a ws t (setF f i q) := by
  refine ⟨(mup_ne (Ne.symm (h.na hw))).trans h.me, fun j w' hj => ?_, h.inj, h.L, h.t0, h.t1, fun j hj => ?_, fun j hj => ?_⟩
  · by_cases e : w' = w
    · subst e
      rw [mup_same, h.inj j i w' hj hw]
      unfold setF
      rw [if_pos rfl]
    · rw [mup_ne e, h.q j w' hj]
      unfold setF
      rw [if_neg (fun z => e (by subst z; rw [hw] at hj; cases hj; rfl))]
  · unfold setF
    split
    · exact hq
    · exact h.ok j hj
  · unfold setF
    split
    · exact hs
    · exact h.sz j hj
theorem LnAt.congr {M : Mh} {a : Addr} {ws : List Addr} {t : Int} {f g : LF} (h : LnAt M a ws t f) (e : ∀ i, i < ws.length → f i = g i) : LnAt M a ws t g := by
  refine ⟨h.me, fun i w hw => ?_, h.inj, h.L, h.t0, h.t1, fun i hi => ?_, fun i hi => ?_⟩
  · rw [← e i (List.getElem?_eq_some_iff.mp hw).1]; exact h.q i w hw
  · rw [← e i hi]; exact h.ok i hi
  · rw [← e i hi]; exact h.sz i hi
theorem LnAt.keep {M M' : Mh} {a : Addr} {ws : List Addr} {t : Int} {f : LF} (h : LnAt M a ws t f) (k : ∀ y o, M y = some o → M' y = some o) : LnAt M' a ws t f := ⟨k _ _ h.me, fun i w hw => k _ _ (h.q i w hw), h.inj, h.L, h.t0, h.t1, h.ok, h.sz⟩
/-- nothing but the lanes is touched -/
def LnKeep (M M' : Mh) (a : Addr) (ws : List Addr) : Prop := ∀ y, y ≠ a → y ∉ ws → M' y = M y
theorem LnKeep.refl (M : Mh) (a : Addr) (ws : List Addr) : LnKeep M M a ws := fun _ _ _ => rfl
theorem LnKeep.trans {M M1 M2 : Mh} {a : Addr} {ws : List Addr} (h : LnKeep M M1 a ws) (h' : LnKeep M1 M2 a ws) : LnKeep M M2 a ws := fun y h1 h2 => (h' y h1 h2).trans (h y h1 h2)
def headsF (L : Nat) (f : LF) : List (List Int) := (List.range L).map fun i => (f i).headD []
def wholeB (t : Int) (hs : List (List Int)) : Bool := hs.all (fun h => decide (h.headD 0 = t)) && fitsB hs
def popF (t : Int) (f : LF) : LF := fun i => if ((f i).headD []).headD 0 = t then (f i).tail else f i
def evL (t : Int) (hs : List (List Int)) : D := if wholeB t hs then .tup [.str "row", .int t, rowD (gathL hs)] else .tup [.str "lost", .int t, .lst []]
def fullB (L : Nat) (f : LF) : Bool := (List.range L).all fun i => decide (f i ≠ [])
/-- the loop of what comes -/
def loopL (L : Nat) : Nat → Int → LF → List D × Int × LF
  | 0, t, f => ([], t, f)
  | n + 1, t, f => if fullB L f then (evL t (headsF L f) :: (loopL L n ((t + 1) % 256) (dropF ((t + 1) % 256) (popF t f))).1, (loopL L n ((t + 1) % 256) (dropF ((t + 1) % 256) (popF t f))).2) else ([], t, f)
theorem dropL_sub {t : Int} {q : List (List Int)} : ∀ r ∈ dropL t q, r ∈ q := fun r hr => (List.dropWhile_sublist _).subset hr
theorem dropL_len {t : Int} {q : List (List Int)} : (dropL t q).length ≤ q.length := (List.dropWhile_sublist _).length_le

-- needs: lanesm look_many
theorem l_Lanes___init__ {a : Addr} {L : Nat} {M : Mh} {Q : QZ} {E : ZX} (h : M a = some (.ins "Lanes" [])) (hL : okL L) (q : ∀ M' ws, ws.length = L → LnAt M' a ws 0 (fun _ => []) → (∀ w ∈ ws, M w = none) → LnKeep M M' a ws → Q .non M') : z_Lanes___init__ [.ref a, .int (L : Nat)] M Q E := by
  show zFn _ zb_Lanes___init__ _ _ _ _
  unfold zFn zb_Lanes___init__
  have hL4 : L ≤ 4 := by rcases hL with e | e | e <;> omega
  walk_at "y"
  refine l_look_many hL ?_
  walk_at "y"
  rw [Int.toNat_natCast]
  refine zLcL_ind (fun l acc M' => ∃ ws : List Addr, acc = ws.map D.ref ∧ ws.length + l.length = L ∧ M' a = some (.ins "Lanes" []) ∧ (∀ (i : Nat) (w : Addr), ws[i]? = some w → M' w = some (.lst [])) ∧ (∀ (i j : Nat) (w : Addr), ws[i]? = some w → ws[j]? = some w → i = j) ∧ (∀ w ∈ ws, M w = none) ∧ (∀ y, y ∉ ws → M' y = M y)) ?_ ?_ ⟨[], rfl, by rw [rangeD_len]; simp, h, (fun i w z => by simp at z), (fun i j w z => by simp at z), (fun _ z => nomatch z), fun _ _ => rfl⟩
  · rintro acc M' ⟨ws, rfl, hl, ha, h1, h2, h3, h4⟩
    simp only [List.length_nil, Nat.add_zero] at hl
    walk_at "y"
    refine q _ ws hl ⟨mup_same, fun i w hw => ?_, h2, by rw [hl]; exact hL, by decide, by decide, (fun _ _ r hr => nomatch hr), fun _ _ => Nat.zero_le _⟩ h3 fun y hy1 hy2 => ?_
    · have : w ≠ a := fun e => by have := h1 i w hw; rw [e, ha] at this; cases this
      rw [mup_ne this, mup_ne this]
      exact h1 i w hw
    · rw [mup_ne hy1, mup_ne hy1]; exact h4 y hy2
  · rintro d l acc M' q2 ⟨ws, rfl, hl, ha, h1, h2, h3, h4⟩ g1 g2
    walk_at "y"
    refine i_newT fun w hw => ?_
    have hwM : M w = none := by
      by_cases e : w ∈ ws
      · exact h3 w e
      · rw [← h4 w e]; exact hw
    have new : ∀ {i : Nat} {w' : Addr}, (ws ++ [w])[i]? = some w' → (i < ws.length ∧ ws[i]? = some w') ∨ (i = ws.length ∧ w' = w) := by
      intro i w' h
      by_cases hi : i < ws.length
      · rw [List.getElem?_append_left hi] at h; exact .inl ⟨hi, h⟩
      · rw [List.getElem?_append_right (by omega)] at h
        have : i - ws.length = 0 := by
          rcases Nat.eq_zero_or_pos (i - ws.length) with e | e
          · exact e
          · rw [List.getElem?_eq_none (by simp; omega)] at h; cases h
        rw [this] at h
        simp at h
        exact .inr ⟨by omega, h.symm⟩
    have nw : ∀ {i : Nat} {w' : Addr}, ws[i]? = some w' → w' ≠ w := fun hi e => by
      have := h1 _ _ hi
      rw [e, hw] at this; cases this
    refine g2 _ _ ⟨ws ++ [w], by rw [List.map_append]; rfl, by rw [List.length_append]; rw [List.length_cons] at hl; simp only [List.length_cons, List.length_nil]; omega, mup_get hw ha, fun i w' hi => ?_, fun i j w' hi hj => ?_, fun w' hw' => ?_, fun y hy => ?_⟩
    · rcases new hi with ⟨_, h⟩ | ⟨_, rfl⟩
      · rw [mup_ne (nw h)]; exact h1 i w' h
      · exact mup_same
    · rcases new hi with ⟨_, a1⟩ | ⟨a1, a2⟩
      · rcases new hj with ⟨_, b1⟩ | ⟨b1, b2⟩
        · exact h2 i j w' a1 b1
        · exact absurd b2 (nw a1)
      · rcases new hj with ⟨_, b1⟩ | ⟨b1, b2⟩
        · exact absurd a2 (nw b1)
        · omega
    · rcases List.mem_append.mp hw' with h | h
      · exact h3 w' h
      · rw [List.mem_singleton.mp h]; exact hwM
    · have hy1 : y ∉ ws := fun z => hy (List.mem_append_left _ z)
      have hy2 : y ≠ w := fun z => hy (by rw [z]; exact List.mem_append_right _ (List.mem_singleton.mpr rfl))
      rw [mup_ne hy2]; exact h4 y hy1
theorem l_Lanes_bad {a : Addr} {d : D} {M : Mh} {Q : QZ} {E : ZX} (h : known M d) (hb : iw d 2 4 = false) (q : E "BadLane" [] M) : z_Lanes___init__ [.ref a, d] M Q E := by
  show zFn _ zb_Lanes___init__ _ _ _ _
  unfold zFn zb_Lanes___init__
  walk_at "z"
  refine l_look_many_bad h hb ?_
  walk_at "z"
  exact q

-- needs: lanesm
theorem l_Lanes_drop_late {a : Addr} {ws : List Addr} {t : Int} {f : LF} {M : Mh} {Q : QZ} {E : ZX} (h : LnAt M a ws t f) (q : ∀ M', LnAt M' a ws t (dropF t f) → LnKeep M M' a ws → Q .non M') : z_Lanes_drop_late [.ref a] M Q E := by
  have hme := h.me
  show zFn _ zb_Lanes_drop_late _ _ _ _
  unfold zFn zb_Lanes_drop_late
  walk_at "y"
  refine zLoop_ind (fun l r M' => ∃ (j : Nat) (x : Option D), j ≤ ws.length ∧ l = (ws.drop j).map D.ref ∧ LnAt M' a ws t (fun i => if i < j then dropL t (f i) else f i) ∧ LnKeep M M' a ws ∧ r = [some (.ref a), x]) ?_ ?_ ⟨0, none, Nat.zero_le _, rfl, h.congr fun i _ => by rw [if_neg (Nat.not_lt_zero i)], LnKeep.refl _ _ _, rfl⟩
  · rintro r M' ⟨j, x, hj, e1, h1, hk, rfl⟩
    have hj2 : j = ws.length := by
      have := congrArg List.length e1
      rw [List.length_map, List.length_drop, List.length_nil] at this; omega
    subst hj2
    walk_at "y"
    exact q M' (h1.congr fun i hi => by rw [if_pos hi]; rfl) hk
  · rintro d l r M' k ⟨j, x, hj, e1, h1, hk, rfl⟩ hkk
    have hj2 : j < ws.length := by
      have := congrArg List.length e1
      rw [List.length_map, List.length_drop, List.length_cons] at this; omega
    have e2 : ws.drop j = ws[j] :: ws.drop (j + 1) := List.drop_eq_getElem_cons hj2
    rw [e2] at e1
    injection e1 with e3 e4
    subst e3 e4
    have hwj : ws[j]? = some ws[j] := List.getElem?_eq_getElem hj2
    generalize ws[j] = w at hwj ⊢
    refine i_ck0 (i_step (i_name ?_))
    dsimp only [st]
    refine zWhile_ind (P := fun n r M2 => ∃ q', q'.length = n ∧ dropL t q' = dropL t (f j) ∧ (∀ r ∈ q', r ∈ f j) ∧ LnAt M2 a ws t (fun i => if i < j then dropL t (f i) else if i = j then q' else f i) ∧ LnKeep M M2 a ws ∧ r = [some (.ref a), some (.ref w)]) ?_ (f j).length ⟨f j, rfl, rfl, fun _ h => h, h1.congr fun i _ => by
      by_cases e5 : i < j
      · rw [if_pos e5, if_pos e5]
      · rw [if_neg e5, if_neg e5]
        by_cases e6 : i = j
        · rw [if_pos e6, e6]
        · rw [if_neg e6], hk, rfl⟩
    rintro n r M2 k2 ⟨q', hn, hd, hsub, h2, hk2, rfl⟩ hkk2
    have hw2 : M2 w = some (.lst (rowsD q')) := by
      have := h2.q j w hwj
      rw [if_neg (Nat.lt_irrefl j), if_pos rfl] at this; exact this
    have hme2 := h2.me
    walk_at "y"
    refine i_neG (.at hw2) (.refl _) (.mono (Pl_rows 0 q') (by decide)) (.lflat rfl) ?_
    rw [eqD_nil]
    have out : dropL t q' = q' → k [some (.ref a), some (.ref w)] M2 := fun e5 => hkk _ _ ⟨j + 1, _, by omega, rfl, h2.congr fun i hi => by
      by_cases e6 : i < j
      · rw [if_pos e6, if_pos (by omega)]
      · rw [if_neg e6]
        by_cases e7 : i = j
        · rw [if_pos e7, if_pos (by omega), e7, ← hd, e5]
        · rw [if_neg e7, if_neg (by omega)], hk2, rfl⟩
    cases q' with
    | nil =>
      walk_at "y"
      exact out rfl
    | cons r0 q0 =>
      have hr0 := h.ok j hj2 r0 (hsub r0 List.mem_cons_self)
      obtain ⟨b0, rr, rfl⟩ : ∃ b0 rr, r0 = b0 :: rr := by
        cases r0 with
        | nil => exact absurd rfl hr0.2.2
        | cons b0 rr => exact ⟨b0, rr, rfl⟩
      walk_at "y"
      refine i_ixR hw2 (d := rowD (b0 :: rr)) atI_head ?_
      walk_at "y"
      refine i_ixL (d := .int b0) atI_head ?_
      walk_at "y"
      have hlt : lateB t (b0 :: rr) = decide (128 ≤ (b0 - t) % 256) := rfl
      refine i_bd (fun e5 => ?_) fun e5 => ?_
      · walk_at "y"
        refine i_pop0 hw2 ?_
        refine hkk2 q0.length _ _ (by rw [← hn]; simp) ⟨q0, rfl, ?_, fun r hr => hsub r (List.mem_cons_of_mem _ hr), ?_, ?_, rfl⟩
        · rw [← hd]
          unfold dropL
          rw [List.dropWhile_cons_of_pos (by rw [hlt]; exact decide_eq_true e5)]
        · refine (h2.set (q := q0) hwj (fun r hr => h.ok j hj2 r (hsub r (List.mem_cons_of_mem _ hr))) ?_).congr fun i _ => ?_
          · have := h2.sz j hj2
            rw [if_neg (Nat.lt_irrefl j), if_pos rfl, List.length_cons] at this; omega
          · unfold setF
            by_cases e6 : i = j
            · rw [if_pos e6, if_neg (by omega), if_pos e6]
            · by_cases e7 : i < j
              · simp [e6, e7]
              · simp [e6, e7]
        · exact hk2.trans fun y hy1 hy2 => mup_ne fun z => hy2 (by rw [z]; exact List.mem_of_getElem? hwj)
      · walk_at "y"
        refine out ?_
        unfold dropL
        rw [List.dropWhile_cons_of_neg (by rw [hlt, decide_eq_false e5]; decide)]

-- needs: lanesm
theorem zLcL_ws {g : Nat → D} {step : D → Mh → (Option D → Mh → Prop) → Prop} {k : List D → Mh → Prop} {M : Mh} {ws : List Addr} (hs : ∀ (i : Nat) (w : Addr), ws[i]? = some w → ∀ Q : Option D → Mh → Prop, Q (some (g i)) M → step (.ref w) M Q) (hk : k ((List.range ws.length).map g) M) : zLcL none step k (ws.map D.ref) [] M := by
  refine zLcL_ind (fun l acc M' => M' = M ∧ ∃ j : Nat, j ≤ ws.length ∧ l = (ws.drop j).map D.ref ∧ acc = (List.range j).map g) ?_ ?_ ⟨rfl, 0, Nat.zero_le _, rfl, rfl⟩
  · rintro acc M' ⟨rfl, j, hj, e1, rfl⟩
    have hj2 : j = ws.length := by
      have := congrArg List.length e1
      rw [List.length_map, List.length_drop, List.length_nil] at this; omega
    subst hj2
    exact hk
  · rintro d l acc M' q2 ⟨rfl, j, hj, e1, rfl⟩ h1 h2
    have hj2 : j < ws.length := by
      have := congrArg List.length e1
      rw [List.length_map, List.length_drop, List.length_cons] at this; omega
    have e2 : ws.drop j = ws[j] :: ws.drop (j + 1) := List.drop_eq_getElem_cons hj2
    rw [e2] at e1
    injection e1 with e3 e4
    subst e3 e4
    refine hs j _ (List.getElem?_eq_getElem hj2) _ (h2 _ _ ⟨rfl, j + 1, by omega, rfl, ?_⟩)
    rw [List.range_succ, List.map_append]; rfl
theorem l_Lanes_held {a : Addr} {ws : List Addr} {t : Int} {f : LF} {M : Mh} {Q : QZ} {E : ZX} (h : LnAt M a ws t f) (q : Q (.lst ((List.range ws.length).map fun i => .int (f i).length)) M) : z_Lanes_held [.ref a] M Q E := by
  have hme := h.me
  show zFn _ zb_Lanes_held _ _ _ _
  unfold zFn zb_Lanes_held
  walk_at "y"
  refine zLcL_ws (g := fun i => .int (f i).length) (fun i w hw Q hq => ?_) ?_
  · have hw2 := h.q i w hw
    walk_at "y"
    exact hq
  · exact i_newT fun p hp => i_rtN hp q

-- needs: lanesm Lanes_held gathered fits
theorem frzDs_ints {p : Addr} {es : List D} : ∀ ns : List Int, frzDs p es (ns.map D.int) = ns.map D.int
  | [] => by simp [frzDs]
  | n :: r => by simp [frzDs, frzD, frzDs_ints r]
theorem frzDs_rows {p : Addr} {es : List D} : ∀ rs : List (List Int), frzDs p es (rowsD rs) = rowsD rs
  | [] => by simp [rowsD, frzDs]
  | r :: rs => by
    show frzDs p es (rowD r :: rowsD rs) = rowD r :: rowsD rs
    rw [frzDs, frzDs_rows rs]
    congr 1
    unfold rowD frzD
    rw [frzDs_ints]
theorem whole_go {L : Nat} {t : Int} {f : LF} (hL : okL L) (ok : ∀ i, i < L → ∀ r ∈ f i, byteL r ∧ r.length ≤ 64 ∧ r ≠ []) (hf : fullB L f = true) (hw : wholeB t (headsF L f) = true) : GoOk (headsF L f) t := by
  have hw2 := Bool.and_eq_true_iff.mp hw
  refine ⟨by unfold headsF; rw [List.length_map, List.length_range]; exact hL, fun r hr => ?_, hw2.2⟩
  have h1 := of_decide_eq_true (List.all_eq_true.mp hw2.1 r hr)
  obtain ⟨i, hi, rfl⟩ := List.mem_map.mp hr
  have hi := List.mem_range.mp hi
  have hne : f i ≠ [] := of_decide_eq_true (List.all_eq_true.mp hf i (List.mem_range.mpr hi))
  obtain ⟨r0, q0, e⟩ : ∃ r0 q0, f i = r0 :: q0 := by
    cases e : f i with
    | nil => exact absurd e hne
    | cons a l => exact ⟨a, l, rfl⟩
  rw [e] at h1 ⊢
  have hk := ok i hi r0 (by rw [e]; exact List.mem_cons_self)
  refine ⟨hk.1, hk.2.1, ?_⟩
  have h1 : r0.headD 0 = t := h1
  show r0.head? = some t
  cases r0 with
  | nil => exact absurd rfl hk.2.2
  | cons b l => rw [← h1]; rfl
theorem l_Lanes_one {a : Addr} {ws : List Addr} {t : Int} {f : LF} {M : Mh} {Q : QZ} {E : ZX} (h : LnAt M a ws t f) (hf : fullB ws.length f = true) (q : ∀ M', LnAt M' a ws ((t + 1) % 256) (popF t f) → (∀ y, y ≠ a → y ∉ ws → M y ≠ none → M' y = M y) → Q (.lst [evL t (headsF ws.length f)]) M') : z_Lanes_one [.ref a] M Q E := by
  have hme := h.me
  have hL4 : ws.length ≤ 4 := by rcases h.L with e | e | e <;> omega
  have hL2 : 2 ≤ ws.length := by rcases h.L with e | e | e <;> omega
  have hne : ∀ i, i < ws.length → ∃ b rr q0, f i = (b :: rr) :: q0 := fun i hi => by
    have h1 : f i ≠ [] := of_decide_eq_true (List.all_eq_true.mp hf i (List.mem_range.mpr hi))
    cases e : f i with
    | nil => exact absurd e h1
    | cons r0 q0 =>
      have := (h.ok i hi r0 (by rw [e]; exact List.mem_cons_self)).2.2
      cases r0 with
      | nil => exact absurd rfl this
      | cons b rr => exact ⟨b, rr, q0, rfl⟩
  show zFn _ zb_Lanes_one _ _ _ _
  unfold zFn zb_Lanes_one
  walk_at "y"
  refine zLcL_ws (g := fun i => rowD ((f i).headD [])) (fun i w hw Q hq => ?_) ?_
  · have hi := (List.getElem?_eq_some_iff.mp hw).1
    have hw2 := h.q i w hw
    obtain ⟨b, rr, q0, e⟩ := hne i hi
    rw [e] at hw2 hq
    walk_at "y"
    refine i_ixR hw2 (d := rowD (b :: rr)) atI_head ?_
    exact hq
  rw [show (List.range ws.length).map (fun i => rowD ((f i).headD [])) = rowsD (headsF ws.length f) by unfold rowsD headsF; rw [List.map_map]; rfl]
  have hhl : (headsF ws.length f).length = ws.length := by unfold headsF; rw [List.length_map, List.length_range]
  have hhm : ∀ r ∈ headsF ws.length f, ∃ b rr, r = b :: rr := fun r hr => by
    obtain ⟨i, hi, rfl⟩ := List.mem_map.mp hr
    obtain ⟨b, rr, q0, e⟩ := hne i (List.mem_range.mp hi)
    rw [e]; exact ⟨b, rr, rfl⟩
  refine i_newF ?_
  refine i_name ?_
  dsimp only [st]
  refine i_seqP (fun r M' => M' = M ∧ r = [some (.ref a), some (.lst (rowsD (headsF ws.length f))), some (.bl (wholeB t (headsF ws.length f))), none, none, none, none]) ?_ ?_
  rotate_left
  · intro k2 hk2
    walk_at "y"
    refine zLcL_rat (g := fun fr => .bl (decide (fr.headD 0 = t))) (RAt.rows _) (fun d fr hfr hd Q hq => ?_) ?_
    · obtain ⟨b, rr, rfl⟩ := hhm fr hfr
      walk_at "y"
      refine i_ixA hd atI_0 ?_
      walk_at "y"
      exact hq
    walk_at "y"
    refine i_allE (bs := (headsF ws.length f).map fun fr => decide (fr.headD 0 = t)) (by rw [List.nil_append, List.map_map]; rfl) ?_
    rw [show ((headsF ws.length f).map fun fr => decide (fr.headD 0 = t)).all id = (headsF ws.length f).all fun fr => decide (fr.headD 0 = t) by rw [List.all_map]; rfl]
    cases ea : (headsF ws.length f).all fun fr => decide (fr.headD 0 = t) with
    | false =>
      walk_at "y"
      refine hk2 _ _ ⟨rfl, ?_⟩
      unfold wholeB
      rw [ea]; rfl
    | true =>
      walk_at "y"
      refine l_fits (RAt.rows _) (fun z => by rw [z] at hhl; simp at hhl; omega) (by omega) ?_
      walk_at "y"
      refine hk2 _ _ ⟨rfl, ?_⟩
      unfold wholeB
      rw [ea]; rfl
  rintro r M' ⟨rfl, rfl⟩
  walk_at "y"
  refine i_newT fun s hs => ?_
  have hsa : a ≠ s := ne_of_m hme hs
  have hsw : ∀ (i : Nat) (w : Addr), ws[i]? = some w → w ≠ s := fun i w hw => ne_of_m (h.q i w hw) hs
  have hsn : s ∉ ws := fun z => by
    obtain ⟨i, hi, e⟩ := List.getElem_of_mem z
    exact hsw i s (by rw [List.getElem?_eq_getElem hi, e]) rfl
  refine i_name ?_
  dsimp only [st]
  refine i_seqP (fun r M1 => ∃ x4, LnAt M1 a ws t (popF t f) ∧ M1 s = some (.lst (rowsD ((headsF ws.length f).filter fun fr => decide (fr.headD 0 = t)))) ∧ (∀ y, y ≠ a → y ∉ ws → y ≠ s → M1 y = M' y) ∧ r = [some (.ref a), some (.lst (rowsD (headsF ws.length f))), some (.bl (wholeB t (headsF ws.length f))), some (.ref s), x4, none, none]) ?_ ?_
  · rintro r M1 ⟨x4, h1, hs1, hk1, rfl⟩
    refine i_seq ?_
    refine ⟨_, _, .frz hs1, ?_⟩
    have e1 : ∀ es, frzD s es (.ref a) = .ref a := fun es => by unfold frzD; rw [if_neg hsa]
    have e2 : ∀ es, frzD s es (.ref s) = .lst es := fun es => by unfold frzD; rw [if_pos rfl]
    have e3 : ∀ es rs, frzD s es (.lst (rowsD rs)) = .lst (rowsD rs) := fun es rs => by rw [frzD, frzDs_rows]
    have e4 : ∀ es b, frzD s es (.bl b) = .bl b := fun es b => by rw [frzD]
    simp only [List.map_cons, List.map_nil, Option.map_some, Option.map_none, e1, e2, e3, e4]
    have kd : ∀ y o, y ≠ s → M1 y = some o → mdel M1 s y = some o := fun y o hy ho => (mdel_ne hy).trans ho
    have h2 : LnAt (mdel M1 s) a ws t (popF t f) := ⟨kd _ _ hsa h1.me, fun i w hw => kd _ _ (hsw i w hw) (h1.q i w hw), h1.inj, h1.L, h1.t0, h1.t1, h1.ok, h1.sz⟩
    have hk2 : ∀ y, y ≠ a → y ∉ ws → M' y ≠ none → mdel M1 s y = M' y := fun y y1 y2 y3 => by
      have ys : y ≠ s := fun z => y3 (by rw [z]; exact hs)
      rw [mdel_ne ys]; exact hk1 y y1 y2 ys
    generalize mdel M1 s = M2 at h2 hk2 ⊢
    have hme2 := h2.me
    walk_at "y"
    have h3 : LnAt (mup M2 a (.ins "Lanes" (putD "turn" (.int ((t + 1) % 256)) [("rows", .lst (ws.map D.ref)), ("turn", .int t)]))) a ws ((t + 1) % 256) (popF t f) := ⟨mup_same, fun i w hw => (mup_ne (h2.na hw)).trans (h2.q i w hw), h2.inj, h2.L, by omega, by omega, h2.ok, h2.sz⟩
    have hk3 : ∀ y, y ≠ a → y ∉ ws → M' y ≠ none → mup M2 a (.ins "Lanes" (putD "turn" (.int ((t + 1) % 256)) [("rows", .lst (ws.map D.ref)), ("turn", .int t)])) y = M' y := fun y y1 y2 y3 => by rw [mup_ne y1]; exact hk2 y y1 y2 y3
    generalize mup M2 a (.ins "Lanes" (putD "turn" (.int ((t + 1) % 256)) [("rows", .lst (ws.map D.ref)), ("turn", .int t)])) = M3 at h3 hk3 ⊢
    have q3 := q M3 h3 hk3
    cases ew : wholeB t (headsF ws.length f) with
    | true =>
      have G := whole_go h.L h.ok hf ew
      have hfil : (headsF ws.length f).filter (fun fr => decide (fr.headD 0 = t)) = headsF ws.length f := List.filter_eq_self.mpr fun fr hfr => (List.all_eq_true.mp (Bool.and_eq_true_iff.mp ew).1 fr hfr)
      rw [show evL t (headsF ws.length f) = .tup [.str "row", .int t, rowD (gathL (headsF ws.length f))] by unfold evL; rw [ew]; rfl] at q3
      rw [hfil]
      walk_at "y"
      refine l_gathered (RAt.rows _) G ?_
      walk_at "y"
      refine i_newT fun p hp => i_rtN hp ?_
      exact q3
    | false =>
      rw [show evL t (headsF ws.length f) = .tup [.str "lost", .int t, .lst []] by unfold evL; rw [ew]; rfl] at q3
      walk_at "y"
      refine i_newT fun p hp => i_rtN hp ?_
      exact q3
  · intro k2 hk2
    have hme1 : mup M' s (.lst []) a = _ := mup_get hs hme
    walk_at "y"
    refine zLoop_ind (fun l r M1 => ∃ (j : Nat) (x4 : Option D), j ≤ ws.length ∧ l = (ws.drop j).map D.ref ∧ LnAt M1 a ws t (fun i => if i < j then popF t f i else f i) ∧ M1 s = some (.lst (rowsD ((headsF j f).filter fun fr => decide (fr.headD 0 = t)))) ∧ (∀ y, y ≠ a → y ∉ ws → y ≠ s → M1 y = M' y) ∧ r = [some (.ref a), some (.lst (rowsD (headsF ws.length f))), some (.bl (wholeB t (headsF ws.length f))), some (.ref s), x4, none, none]) ?_ ?_ ⟨0, none, Nat.zero_le _, rfl, (h.keep fun y o hy => mup_get hs hy).congr fun i _ => by rw [if_neg (Nat.not_lt_zero i)], mup_same, fun y _ _ hy => mup_ne hy, rfl⟩
    · rintro r M1 ⟨j, x4, hj, e1, h1, hs1, hk1, rfl⟩
      have hj2 : j = ws.length := by
        have := congrArg List.length e1
        rw [List.length_map, List.length_drop, List.length_nil] at this; omega
      subst hj2
      exact hk2 _ _ ⟨x4, h1.congr fun i hi => by rw [if_pos hi], hs1, hk1, rfl⟩
    · rintro d l r M1 k3 ⟨j, x4, hj, e1, h1, hs1, hk1, rfl⟩ hk3
      have hj2 : j < ws.length := by
        have := congrArg List.length e1
        rw [List.length_map, List.length_drop, List.length_cons] at this; omega
      have e2 : ws.drop j = ws[j] :: ws.drop (j + 1) := List.drop_eq_getElem_cons hj2
      rw [e2] at e1
      injection e1 with e3 e4
      subst e3 e4
      have hwj : ws[j]? = some ws[j] := List.getElem?_eq_getElem hj2
      generalize ws[j] = w at hwj ⊢
      obtain ⟨b, rr, q0, ef⟩ := hne j hj2
      have hw1 : M1 w = some (.lst (rowsD ((b :: rr) :: q0))) := by
        have := h1.q j w hwj
        rw [if_neg (Nat.lt_irrefl j), ef] at this; exact this
      have hme1 := h1.me
      have hws := hsw j w hwj
      have hpop : popF t f j = if b = t then q0 else f j := by unfold popF; rw [ef]; rfl
      have hhs : headsF (j + 1) f = headsF j f ++ [b :: rr] := by
        unfold headsF
        rw [List.range_succ, List.map_append, List.map_singleton, ef]; rfl
      refine i_ck0 ?_
      walk_at "y"
      refine i_ixR hw1 (d := rowD (b :: rr)) atI_head ?_
      walk_at "y"
      refine i_ixL (d := .int b) atI_head ?_
      walk_at "y"
      refine i_bd (fun e5 => ?_) fun e5 => ?_
      · walk_at "y"
        refine i_pop0 hw1 ?_
        walk_at "y"
        refine i_app ((mup_ne (Ne.symm hws)).trans hs1) ?_ ?_
        · unfold rowsD
          rw [List.length_map, sizeLine_eq]
          have := List.length_filter_le (fun fr : List Int => decide (fr.headD 0 = t)) (headsF j f)
          unfold headsF at this
          rw [List.length_map, List.length_range] at this
          unfold headsF
          omega
        · refine hk3 _ _ ⟨j + 1, _, by omega, rfl, ?_, ?_, ?_, rfl⟩
          · have hok : ∀ r ∈ q0, byteL r ∧ r.length ≤ 64 ∧ r ≠ [] := fun r hr => h.ok j hj2 r (by rw [ef]; exact List.mem_cons_of_mem _ hr)
            have hsz : q0.length ≤ 10000 := by have := h.sz j hj2; rw [ef, List.length_cons] at this; omega
            have h4 := (h1.set (q := q0) hwj hok hsz)
            have h5 : LnAt (mup (mup M1 w (.lst (rowsD q0))) s (.lst (rowsD ((headsF j f).filter fun fr => decide (fr.headD 0 = t)) ++ [rowD (b :: rr)]))) a ws t (setF (fun i => if i < j then popF t f i else f i) j q0) := ⟨(mup_ne hsa).trans h4.me, fun i w' hw' => (mup_ne (hsw i w' hw')).trans (h4.q i w' hw'), h4.inj, h4.L, h4.t0, h4.t1, h4.ok, h4.sz⟩
            refine h5.congr fun i hi => ?_
            unfold setF
            by_cases e6 : i = j
            · rw [if_pos e6, if_pos (by omega), e6, hpop, if_pos e5]
            · by_cases e7 : i < j
              · rw [if_neg e6, if_pos (show i < j + 1 by omega)]; dsimp only; rw [if_pos e7]
              · rw [if_neg e6, if_neg (show ¬ i < j + 1 by omega)]; dsimp only; rw [if_neg e7]
          · rw [mup_same, hhs, List.filter_append, show [b :: rr].filter (fun fr => decide (fr.headD 0 = t)) = [b :: rr] by simp [e5]]
            unfold rowsD
            rw [List.map_append]; rfl
          · exact fun y y1 y2 y3 => by rw [mup_ne y3, mup_ne (fun z => y2 (by rw [z]; exact List.mem_of_getElem? hwj))]; exact hk1 y y1 y2 y3
      · walk_at "y"
        refine hk3 _ _ ⟨j + 1, _, by omega, rfl, h1.congr fun i hi => ?_, ?_, hk1, rfl⟩
        · by_cases e6 : i = j
          · rw [if_neg (by omega), if_pos (by omega), e6, hpop, if_neg e5]
          · by_cases e7 : i < j
            · rw [if_pos e7, if_pos (by omega)]
            · rw [if_neg e7, if_neg (by omega)]
        · rw [hhs, List.filter_append, show [b :: rr].filter (fun fr => decide (fr.headD 0 = t)) = [] by simp [e5], List.append_nil]
          exact hs1

-- needs: lanesm
theorem l_Lanes_due {a : Addr} {ws : List Addr} {t : Int} {f : LF} {M : Mh} {Q : QZ} {E : ZX} (h : LnAt M a ws t f) (q : Q (.int t) M) : z_Lanes_due [.ref a] M Q E := by
  have hme := h.me
  show zFn _ zb_Lanes_due _ _ _ _
  unfold zFn zb_Lanes_due
  walk_at "y"
  exact q

theorem l__law_draw {t : Addr} {n : Int} {M : Mh} {Q : QZ} {E : ZX} (ht : M t = some .town) (h0 : 0 < n) (h1 : n < 1073741824) (q : ∀ k, 0 ≤ k → k < n → Q (.int k) M) : z__law_draw [.ref t, .int n] M Q E := ⟨ht, h0, h1, q⟩

theorem l__law_pick {t : Addr} {ds : List D} {M : Mh} {Q : QZ} {E : ZX} (ht : M t = some .town) (h0 : ds ≠ []) (h1 : ds.length < 1073741824) (q : ∀ d, d ∈ ds → Q d M) : z__law_pick [.ref t, .lst ds] M Q E := by
  have lp : 0 < ds.length := List.length_pos_iff.mpr h0
  show zFn false zb__law_pick _ _ _ _
  unfold zFn zb__law_pick
  walk_at "z"
  refine l__law_draw ht (by omega) (by omega) fun k hk hk2 => ?_
  obtain ⟨j, rfl⟩ : ∃ j : Nat, k = j := ⟨k.toNat, by omega⟩
  have hj : j < ds.length := by omega
  refine i_ixL (atI_nat (List.getElem?_eq_getElem hj)) ?_
  walk_at "z"
  exact q _ (List.getElem_mem hj)

theorem l__law_byte {t : Addr} {M : Mh} {Q : QZ} {E : ZX} (ht : M t = some .town) (q : ∀ n : Nat, n < 256 → Q (.int n) M) : z__law_byte [.ref t] M Q E := by
  show zFn false zb__law_byte _ _ _ _
  unfold zFn zb__law_byte
  walk_at "z"
  refine l__law_draw ht (by decide) (by decide) fun k hk hk2 => ?_
  walk_at "z"
  refine i_bd (fun e => ?_) (fun e => ?_)
  · walk_at "z"
    refine l__law_pick ht (by simp) (by show 8 < _; decide) fun d hd => ?_
    simp only [List.mem_cons, List.not_mem_nil, or_false] at hd
    rcases hd with e | e | e | e | e | e | e | e <;> subst e
    · exact q 0 (by decide)
    · exact q 1 (by decide)
    · exact q 178 (by decide)
    · exact q 179 (by decide)
    · exact q 180 (by decide)
    · exact q 181 (by decide)
    · exact q 254 (by decide)
    · exact q 255 (by decide)
  · walk_at "z"
    refine i_bd (fun h => ?_) (fun h => ?_)
    · walk_at "z"
      refine l__law_draw ht (by decide) (by decide) fun k hk hk2 => ?_
      walk_at "z"
      have := q (180 + k.toNat) (by omega)
      rw [show ((180 + k.toNat : Nat) : Int) = 180 + k by omega] at this; exact this
    · walk_at "z"
      refine l__law_draw ht (by decide) (by decide) fun k hk hk2 => ?_
      walk_at "z"
      have := q k.toNat (by omega)
      rw [show ((k.toNat : Nat) : Int) = k by omega] at this; exact this

-- needs: rows
theorem l__law_row {t : Addr} {most : Nat} {M : Mh} {Q : QZ} {E : ZX} (ht : M t = some .town) (hm : most ≤ 1000) (q : ∀ ns : List Int, byteL ns → ns.length ≤ most → Q (.lst (ns.map D.int)) M) : z__law_row [.ref t, .int most] M Q E := by
  show zFn _ zb__law_row _ _ _ _
  unfold zFn zb__law_row
  walk_at "z"
  refine l__law_draw ht (by omega) (by omega) fun k hk hk2 => ?_
  walk_at "z"
  refine l__law_pick ht (by simp) (by show 5 < _; decide) fun d hd => ?_
  obtain ⟨m, rfl, h0, h1⟩ : ∃ m : Int, d = .int m ∧ 0 ≤ m ∧ m ≤ 1000 := by
    simp only [List.mem_cons, List.not_mem_nil, or_false] at hd
    rcases hd with e | e | e | e | e
    · exact ⟨_, e, by decide, by decide⟩
    · exact ⟨_, e, by decide, by decide⟩
    · exact ⟨_, e, by decide, by decide⟩
    · exact ⟨_, e, by decide, by decide⟩
    · exact ⟨k, e, by omega, by omega⟩
  walk_at "z"
  have hj : ∃ j : Nat, (if (most : Int) < m then (most : Int) else m) = j ∧ j ≤ most := by
    split
    · exact ⟨most, rfl, Nat.le_refl _⟩
    · exact ⟨m.toNat, by omega, by omega⟩
  obtain ⟨j, ej, hj⟩ := hj
  rw [ej]
  walk_at "z"
  refine zLcL_ind (fun l acc M' => M' = M ∧ ∃ ns : List Int, acc = ns.map D.int ∧ byteL ns ∧ ns.length + l.length ≤ most) ?_ ?_ ⟨rfl, [], rfl, (fun _ h => nomatch h), ?_⟩
  · rintro acc M' ⟨rfl, ns, rfl, h, hl⟩
    walk_at "z"
    exact q ns h (by simpa using hl)
  · rintro d l acc M' q2 ⟨rfl, ns, rfl, h, hl⟩ h1 h2
    walk_at "z"
    refine l__law_byte ht fun n hn => ?_
    refine h2 _ _ ⟨rfl, ns ++ [(n : Int)], by rw [List.map_append]; rfl, byteL_app h (fun m hm => by rw [List.mem_singleton.mp hm]; omega), by rw [List.length_append]; rw [List.length_cons] at hl; simp only [List.length_cons, List.length_nil]; omega⟩
  · rw [rangeD_len]; simp only [List.length_nil]; omega

-- needs: lanesm Lanes_held Lanes_one Lanes_drop_late gathered look_rowA badrow
inductive Runs (L : Nat) : Int → LF → List D → Int → LF → Prop
  | stop {t : Int} {f : LF} : fullB L f = false → Runs L t f [] t f
  | step {t t' : Int} {f f' : LF} {es : List D} : fullB L f = true → Runs L ((t + 1) % 256) (dropF ((t + 1) % 256) (popF t f)) es t' f' → Runs L t f (evL t (headsF L f) :: es) t' f'
def totF (L : Nat) (f : LF) : Nat := ((List.range L).map fun i => (f i).length).sum
def measL (L : Nat) (t : Int) (f : LF) : Nat := totF L f * 256 + (((((f 0).headD []).headD 0) - t) % 256).toNat
theorem popF_len {t : Int} {f : LF} {i : Nat} : (popF t f i).length ≤ (f i).length := by
  unfold popF
  split
  · rw [List.length_tail]; omega
  · exact Nat.le_refl _
theorem measL_step {L : Nat} {t : Int} {f : LF} (hL : okL L) (t0 : 0 ≤ t) (t1 : t < 256) (hb : ∀ r ∈ f 0, byteL r ∧ r ≠ []) (hf : f 0 ≠ []) : measL L ((t + 1) % 256) (dropF ((t + 1) % 256) (popF t f)) < measL L t f := by
  have hle : ∀ i, (dropF ((t + 1) % 256) (popF t f) i).length ≤ (f i).length := fun i => Nat.le_trans dropL_len popF_len
  obtain ⟨r0, q0, e0⟩ : ∃ r0 q0, f 0 = r0 :: q0 := by
    cases e : f 0 with
    | nil => exact absurd e hf
    | cons a l => exact ⟨a, l, rfl⟩
  obtain ⟨hr1, hr2⟩ := hb r0 (by rw [e0]; exact List.mem_cons_self)
  obtain ⟨b, rr, rfl⟩ : ∃ b rr, r0 = b :: rr := by
    cases r0 with
    | nil => exact absurd rfl hr2
    | cons b rr => exact ⟨b, rr, rfl⟩
  have hbb := hr1 b List.mem_cons_self
  have htot : ∀ g : LF, totF L g = (g 0).length + (totF L g - (g 0).length) ∧ (g 0).length ≤ totF L g := fun g => by
    unfold totF
    rcases hL with e | e | e <;> subst e <;> simp [List.range_succ] <;> omega
  have htl : totF L (dropF ((t + 1) % 256) (popF t f)) ≤ totF L f ∧ (totF L (dropF ((t + 1) % 256) (popF t f)) = totF L f → (dropF ((t + 1) % 256) (popF t f) 0).length = (f 0).length) := by
    have h0 := hle 0
    have h1 := hle 1
    have h2 := hle 2
    have h3 := hle 3
    unfold totF
    rcases hL with e | e | e <;> subst e <;> simp [List.range_succ] <;> omega
  have hm : ∀ x : Int, (x % 256).toNat < 256 := fun x => by omega
  unfold measL
  by_cases e1 : totF L (dropF ((t + 1) % 256) (popF t f)) = totF L f
  · have e2 := htl.2 e1
    have e3 : popF t f 0 = f 0 := by
      unfold popF
      split
      · exfalso
        rename_i e4
        have : (dropF ((t + 1) % 256) (popF t f) 0).length ≤ (popF t f 0).length := dropL_len
        have e5 : (popF t f 0).length = (f 0).length - 1 := by unfold popF; rw [if_pos e4, List.length_tail]
        rw [e2, e5, e0, List.length_cons] at this
        omega
      · rfl
    have e4 : dropF ((t + 1) % 256) (popF t f) 0 = f 0 := by
      show dropL ((t + 1) % 256) (popF t f 0) = f 0
      rw [e3]
      exact (List.dropWhile_sublist _).eq_of_length (by show (dropL ((t + 1) % 256) (f 0)).length = _; rw [← e3]; exact e2.trans (by rw [e3]))
    have e5 : b ≠ t := fun z => by
      have : popF t f 0 = (f 0).tail := by unfold popF; rw [e0]; exact if_pos z
      rw [e3, e0] at this
      have := congrArg List.length this
      simp at this
    rw [e1, e4, e0]
    show totF L f * 256 + ((b - (t + 1) % 256) % 256).toNat < totF L f * 256 + ((b - t) % 256).toNat
    omega
  · have := htl.1
    have h1 := hm (((dropF ((t + 1) % 256) (popF t f) 0).headD []).headD 0 - (t + 1) % 256)
    have h2 := hm (((f 0).headD []).headD 0 - t)
    have : totF L (dropF ((t + 1) % 256) (popF t f)) + 1 ≤ totF L f := by omega
    have := Nat.mul_le_mul_right 256 this
    omega
theorem i_eqNilA {M : Mh} {Q : QZ} {d : D} {fr : List Int} (h : RowAt M d fr) (q : Q (.bl (decide (fr = []))) M) : dEq d (.lst []) M Q := by
  have e : eqD (.lst (fr.map D.int)) (.lst []) = decide (fr = []) := by rw [eqD_nil]; cases fr <;> rfl
  rcases h with rfl | ⟨p, rfl, hp⟩
  · exact i_eq (.ints _) (.lflat rfl) (by unfold rowD; rw [e]; exact q)
  · exact i_eqR hp (.ints _) (.lflat rfl) (by rw [e]; exact q)
theorem l_Lanes_come {a : Addr} {ws : List Addr} {t : Int} {f : LF} {lane : Nat} {d : D} {fr : List Int} {M : Mh} {Q : QZ} {E : ZX} (h : LnAt M a ws t f) (hla : lane < ws.length) (hd : RowAt M d fr) (hb : byteL fr) (hl : fr.length ≤ 64) (hne : fr ≠ []) (hs : ∀ i, i < ws.length → (f i).length < 4000)
    (q : ∀ M' es t' f', Runs ws.length t (dropF t (setF f lane (f lane ++ [fr]))) es t' f' → LnAt M' a ws t' f' → (∀ y, y ≠ a → y ∉ ws → M y ≠ none → M' y = M y) → Q (.lst es) M') : z_Lanes_come [.ref a, .int (lane : Nat), d] M Q E := by
  have hme := h.me
  have hL4 : ws.length ≤ 4 := by rcases h.L with e | e | e <;> omega
  have hwl : ws[lane]? = some ws[lane] := List.getElem?_eq_getElem hla
  generalize ws[lane] = w at hwl
  have hw := h.q lane w hwl
  show zFn _ zb_Lanes_come _ _ _ _
  unfold zFn zb_Lanes_come
  walk_at "y"
  refine l_is_whole (known_int _) ?_
  rw [iw_true (by omega) (by omega)]
  walk_at "y"
  refine l_look_rowA hd hb (by omega) ?_
  walk_at "y"
  refine i_eqNilA hd ?_
  rw [decide_eq_false hne]
  walk_at "y"
  refine i_ixL (d := .ref w) (atI_nat (by rw [List.getElem?_map, hwl]; rfl)) ?_
  walk_at "y"
  refine i_listA hd ?_
  walk_at "y"
  refine i_app hw (by unfold rowsD; rw [List.length_map, sizeLine_eq]; have := hs lane hla; omega) ?_
  rw [show rowsD (f lane) ++ [.lst (fr.map D.int)] = rowsD (f lane ++ [fr]) by unfold rowsD; rw [List.map_append]; rfl]
  have h1 : LnAt (mup M w (.lst (rowsD (f lane ++ [fr])))) a ws t (setF f lane (f lane ++ [fr])) := h.set hwl (fun r hr => by
    rcases List.mem_append.mp hr with hr | hr
    · exact h.ok lane hla r hr
    · rw [List.mem_singleton.mp hr]; exact ⟨hb, hl, hne⟩) (by rw [List.length_append]; have := hs lane hla; simp only [List.length_cons, List.length_nil]; omega)
  have hk1 : LnKeep M (mup M w (.lst (rowsD (f lane ++ [fr])))) a ws := fun y _ hy => mup_ne fun z => hy (by rw [z]; exact List.mem_of_getElem? hwl)
  have hsz1 : ∀ i, i < ws.length → (setF f lane (f lane ++ [fr]) i).length ≤ 4000 := fun i hi => by
    unfold setF
    split
    · rw [List.length_append]; have := hs lane hla; simp only [List.length_cons, List.length_nil]; omega
    · have := hs i hi; omega
  generalize mup M w (.lst (rowsD (f lane ++ [fr]))) = M1 at h1 hk1 ⊢
  generalize setF f lane (f lane ++ [fr]) = f1 at h1 hsz1 q ⊢
  walk_at "y"
  refine i_newT fun s hsn => ?_
  have h2 := h1.keep (M' := mup M1 s (.lst [])) fun y o hy => mup_get hsn hy
  have hsa : a ≠ s := ne_of_m h1.me hsn
  have hsw : s ∉ ws := fun z => by
    obtain ⟨i, hi, e⟩ := List.getElem_of_mem z
    have := h1.q i s (by rw [List.getElem?_eq_getElem hi, e])
    rw [hsn] at this; cases this
  have hs2 : mup M1 s (.lst []) s = some (.lst []) := mup_same
  have hsw2 : M s ≠ none → False := fun z => z ((hk1 s (Ne.symm hsa) hsw).symm.trans hsn)
  have hk2 : ∀ y, y ≠ a → y ∉ ws → y ≠ s → mup M1 s (.lst []) y = M y := fun y y1 y2 y3 => by rw [mup_ne y3]; exact hk1 y y1 y2
  generalize mup M1 s (.lst []) = M2 at h2 hs2 hk2 ⊢
  have hme2 := h2.me
  walk_at "y"
  refine l_Lanes_drop_late h2 fun M3 h3 hk3 => ?_
  have hs3 : M3 s = some (.lst []) := (hk3 s (Ne.symm hsa) hsw).trans hs2
  have hk3' : ∀ y, y ≠ a → y ∉ ws → y ≠ s → M3 y = M y := fun y y1 y2 y3 => (hk3 y y1 y2).trans (hk2 y y1 y2 y3)
  have hms : measL ws.length t (dropF t f1) ≤ 5000000 := by
    have hle : ∀ i, i < ws.length → (dropF t f1 i).length ≤ 4000 := fun i hi => Nat.le_trans dropL_len (hsz1 i hi)
    have : totF ws.length (dropF t f1) ≤ 16000 := by
      unfold totF
      rcases h.L with e | e | e <;> rw [e] at hle ⊢ <;> simp [List.range_succ]
      · have h0 := hle 0 (by decide); have h1 := hle 1 (by decide); omega
      · have h0 := hle 0 (by decide); have h1 := hle 1 (by decide); have h2 := hle 2 (by decide); omega
      · have h0 := hle 0 (by decide); have h1 := hle 1 (by decide); have h2 := hle 2 (by decide); have h3 := hle 3 (by decide); omega
    unfold measL
    have := Nat.mul_le_mul_right 256 this
    omega
  walk_at "zs"
  have fullE : ∀ g : LF, ((List.range ws.length).map fun i => D.bl (decide (g i ≠ []))) = ((List.range ws.length).map fun i => decide (g i ≠ [])).map D.bl := fun g => by rw [List.map_map]; rfl
  refine zWhile_ind (P := fun n r M' => ∃ (es0 : List D) (t1 : Int) (g : LF), LnAt M' a ws t1 g ∧ M' s = some (.lst es0) ∧ (∀ es t' f', Runs ws.length t1 g es t' f' → Runs ws.length t (dropF t f1) (es0 ++ es) t' f') ∧ es0.length + n ≤ 5000000 ∧ n = measL ws.length t1 g ∧ (∀ y, y ≠ a → y ∉ ws → y ≠ s → M y ≠ none → M' y = M y) ∧ (∃ x4, r = [some (.ref a), some (.int (lane : Nat)), some d, some (.ref s), x4])) ?_ (measL ws.length t (dropF t f1)) ⟨[], t, dropF t f1, h3, hs3, fun es t' f' z => z, by simpa using hms, rfl, fun y y1 y2 y3 _ => hk3' y y1 y2 y3, none, rfl⟩
  rintro n r M4 k ⟨es0, t1, g, h4, hs4, hr4, hn4, rfl, hk4, x4, rfl⟩ hkk
  have hme4 := h4.me
  walk_at "y"
  refine zLcL_ws (g := fun i => .bl (decide (g i ≠ []))) (fun i w hw Q hq => ?_) ?_
  · have hw2 := h4.q i w hw
    walk_at "y"
    refine i_neG (.at hw2) (.refl _) (.mono (Pl_rows 0 _) (by decide)) (.lflat rfl) ?_
    rw [eqD_nil]
    have e9 : ∀ b, b = decide (g i ≠ []) → Q (some (.bl b)) M4 := fun b e => by rw [e]; exact hq
    refine e9 _ ?_
    cases g i <;> rfl
  · rw [fullE]
    walk_at "y"
    refine i_allE rfl ?_
    rw [show (((List.range ws.length).map fun i => decide (g i ≠ [])).all id) = fullB ws.length g by unfold fullB; rw [List.all_map]; rfl]
    cases ef : fullB ws.length g with
    | false =>
      walk_at "y"
      refine i_rtF hs4 ?_
      have kd : ∀ y o, y ≠ s → M4 y = some o → mdel M4 s y = some o := fun y o hy ho => (mdel_ne hy).trans ho
      refine q _ es0 t1 g (by simpa using hr4 [] t1 g (.stop ef)) ⟨kd _ _ hsa h4.me, fun i w hw => kd _ _ (fun z => hsw (by rw [← z]; exact List.mem_of_getElem? hw)) (h4.q i w hw), h4.inj, h4.L, h4.t0, h4.t1, h4.ok, h4.sz⟩ fun y y1 y2 y3 => ?_
      have ys : y ≠ s := fun z => hsw2 (by rw [← z]; exact y3)
      rw [mdel_ne ys]; exact hk4 y y1 y2 ys y3
    | true =>
      walk_at "y"
      refine l_Lanes_one h4 ef fun M5 h5 hk5 => ?_
      have hs5 : M5 s = some (.lst es0) := (hk5 s (Ne.symm hsa) hsw (by rw [hs4]; simp)).trans hs4
      have hme5 := h5.me
      walk_at "y"
      have h6 : LnAt (mup M5 s (.lst (es0 ++ [evL t1 (headsF ws.length g)]))) a ws ((t1 + 1) % 256) (popF t1 g) := ⟨(mup_ne hsa).trans h5.me, fun i w hw => (mup_ne (fun z => hsw (by rw [← z]; exact List.mem_of_getElem? hw))).trans (h5.q i w hw), h5.inj, h5.L, h5.t0, h5.t1, h5.ok, h5.sz⟩
      refine l_Lanes_drop_late h6 fun M7 h7 hk7 => ?_
      have h00 : 0 < ws.length := by rcases h.L with e | e | e <;> omega
      have hlt := measL_step (f := g) h4.L h4.t0 h4.t1 (fun r hr => ⟨(h4.ok 0 h00 r hr).1, (h4.ok 0 h00 r hr).2.2⟩) (of_decide_eq_true (List.all_eq_true.mp ef 0 (List.mem_range.mpr h00)))
      refine hkk _ _ _ hlt ⟨es0 ++ [evL t1 (headsF ws.length g)], (t1 + 1) % 256, dropF ((t1 + 1) % 256) (popF t1 g), h7, (hk7 s (Ne.symm hsa) hsw).trans mup_same, fun es t' f' hz => ?_, ?_, rfl, fun y y1 y2 y3 y4 => ?_, _, rfl⟩
      · rw [List.append_assoc]
        exact hr4 _ _ _ (.step ef hz)
      · rw [List.length_append]; simp only [List.length_cons, List.length_nil]; omega
      · rw [hk7 y y1 y2, mup_ne y3, hk5 y y1 y2 (by rw [hk4 y y1 y2 y3 y4]; exact y4)]
        exact hk4 y y1 y2 y3 y4

-- needs: Lanes_come dealgath
theorem Runs.idle {L : Nat} {t t' : Int} {f f' : LF} {es : List D} (h : Runs L t f es t' f') (hf : fullB L f = false) : es = [] ∧ t' = t ∧ f' = f := by
  cases h with
  | stop _ => exact ⟨rfl, rfl, rfl⟩
  | step h1 _ => rw [hf] at h1; cases h1
theorem Runs.go {L : Nat} {t t' : Int} {f f' : LF} {es : List D} (h : Runs L t f es t' f') (hf : fullB L f = true) : ∃ es1, es = evL t (headsF L f) :: es1 ∧ Runs L ((t + 1) % 256) (dropF ((t + 1) % 256) (popF t f)) es1 t' f' := by
  cases h with
  | stop h1 => rw [hf] at h1; cases h1
  | step _ h2 => exact ⟨_, rfl, h2⟩
theorem drop_keep {t : Int} {x : List Int} {q : List (List Int)} (h : (x.headD 0 - t) % 256 < 128) : dropL t (x :: q) = x :: q := by
  unfold dropL
  rw [List.dropWhile_cons_of_neg (by unfold lateB; rw [decide_eq_false (by omega)]; decide)]
theorem full2 {f : LF} : fullB 2 f = (decide (f 0 ≠ []) && (decide (f 1 ≠ []) && true)) := rfl
theorem heads2 {f : LF} : headsF 2 f = [(f 0).headD [], (f 1).headD []] := rfl
def rowEv (t : Int) (row : List Int) : D := .tup [.str "row", .int t, rowD row]
def lostEv (t : Int) : D := .tup [.str "lost", .int t, .lst []]
theorem ev_deal {row : List Int} {L : Nat} {t : Int} (hL : okL L) (hb : byteL row) (hl : row.length ≤ 63 * L) (h0 : 0 ≤ t) (h1 : t ≤ 255) : evL t (dealL row L t) = rowEv t row := by
  have G := dealL_go hL hb hl h0 h1
  have : wholeB t (dealL row L t) = true := by
    unfold wholeB
    rw [G.f, Bool.and_true, List.all_eq_true]
    intro r hr
    obtain ⟨i, _, rfl⟩ := List.mem_map.mp hr
    exact decide_eq_true rfl
  unfold evL rowEv
  rw [this, gath_deal hL]; rfl
theorem ev_lost {t : Int} {hs : List (List Int)} {r : List Int} (hr : r ∈ hs) (h : r.headD 0 ≠ t) : evL t hs = lostEv t := by
  have : wholeB t hs = false := by
    unfold wholeB
    rw [show hs.all (fun h => decide (h.headD 0 = t)) = false by
      rw [List.all_eq_false]
      exact ⟨r, hr, by rw [decide_eq_false h]; decide⟩]
    rfl
  unfold evL lostEv
  rw [this]; rfl
abbrev fA (row : List Int) (t : Int) : List Int := t :: laneL row 2 0
abbrev fB (row : List Int) (t : Int) : List Int := t :: laneL row 2 1
theorem r2_idle {t t' : Int} {f f' : LF} {es : List D} (h : Runs 2 t f es t' f') (he : f 0 = [] ∨ f 1 = []) : es = [] ∧ t' = t ∧ f' = f := h.idle (by
  rw [full2]
  rcases he with e | e <;> rw [e]
  · rfl
  · cases f 0 <;> rfl)
theorem pop_eq {t : Int} {f : LF} {i : Nat} {x : List Int} {q : List (List Int)} (e : f i = x :: q) (h : x.headD 0 = t) : popF t f i = q := by unfold popF; rw [e]; exact if_pos h
theorem pop_ne {t : Int} {f : LF} {i : Nat} {x : List Int} {q : List (List Int)} (e : f i = x :: q) (h : x.headD 0 ≠ t) : popF t f i = x :: q := by unfold popF; rw [e]; exact if_neg h
theorem r2_row {row : List Int} {t t' : Int} {f f' : LF} {es : List D} (h : Runs 2 t f es t' f') (hb : byteL row) (hl : row.length ≤ 126) (h0 : 0 ≤ t) (h1 : t ≤ 255) (e0 : f 0 = [fA row t]) (e1 : f 1 = [fB row t]) : es = [rowEv t row] ∧ t' = (t + 1) % 256 ∧ f' 0 = [] ∧ f' 1 = [] := by
  obtain ⟨es1, rfl, h2⟩ := h.go (by rw [full2, e0, e1]; rfl)
  have p0 : popF t f 0 = [] := pop_eq e0 rfl
  have p1 : popF t f 1 = [] := pop_eq e1 rfl
  have d0 : dropF ((t + 1) % 256) (popF t f) 0 = [] := by unfold dropF; rw [p0]; rfl
  have d1 : dropF ((t + 1) % 256) (popF t f) 1 = [] := by unfold dropF; rw [p1]; rfl
  obtain ⟨rfl, rfl, rfl⟩ := r2_idle h2 (.inl d0)
  refine ⟨?_, rfl, d0, d1⟩
  rw [heads2, e0, e1]
  show [evL t (dealL row 2 t)] = _
  rw [ev_deal (.inl rfl) hb (by omega) h0 h1]
theorem r2_lost0 {x y : List Int} {t t' : Int} {f f' : LF} {es : List D} (h : Runs 2 t f es t' f') (h0 : 0 ≤ t) (h1 : t ≤ 255) (e0 : f 0 = [x]) (e1 : f 1 = [y]) (hx : x.headD 0 = (t + 1) % 256) (hy : y.headD 0 = t) : es = [lostEv t] ∧ t' = (t + 1) % 256 ∧ f' 0 = [x] ∧ f' 1 = [] := by
  obtain ⟨es1, rfl, h2⟩ := h.go (by rw [full2, e0, e1]; rfl)
  have p0 : popF t f 0 = [x] := pop_ne e0 (by omega)
  have p1 : popF t f 1 = [] := pop_eq e1 hy
  have d0 : dropF ((t + 1) % 256) (popF t f) 0 = [x] := by unfold dropF; rw [p0]; exact drop_keep (by omega)
  have d1 : dropF ((t + 1) % 256) (popF t f) 1 = [] := by unfold dropF; rw [p1]; rfl
  obtain ⟨rfl, rfl, rfl⟩ := r2_idle h2 (.inr d1)
  refine ⟨?_, rfl, d0, d1⟩
  rw [heads2, e0, e1]
  show [evL t [x, y]] = _
  rw [ev_lost (r := x) List.mem_cons_self (by omega)]
theorem r2_lost1 {row x : List Int} {t t' : Int} {f f' : LF} {es : List D} (h : Runs 2 t f es t' f') (hb : byteL row) (hl : row.length ≤ 126) (h0 : 0 ≤ t) (h1 : t ≤ 255) (e0 : f 0 = [x, fA row ((t + 1) % 256)]) (e1 : f 1 = [fB row ((t + 1) % 256)]) (hx : x.headD 0 = t) : es = [lostEv t, rowEv ((t + 1) % 256) row] ∧ t' = ((t + 1) % 256 + 1) % 256 ∧ f' 0 = [] ∧ f' 1 = [] := by
  obtain ⟨es1, rfl, h2⟩ := h.go (by rw [full2, e0, e1]; rfl)
  have p0 : popF t f 0 = [fA row ((t + 1) % 256)] := pop_eq e0 hx
  have p1 : popF t f 1 = [fB row ((t + 1) % 256)] := pop_ne e1 (by show (t + 1) % 256 ≠ t; omega)
  have d0 : dropF ((t + 1) % 256) (popF t f) 0 = [fA row ((t + 1) % 256)] := by unfold dropF; rw [p0]; exact drop_keep (by show ((t + 1) % 256 - (t + 1) % 256) % 256 < 128; omega)
  have d1 : dropF ((t + 1) % 256) (popF t f) 1 = [fB row ((t + 1) % 256)] := by unfold dropF; rw [p1]; exact drop_keep (by show ((t + 1) % 256 - (t + 1) % 256) % 256 < 128; omega)
  obtain ⟨rfl, rfl, z⟩ := r2_row h2 hb hl (by omega) (by omega) d0 d1
  refine ⟨?_, rfl, z⟩
  rw [heads2, e0, e1]
  show evL t [x, fB row ((t + 1) % 256)] :: _ = _
  rw [ev_lost (r := fB row ((t + 1) % 256)) (by simp) (by show (t + 1) % 256 ≠ t; omega)]

-- needs: Lanes_come runs2
/-- the law's own lanes -/
def fD (L : Nat) (f : LF) : List D := (List.range L).map fun i => .lst (rowsD (f i))
structure OwAt (M : Mh) (o w : Addr) (L : Nat) (t : Int) (f : LF) : Prop where
  me : M o = some (.lst [.ref w, .int t])
  q : M w = some (.lst (fD L f))
  ne : o ≠ w
  hL : okL L
  t0 : 0 ≤ t
  t1 : t < 256
  ok : ∀ i, i < L → ∀ r ∈ f i, byteL r ∧ r.length ≤ 64 ∧ r ≠ []
  sz : ∀ i, i < L → (f i).length ≤ 10000
theorem fD_len {L : Nat} {f : LF} : (fD L f).length = L := by unfold fD; rw [List.length_map, List.length_range]
theorem fD_get {L i : Nat} {f : LF} (h : i < L) : (fD L f)[i]? = some (.lst (rowsD (f i))) := by
  unfold fD
  rw [List.getElem?_map, List.getElem?_range h]; rfl
theorem fD_set {L l : Nat} {f : LF} {q : List (List Int)} : (fD L f).set l (.lst (rowsD q)) = fD L (setF f l q) := by
  apply List.ext_getElem?
  intro i
  unfold fD setF
  rw [List.getElem?_set, List.length_map, List.length_range, List.getElem?_map, List.getElem?_map]
  by_cases h : l = i
  · subst h
    rw [if_pos rfl]
    by_cases h2 : l < L
    · rw [if_pos h2, List.getElem?_range h2, Option.map_some, if_pos rfl]
    · rw [if_neg h2, List.getElem?_eq_none (by rw [List.length_range]; omega)]; rfl
  · rw [if_neg h]
    by_cases h2 : i < L
    · rw [List.getElem?_range h2, Option.map_some, Option.map_some, if_neg (Ne.symm h)]
    · rw [List.getElem?_eq_none (by rw [List.length_range]; omega)]; rfl
theorem fD_congr {L : Nat} {f g : LF} (h : ∀ i, i < L → f i = g i) : fD L f = fD L g := by
  unfold fD
  apply List.map_congr_left
  intro i hi
  rw [h i (List.mem_range.mp hi)]
theorem OwAt.congr {M : Mh} {o w : Addr} {L : Nat} {t : Int} {f g : LF} (h : OwAt M o w L t f) (e : ∀ i, i < L → f i = g i) : OwAt M o w L t g :=
  ⟨h.me, by rw [← fD_congr e]; exact h.q, h.ne, h.hL, h.t0, h.t1, fun i hi => by rw [← e i hi]; exact h.ok i hi, fun i hi => by rw [← e i hi]; exact h.sz i hi⟩
theorem OwAt.set {M : Mh} {o w : Addr} {L : Nat} {t : Int} {f : LF} (h : OwAt M o w L t f) {i : Nat} {q : List (List Int)} (hq : ∀ r ∈ q, byteL r ∧ r.length ≤ 64 ∧ r ≠ []) (hs : q.length ≤ 10000) : OwAt (mup M w (.lst (fD L (setF f i q)))) o w L t (setF f i q) := by
  refine ⟨(mup_ne h.ne).trans h.me, mup_same, h.ne, h.hL, h.t0, h.t1, fun j hj => ?_, fun j hj => ?_⟩
  · unfold setF
    split
    · exact hq
    · exact h.ok j hj
  · unfold setF
    split
    · exact hs
    · exact h.sz j hj
theorem ixN_of {n j : Nat} (h : j < n) : ixN n (j : Int) = some j := by
  unfold ixN
  rw [if_pos (by omega), if_pos (by omega), Int.toNat_natCast]
theorem zLcL_mapC {α : Type} {f g : α → D} {step : D → Mh → (Option D → Mh → Prop) → Prop} {k : List D → Mh → Prop} {M : Mh} {c : Addr} {ds : List D} (hc : M c = some (.lst ds)) : ∀ {as : List α} {acc : List D}, (∀ a, a ∈ as → ∀ Q : Option D → Mh → Prop, Q (some (g a)) M → step (f a) M Q) → k (acc ++ as.map g) M → zLcL (some (c, ds)) step k (as.map f) acc M
  | [], acc, _, h => by
    show zck (some (c, ds)) M (k acc M)
    exact ⟨hc, by simpa using h⟩
  | a :: as, acc, hs, h => by
    show zck (some (c, ds)) M _
    refine ⟨hc, hs a List.mem_cons_self _ ?_⟩
    show zLcL (some (c, ds)) step k _ (acc ++ [g a]) M
    exact zLcL_mapC hc (fun b hb => hs b (List.mem_cons_of_mem _ hb)) (by simpa using h)

-- needs: own33
theorem l__law_late {o w : Addr} {L : Nat} {t : Int} {f : LF} {M : Mh} {Q : QZ} {E : ZX} (h : OwAt M o w L t f) (q : ∀ M', OwAt M' o w L t (dropF t f) → (∀ y, y ≠ w → M' y = M y) → Q .non M') : z__law_late [.ref o] M Q E := by
  have hme := h.me
  have hw := h.q
  have hL4 : L ≤ 4 := by rcases h.hL with e | e | e <;> omega
  show zFn _ zb__law_late _ _ _ _
  unfold zFn zb__law_late
  walk_at "y"
  rw [List.length_range, Int.toNat_natCast]
  refine ⟨by omega, by omega, ?_⟩
  refine zLoop_range (P := fun j r M' => OwAt M' o w L t (fun i => if i < j then dropL t (f i) else f i) ∧ (∀ y, y ≠ w → M' y = M y) ∧ ∃ x, r = [some (.ref o), x]) ?_ ?_ ⟨h.congr fun i _ => by rw [if_neg (Nat.not_lt_zero i)], fun _ _ => rfl, none, rfl⟩
  · rintro r M' ⟨h1, hk, x, rfl⟩
    walk_at "y"
    exact q M' (h1.congr fun i hi => by rw [if_pos hi]; rfl) hk
  · rintro j r M' k hj ⟨h1, hk, x, rfl⟩ hkk
    rw [Int.zero_add]
    refine i_step (i_name ?_)
    dsimp only [st]
    refine zWhile_ind (P := fun n r M2 => ∃ q', q'.length = n ∧ dropL t q' = dropL t (f j) ∧ (∀ r ∈ q', r ∈ f j) ∧ OwAt M2 o w L t (fun i => if i < j then dropL t (f i) else if i = j then q' else f i) ∧ (∀ y, y ≠ w → M2 y = M y) ∧ r = [some (.ref o), some (.int (j : Nat))]) ?_ (f j).length ⟨f j, rfl, rfl, fun _ h => h, h1.congr fun i _ => by
      by_cases e5 : i < j
      · rw [if_pos e5, if_pos e5]
      · rw [if_neg e5, if_neg e5]
        by_cases e6 : i = j
        · rw [if_pos e6, e6]
        · rw [if_neg e6], hk, rfl⟩
    rintro n r M2 k2 ⟨q', hn, hd, hsub, h2, hk2, rfl⟩ hkk2
    have hme2 := h2.me
    have hw2 := h2.q
    have hwj : atI (fD L (fun i => if i < j then dropL t (f i) else if i = j then q' else f i)) (j : Int) = some (.lst (rowsD q')) := atI_nat (by rw [fD_get hj, if_neg (Nat.lt_irrefl j), if_pos rfl])
    walk_at "y"
    refine i_ixR hw2 hwj ?_
    walk_at "y"
    refine i_neG (.refl _) (.refl _) (.mono (Pl_rows 0 q') (by decide)) (.lflat rfl) ?_
    rw [eqD_nil]
    have out : dropL t q' = q' → k [some (.ref o), some (.int (j : Nat))] M2 := fun e5 => hkk _ _ ⟨h2.congr fun i hi => by
      by_cases e6 : i < j
      · rw [if_pos e6, if_pos (by omega)]
      · rw [if_neg e6]
        by_cases e7 : i = j
        · rw [if_pos e7, if_pos (by omega), e7, ← hd, e5]
        · rw [if_neg e7, if_neg (by omega)], hk2, _, rfl⟩
    cases q' with
    | nil =>
      walk_at "y"
      exact out rfl
    | cons r0 q0 =>
      have hr0 := h.ok j hj r0 (hsub r0 List.mem_cons_self)
      obtain ⟨b0, rr, rfl⟩ : ∃ b0 rr, r0 = b0 :: rr := by
        cases r0 with
        | nil => exact absurd rfl hr0.2.2
        | cons b0 rr => exact ⟨b0, rr, rfl⟩
      walk_at "y"
      refine i_ixR hw2 hwj ?_
      walk_at "y"
      refine i_ixL (d := rowD (b0 :: rr)) atI_head ?_
      walk_at "y"
      refine i_ixL (d := .int b0) atI_head ?_
      walk_at "y"
      have hlt : lateB t (b0 :: rr) = decide (128 ≤ (b0 - t) % 256) := rfl
      refine i_bd (fun e5 => ?_) fun e5 => ?_
      · walk_at "y"
        refine i_ixR hw2 hwj ?_
        walk_at "y"
        rw [show cutD (rowsD ((b0 :: rr) :: q0)) (some 1) none = rowsD q0 from cutD_from (rowsD ((b0 :: rr) :: q0)) 1]
        refine i_set (j := j) hw2 (ixN_of (by rw [fD_len]; exact hj)) ?_
        rw [fD_set]
        refine hkk2 q0.length _ _ (by rw [← hn]; simp) ⟨q0, rfl, ?_, fun r hr => hsub r (List.mem_cons_of_mem _ hr), ?_, fun y hy => (mup_ne hy).trans (hk2 y hy), rfl⟩
        · rw [← hd]
          unfold dropL
          rw [List.dropWhile_cons_of_pos (by rw [hlt]; exact decide_eq_true (by omega))]
        · refine (h2.set (i := j) (q := q0) (fun r hr => h.ok j hj r (hsub r (List.mem_cons_of_mem _ hr))) ?_).congr fun i _ => ?_
          · have := h2.sz j hj
            rw [if_neg (Nat.lt_irrefl j), if_pos rfl, List.length_cons] at this; omega
          · unfold setF
            by_cases e6 : i = j
            · rw [if_pos e6, if_neg (by omega), if_pos e6]
            · by_cases e7 : i < j
              · simp [e6, e7]
              · simp [e6, e7]
      · walk_at "y"
        refine out ?_
        unfold dropL
        rw [List.dropWhile_cons_of_neg (by rw [hlt, decide_eq_false (by omega)]; decide)]

-- needs: gathered fits
def roundS (hs : List (List Int)) (k : Nat) : List Int := (hs.filter (fun h => decide (k + 1 < h.length))).map (fun h => h.getD (k + 1) 0)
def rowS (hs : List (List Int)) (n : Nat) : List Int := ((List.range n).map (roundS hs)).flatten
def gAt (hs : List (List Int)) (k : Nat) : Int := (hs.getD (k % hs.length) []).getD (1 + k / hs.length) 0
theorem rowS_succ (hs : List (List Int)) (n : Nat) : rowS hs (n + 1) = rowS hs n ++ roundS hs n := by
  unfold rowS
  rw [List.range_succ, List.map_append, List.flatten_append]; simp
theorem round2 {a b : List Int} (hf : fitsB [a, b] = true) (ha : a ≠ []) (hb : b ≠ []) (n : Nat) : (List.range (min (n * 2) (totL [a, b]).toNat)).map (gAt [a, b]) ++ roundS [a, b] n = (List.range (min ((n + 1) * 2) (totL [a, b]).toNat)).map (gAt [a, b]) := by
  have h1 : b.length ≤ a.length ∧ a.length < b.length + 2 := by
    simp [fitsB, lensI] at hf; omega
  have h2 : 0 < a.length := List.length_pos_iff.mpr ha
  have h3 : 0 < b.length := List.length_pos_iff.mpr hb
  have ht : (totL [a, b]).toNat = a.length + b.length - 2 := by
    simp [totL]; omega
  rw [ht]
  have e0 : gAt [a, b] (n * 2) = a.getD (n + 1) 0 := by
    unfold gAt
    rw [show (n * 2) % [a, b].length = 0 by show n * 2 % 2 = 0; omega, show (n * 2) / [a, b].length = n by show n * 2 / 2 = n; omega, Nat.add_comm]; rfl
  have e1 : gAt [a, b] (n * 2 + 1) = b.getD (n + 1) 0 := by
    unfold gAt
    rw [show (n * 2 + 1) % [a, b].length = 1 by show (n * 2 + 1) % 2 = 1; omega, show (n * 2 + 1) / [a, b].length = n by show (n * 2 + 1) / 2 = n; omega, Nat.add_comm]; rfl
  unfold roundS
  by_cases c1 : n + 1 < b.length
  · rw [show min (n * 2) (a.length + b.length - 2) = n * 2 by omega, show min ((n + 1) * 2) (a.length + b.length - 2) = n * 2 + 1 + 1 by omega, List.range_succ, List.range_succ, List.map_append, List.map_append, List.append_assoc]
    simp only [List.map_cons, List.map_nil, e0, e1]
    rw [List.filter_cons_of_pos (by exact decide_eq_true (by omega)), List.filter_cons_of_pos (by exact decide_eq_true (by omega))]; rfl
  · by_cases c2 : n + 1 < a.length
    · rw [show min (n * 2) (a.length + b.length - 2) = n * 2 by omega, show min ((n + 1) * 2) (a.length + b.length - 2) = n * 2 + 1 by omega, List.range_succ, List.map_append]
      simp only [List.map_cons, List.map_nil, e0]
      rw [List.filter_cons_of_pos (by exact decide_eq_true (by omega)), List.filter_cons_of_neg (by rw [decide_eq_false c1]; decide)]; rfl
    · rw [show min (n * 2) (a.length + b.length - 2) = min ((n + 1) * 2) (a.length + b.length - 2) by omega, List.filter_cons_of_neg (by rw [decide_eq_false c2]; decide), List.filter_cons_of_neg (by rw [decide_eq_false c1]; decide)]; simp
theorem round3 {a b c : List Int} (hf : fitsB [a, b, c] = true) (ha : a ≠ []) (hb : b ≠ []) (hc : c ≠ []) (n : Nat) : (List.range (min (n * 3) (totL [a, b, c]).toNat)).map (gAt [a, b, c]) ++ roundS [a, b, c] n = (List.range (min ((n + 1) * 3) (totL [a, b, c]).toNat)).map (gAt [a, b, c]) := by
  have h1 : b.length ≤ a.length ∧ c.length ≤ b.length ∧ a.length < c.length + 2 := by
    simp [fitsB, lensI] at hf; omega
  have h2 : 0 < a.length := List.length_pos_iff.mpr ha
  have h3 : 0 < b.length := List.length_pos_iff.mpr hb
  have h4 : 0 < c.length := List.length_pos_iff.mpr hc
  have ht : (totL [a, b, c]).toNat = a.length + b.length + c.length - 3 := by
    simp [totL]; omega
  rw [ht]
  have e0 : gAt [a, b, c] (n * 3) = a.getD (n + 1) 0 := by
    unfold gAt
    rw [show (n * 3) % [a, b, c].length = 0 by show n * 3 % 3 = 0; omega, show (n * 3) / [a, b, c].length = n by show n * 3 / 3 = n; omega, Nat.add_comm]; rfl
  have e1 : gAt [a, b, c] (n * 3 + 1) = b.getD (n + 1) 0 := by
    unfold gAt
    rw [show (n * 3 + 1) % [a, b, c].length = 1 by show (n * 3 + 1) % 3 = 1; omega, show (n * 3 + 1) / [a, b, c].length = n by show (n * 3 + 1) / 3 = n; omega, Nat.add_comm]; rfl
  have e2 : gAt [a, b, c] (n * 3 + 1 + 1) = c.getD (n + 1) 0 := by
    unfold gAt
    rw [show (n * 3 + 1 + 1) % [a, b, c].length = 2 by show (n * 3 + 1 + 1) % 3 = 2; omega, show (n * 3 + 1 + 1) / [a, b, c].length = n by show (n * 3 + 1 + 1) / 3 = n; omega, Nat.add_comm]; rfl
  unfold roundS
  by_cases c1 : n + 1 < c.length
  · rw [show min (n * 3) (a.length + b.length + c.length - 3) = n * 3 by omega, show min ((n + 1) * 3) (a.length + b.length + c.length - 3) = n * 3 + 1 + 1 + 1 by omega, List.range_succ, List.range_succ, List.range_succ, List.map_append, List.map_append, List.map_append, List.append_assoc, List.append_assoc]
    simp only [List.map_cons, List.map_nil, e0, e1, e2]
    rw [List.filter_cons_of_pos (by exact decide_eq_true (by omega)), List.filter_cons_of_pos (by exact decide_eq_true (by omega)), List.filter_cons_of_pos (by exact decide_eq_true (by omega))]; rfl
  · by_cases c2 : n + 1 < b.length
    · rw [show min (n * 3) (a.length + b.length + c.length - 3) = n * 3 by omega, show min ((n + 1) * 3) (a.length + b.length + c.length - 3) = n * 3 + 1 + 1 by omega, List.range_succ, List.range_succ, List.map_append, List.map_append, List.append_assoc]
      simp only [List.map_cons, List.map_nil, e0, e1]
      rw [List.filter_cons_of_pos (by exact decide_eq_true (by omega)), List.filter_cons_of_pos (by exact decide_eq_true (by omega)), List.filter_cons_of_neg (by rw [decide_eq_false c1]; decide)]; rfl
    · by_cases c3 : n + 1 < a.length
      · rw [show min (n * 3) (a.length + b.length + c.length - 3) = n * 3 by omega, show min ((n + 1) * 3) (a.length + b.length + c.length - 3) = n * 3 + 1 by omega, List.range_succ, List.map_append]
        simp only [List.map_cons, List.map_nil, e0]
        rw [List.filter_cons_of_pos (by exact decide_eq_true (by omega)), List.filter_cons_of_neg (by rw [decide_eq_false c2]; decide), List.filter_cons_of_neg (by rw [decide_eq_false c1]; decide)]; rfl
      · rw [show min (n * 3) (a.length + b.length + c.length - 3) = min ((n + 1) * 3) (a.length + b.length + c.length - 3) by omega, List.filter_cons_of_neg (by rw [decide_eq_false c3]; decide), List.filter_cons_of_neg (by rw [decide_eq_false c2]; decide), List.filter_cons_of_neg (by rw [decide_eq_false c1]; decide)]; simp
theorem rowS_gath {hs : List (List Int)} (hl : hs.length = 2 ∨ hs.length = 3) (hf : fitsB hs = true) (hb : ∀ h ∈ hs, h ≠ [] ∧ h.length ≤ 64) : rowS hs 64 = gathL hs := by
  have key : ∀ n, rowS hs n = (List.range (min (n * hs.length) (totL hs).toNat)).map (gAt hs) := by
    intro n
    induction n with
    | zero => rw [Nat.zero_mul, Nat.zero_min]; rfl
    | succ n ih =>
      rw [rowS_succ, ih]
      match hs, hl, hf, hb with
      | [a, b], _, hf, hb => exact round2 hf (hb a (by simp)).1 (hb b (by simp)).1 n
      | [a, b, c], _, hf, hb => exact round3 hf (hb a (by simp)).1 (hb b (by simp)).1 (hb c (by simp)).1 n
      | [], hl, _, _ => simp at hl
      | [_], hl, _, _ => simp at hl
      | _ :: _ :: _ :: _ :: _, hl, _, _ => simp at hl
  rw [key]
  have : min (64 * hs.length) (totL hs).toNat = (totL hs).toNat := by
    match hs, hl, hb with
    | [a, b], _, hb =>
      have h1 := hb a (by simp); have h2 := hb b (by simp)
      simp [totL]; omega
    | [a, b, c], _, hb =>
      have h1 := hb a (by simp); have h2 := hb b (by simp); have h3 := hb c (by simp)
      simp [totL]; omega
    | [], hl, _ => simp at hl
    | [_], hl, _ => simp at hl
    | _ :: _ :: _ :: _ :: _, hl, _ => simp at hl
  rw [this]
  rfl
theorem whole33 {hs : List (List Int)} {t : Int} {mi : Int} (hl : hs.length = 2 ∨ hs.length = 3) (hm : mi ∈ lensI hs) (hmi : ∀ y ∈ lensI hs, mi ≤ y) : ((decide (((hs.filter fun r : List Int => decide (r.headD 0 = t)).length : Int) = (hs.length : Int)) && decide (mi + 1 ≥ (lensI hs).headD 0)) && (List.range (hs.length - 1)).all fun k => decide ((lensI hs).getD (k + 1) 0 ≤ (lensI hs).getD k 0)) = (hs.all (fun h => decide (h.headD 0 = t)) && fitsB hs) := by
  have e1 : decide (((hs.filter fun r : List Int => decide (r.headD 0 = t)).length : Int) = (hs.length : Int)) = hs.all (fun h => decide (h.headD 0 = t)) := by
    rw [Bool.eq_iff_iff, decide_eq_true_iff, List.all_eq_true, ← List.length_filter_eq_length_iff]
    exact ⟨fun h => by exact_mod_cast h, fun h => by rw [h]⟩
  rw [e1, Bool.and_assoc]
  congr 1
  match hs, hl, hm, hmi with
  | [a, b], _, hm, hmi =>
    have h1 := hmi (a.length : Int) (by simp [lensI])
    have h2 := hmi (b.length : Int) (by simp [lensI])
    simp only [lensI, List.map_cons, List.map_nil, List.mem_cons, List.not_mem_nil, or_false] at hm
    rw [Bool.eq_iff_iff]
    simp [fitsB, lensI, List.range_succ]
    omega
  | [a, b, c], _, hm, hmi =>
    have h1 := hmi (a.length : Int) (by simp [lensI])
    have h2 := hmi (b.length : Int) (by simp [lensI])
    have h3 := hmi (c.length : Int) (by simp [lensI])
    simp only [lensI, List.map_cons, List.map_nil, List.mem_cons, List.not_mem_nil, or_false] at hm
    rw [Bool.eq_iff_iff]
    simp [fitsB, lensI, List.range_succ]
    omega
  | [], hl, _, _ => simp at hl
  | [_], hl, _, _ => simp at hl
  | _ :: _ :: _ :: _ :: _, hl, _, _ => simp at hl

/-- the greatest of a list -/
def maxL : List Int → Int
  | [] => 0
  | a :: r => r.foldl max a
def minL : List Int → Int
  | [] => 0
  | a :: r => r.foldl min a
theorem foldl_max_spec : ∀ (r : List Int) (a : Int), (r.foldl max a = a ∨ r.foldl max a ∈ r) ∧ a ≤ r.foldl max a ∧ ∀ y ∈ r, y ≤ r.foldl max a
  | [], a => ⟨.inl rfl, Int.le_refl _, fun _ h => nomatch h⟩
  | b :: r, a => by
    obtain ⟨h1, h2, h3⟩ := foldl_max_spec r (max a b)
    show ((r.foldl max (max a b)) = a ∨ _) ∧ a ≤ r.foldl max (max a b) ∧ ∀ y ∈ b :: r, y ≤ r.foldl max (max a b)
    refine ⟨?_, by omega, fun y hy => ?_⟩
    · rcases h1 with e | e
      · rw [List.foldl_cons, e]
        by_cases hb : b ≤ a
        · exact .inl (by omega)
        · exact .inr (by rw [show max a b = b by omega]; exact List.mem_cons_self)
      · exact .inr (List.mem_cons_of_mem _ e)
    · rcases List.mem_cons.mp hy with e | e
      · subst e; omega
      · exact h3 y e
theorem foldl_min_spec : ∀ (r : List Int) (a : Int), (r.foldl min a = a ∨ r.foldl min a ∈ r) ∧ r.foldl min a ≤ a ∧ ∀ y ∈ r, r.foldl min a ≤ y
  | [], a => ⟨.inl rfl, Int.le_refl _, fun _ h => nomatch h⟩
  | b :: r, a => by
    obtain ⟨h1, h2, h3⟩ := foldl_min_spec r (min a b)
    show ((r.foldl min (min a b)) = a ∨ _) ∧ r.foldl min (min a b) ≤ a ∧ ∀ y ∈ b :: r, r.foldl min (min a b) ≤ y
    refine ⟨?_, by omega, fun y hy => ?_⟩
    · rcases h1 with e | e
      · rw [List.foldl_cons, e]
        by_cases hb : a ≤ b
        · exact .inl (by omega)
        · exact .inr (by rw [show min a b = b by omega]; exact List.mem_cons_self)
      · exact .inr (List.mem_cons_of_mem _ e)
    · rcases List.mem_cons.mp hy with e | e
      · subst e; omega
      · exact h3 y e
theorem maxL_spec {ns : List Int} (h : ns ≠ []) : maxL ns ∈ ns ∧ ∀ y ∈ ns, y ≤ maxL ns := by
  cases ns with
  | nil => exact absurd rfl h
  | cons a r =>
    obtain ⟨h1, h2, h3⟩ := foldl_max_spec r a
    refine ⟨?_, fun y hy => ?_⟩
    · rcases h1 with e | e
      · show r.foldl max a ∈ _; rw [e]; exact List.mem_cons_self
      · exact List.mem_cons_of_mem _ e
    · rcases List.mem_cons.mp hy with e | e
      · subst e; exact h2
      · exact h3 y e
theorem minL_spec {ns : List Int} (h : ns ≠ []) : minL ns ∈ ns ∧ ∀ y ∈ ns, minL ns ≤ y := by
  cases ns with
  | nil => exact absurd rfl h
  | cons a r =>
    obtain ⟨h1, h2, h3⟩ := foldl_min_spec r a
    refine ⟨?_, fun y hy => ?_⟩
    · rcases h1 with e | e
      · show r.foldl min a ∈ _; rw [e]; exact List.mem_cons_self
      · exact List.mem_cons_of_mem _ e
    · rcases List.mem_cons.mp hy with e | e
      · subst e; exact h2
      · exact h3 y e
theorem i_maxL {ns : List Int} {M : Mh} {Q : QZ} (h : ns ≠ []) (q : Q (.int (maxL ns)) M) : dMaxL [.lst (ns.map D.int)] M Q := by
  obtain ⟨h1, h2⟩ := maxL_spec h
  refine ⟨ns, rfl, List.length_pos_iff.mpr h, fun m hm hy => ?_⟩
  have := h2 m hm
  have := hy _ h1
  rw [show m = maxL ns by omega]; exact q
theorem i_minL {ns : List Int} {M : Mh} {Q : QZ} (h : ns ≠ []) (q : Q (.int (minL ns)) M) : dMinL [.lst (ns.map D.int)] M Q := by
  obtain ⟨h1, h2⟩ := minL_spec h
  refine ⟨ns, rfl, List.length_pos_iff.mpr h, fun m hm hy => ?_⟩
  have := h2 m hm
  have := hy _ h1
  rw [show m = minL ns by omega]; exact q
theorem maxL_eq {ns : List Int} {m : Int} (h1 : m ∈ ns) (h2 : ∀ y ∈ ns, y ≤ m) : maxL ns = m := by
  have hne : ns ≠ [] := fun e => by rw [e] at h1; cases h1
  obtain ⟨h3, h4⟩ := maxL_spec hne
  have := h2 _ h3
  have := h4 _ h1
  omega
theorem minL_eq {ns : List Int} {m : Int} (h1 : m ∈ ns) (h2 : ∀ y ∈ ns, m ≤ y) : minL ns = m := by
  have hne : ns ≠ [] := fun e => by rw [e] at h1; cases h1
  obtain ⟨h3, h4⟩ := minL_spec hne
  have := h2 _ h3
  have := h4 _ h1
  omega
theorem i_maxR {ns : List Int} {M : Mh} {Q : QZ} {p : Addr} (e : M p = some (.lst (ns.map D.int))) (h : ns ≠ []) (q : Q (.int (maxL ns)) M) : dMaxL [.ref p] M Q := by
  show zL M (.ref p) _
  rw [zL_ref e]
  exact i_maxL h q
theorem i_minR {ns : List Int} {M : Mh} {Q : QZ} {p : Addr} (e : M p = some (.lst (ns.map D.int))) (h : ns ≠ []) (q : Q (.int (minL ns)) M) : dMinL [.ref p] M Q := by
  show zL M (.ref p) _
  rw [zL_ref e]
  exact i_minL h q

-- needs: own33 rows33 gathered maxl
theorem i_andSel {c b : Bool} {K : D → Prop} {A : Prop} (hA : K (.bl b) → A) (h : K (.bl (c && b))) : bsel c A (K (.bl false)) := by
  cases c with
  | true => exact hA h
  | false => exact h
theorem l__law_step {o w : Addr} {L : Nat} {t : Int} {f : LF} {M : Mh} {Q : QZ} {E : ZX} (h : OwAt M o w L t f) (h23 : L = 2 ∨ L = 3) (hf : fullB L f = true) (q : ∀ M', OwAt M' o w L ((t + 1) % 256) (popF t f) → (∀ y, y ≠ w → y ≠ o → M' y = M y) → Q (.lst [evL t (headsF L f)]) M') : z__law_step [.ref o] M Q E := by
  have hme := h.me
  have hw := h.q
  have hne : ∀ i, i < L → ∃ b rr q0, f i = (b :: rr) :: q0 := fun i hi => by
    have h1 : f i ≠ [] := of_decide_eq_true (List.all_eq_true.mp hf i (List.mem_range.mpr hi))
    cases e : f i with
    | nil => exact absurd e h1
    | cons r0 q0 =>
      have := (h.ok i hi r0 (by rw [e]; exact List.mem_cons_self)).2.2
      cases r0 with
      | nil => exact absurd rfl this
      | cons b rr => exact ⟨b, rr, q0, rfl⟩
  show zFn _ zb__law_step _ _ _ _
  unfold zFn zb__law_step
  walk_at "y"
  refine zLcL_mapC hw (as := List.range L) (f := fun i : Nat => .lst (rowsD (f i))) (g := fun i : Nat => rowD ((f i).headD [])) (fun i hi Q hq => ?_) ?_
  · obtain ⟨b, rr, q0, e⟩ := hne i (List.mem_range.mp hi)
    rw [e] at hq ⊢
    walk_at "y"
    refine i_ixL (d := rowD (b :: rr)) atI_head ?_
    exact hq
  rw [List.nil_append, show (List.range L).map (fun i : Nat => rowD ((f i).headD [])) = rowsD (headsF L f) by unfold rowsD headsF; rw [List.map_map]; rfl]
  have hhl : (headsF L f).length = L := by unfold headsF; rw [List.length_map, List.length_range]
  have hhk : ∀ r ∈ headsF L f, ∃ b rr, r = b :: rr := fun r hr => by
    obtain ⟨i, hi, rfl⟩ := List.mem_map.mp hr
    obtain ⟨b, rr, q0, e⟩ := hne i (List.mem_range.mp hi)
    exact ⟨b, rr, by rw [e]; rfl⟩
  walk_at "y"
  refine zLcL_filterm (as := headsF L f) (f := rowD) (p := fun r : List Int => decide (r.headD 0 = t)) (g := rowD) (fun r hr Q h1 h2 => ?_) ?_
  · obtain ⟨b, rr, rfl⟩ := hhk r hr
    walk_at "y"
    refine i_ixL (d := .int b) atI_head ?_
    walk_at "y"
    refine i_bd (fun e => ?_) fun e => ?_
    · walk_at "y"
      exact h1 (decide_eq_true e)
    · walk_at "y"
      exact h2 (decide_eq_false e)
  rw [List.nil_append]
  walk_at "y"
  have hhl2 : (rowsD (headsF L f)).length = L := by unfold rowsD; rw [List.length_map, hhl]
  rw [hhl2, Int.toNat_natCast]
  refine ⟨by omega, by omega, ?_⟩
  refine zLoop_range (P := fun j r M' => OwAt M' o w L t (fun i => if i < j then popF t f i else f i) ∧ (∀ y, y ≠ w → M' y = M y) ∧ ∃ x, r = [some (.ref o), some (.lst (rowsD (headsF L f))), some (.lst (((headsF L f).filter fun r : List Int => decide (r.headD 0 = t)).map rowD)), x, none, none, none, none, none, none, none]) ?_ ?_ ⟨h.congr fun i _ => by rw [if_neg (Nat.not_lt_zero i)], fun _ _ => rfl, none, rfl⟩
  rotate_left
  · rintro j r M' k hj ⟨h1, hk1, x, rfl⟩ hkk
    have hme1 := h1.me
    have hw1 := h1.q
    rw [Int.zero_add]
    obtain ⟨b, rr, q0, e⟩ := hne j hj
    have hat : atI (rowsD (headsF L f)) (j : Int) = some (rowD (b :: rr)) := atI_nat (by
      unfold rowsD headsF
      rw [List.getElem?_map, List.getElem?_map, List.getElem?_range hj]
      simp [e])
    have hwj : atI (fD L (fun i => if i < j then popF t f i else f i)) (j : Int) = some (.lst (rowsD ((b :: rr) :: q0))) := atI_nat (by rw [fD_get hj, if_neg (Nat.lt_irrefl j), e])
    walk_at "y"
    refine i_ixL hat ?_
    walk_at "y"
    refine i_ixL (d := .int b) atI_head ?_
    walk_at "y"
    refine i_bd (fun e5 => ?_) fun e5 => ?_
    · walk_at "y"
      refine i_ixR hw1 hwj ?_
      walk_at "y"
      rw [show cutD (rowsD ((b :: rr) :: q0)) (some 1) none = rowsD q0 from cutD_from (rowsD ((b :: rr) :: q0)) 1]
      refine i_set (j := j) hw1 (ixN_of (by rw [fD_len]; exact hj)) ?_
      rw [fD_set]
      refine hkk _ _ ⟨?_, fun y hy => (mup_ne hy).trans (hk1 y hy), _, rfl⟩
      refine (h1.set (i := j) (q := q0) (fun r hr => h.ok j hj r (by rw [e]; exact List.mem_cons_of_mem _ hr)) ?_).congr fun i _ => ?_
      · have := h.sz j hj
        rw [e, List.length_cons] at this; omega
      · unfold setF
        by_cases e6 : i = j
        · rw [if_pos e6, if_pos (by omega), e6]
          unfold popF
          rw [e]
          exact (if_pos e5).symm
        · by_cases e7 : i < j
          · rw [if_neg e6]; dsimp only; rw [if_pos e7, if_pos (by omega)]
          · rw [if_neg e6]; dsimp only; rw [if_neg e7, if_neg (by omega)]
    · walk_at "y"
      refine hkk _ _ ⟨h1.congr fun i hi => ?_, hk1, _, rfl⟩
      by_cases e6 : i = j
      · rw [if_neg (by omega), if_pos (by omega), e6]
        unfold popF
        rw [e]
        exact (if_neg e5).symm
      · by_cases e7 : i < j
        · rw [if_pos e7, if_pos (by omega)]
        · rw [if_neg e7, if_neg (by omega)]
  rintro r M' ⟨h1, hk1, x, rfl⟩
  replace h1 := h1.congr (g := popF t f) fun i hi => by rw [if_pos hi]
  have hme1 := h1.me
  walk_at "y"
  refine zLcL_mapm (as := headsF L f) (f := rowD) (g := fun r : List Int => .int ((r.length : Nat) : Int)) (fun r hr Q hq => ?_) ?_
  · unfold rowD
    walk_at "y"
    exact hq
  rw [List.nil_append, show (headsF L f).map (fun r : List Int => D.int ((r.length : Nat) : Int)) = (lensI (headsF L f)).map D.int by unfold lensI; rw [List.map_map]; rfl]
  walk_at "y"
  have hrl : (rowsD (headsF L f)).length = (headsF L f).length := by unfold rowsD; rw [List.length_map]
  rw [hrl]
  have hall : ((headsF L f).filter fun r : List Int => decide (r.headD 0 = t)).length = (headsF L f).length ↔ (headsF L f).all (fun r => decide (r.headD 0 = t)) = true := by
    rw [List.length_filter_eq_length_iff, List.all_eq_true]
  refine i_andSel (K := fun d => zgName 5 d _ _ _) (b := decide (minL (lensI (headsF L f)) + 1 ≥ (lensI (headsF L f)).headD 0)) (fun hK => ?_) ?_
  · walk_at "y"
    refine i_minL (fun z => ?_) ?_
    · have := congrArg List.length z
      unfold lensI at this
      rw [List.length_map, hhl] at this
      rcases h23 with e | e <;> rw [e] at this <;> cases this
    walk_at "y"
    obtain ⟨n0, nr, e0⟩ : ∃ n0 nr, lensI (headsF L f) = n0 :: nr := by
      cases e : lensI (headsF L f) with
      | nil =>
        have := congrArg List.length e
        unfold lensI at this
        rw [List.length_map, hhl] at this
        rcases h23 with e | e <;> rw [e] at this <;> cases this
      | cons a l => exact ⟨a, l, rfl⟩
    refine i_ixL (d := .int n0) (by rw [e0]; exact atI_head) ?_
    refine i_ge ?_
    rw [e0] at hK ⊢
    exact hK
  generalize hW : (decide ((((headsF L f).filter fun r : List Int => decide (r.headD 0 = t)).length : Int) = ((headsF L f).length : Int)) && decide (minL (lensI (headsF L f)) + 1 ≥ (lensI (headsF L f)).headD 0)) = W0
  walk_at "y"
  have hln : (lensI (headsF L f)).length = L := by unfold lensI; rw [List.length_map, hhl]
  have hL23 : 2 ≤ L ∧ L ≤ 3 := by omega
  rw [hln]
  refine ⟨by omega, by omega, by omega, by omega, by omega, ?_⟩
  rw [show ((L : Int) - 1).toNat = L - 1 by omega]
  refine zLoop_range (P := fun j r M2 => M2 = M' ∧ ∃ x3 x6, r = [some (.ref o), some (.lst (rowsD (headsF L f))), some (.lst (((headsF L f).filter fun r : List Int => decide (r.headD 0 = t)).map rowD)), x3, some (.lst ((lensI (headsF L f)).map D.int)), some (.bl (W0 && (List.range j).all fun k => decide ((lensI (headsF L f)).getD (k + 1) 0 ≤ (lensI (headsF L f)).getD k 0))), x6, none, none, none, none]) ?_ ?_ ⟨rfl, _, _, by rw [show ((List.range 0).all fun k => decide ((lensI (headsF L f)).getD (k + 1) 0 ≤ (lensI (headsF L f)).getD k 0)) = true from rfl, Bool.and_true]⟩
  rotate_left
  · rintro j r M2 k hj ⟨rfl, x3, x6, rfl⟩ hk
    have hj1 : j + 1 < (lensI (headsF L f)).length := by omega
    walk_at "y"
    refine i_andSel (K := fun d => zgName 5 d _ _ _) (b := decide ((lensI (headsF L f)).getD (j + 1) 0 ≤ (lensI (headsF L f)).getD j 0)) (fun hK => ?_) ?_
    · walk_at "zs"
      have hat : ∀ k, k < (lensI (headsF L f)).length → atI ((lensI (headsF L f)).map D.int) ((k : Nat) : Int) = some (.int ((lensI (headsF L f)).getD k 0)) := fun k hk => atI_nat (by rw [List.getElem?_map, List.getD_eq_getElem?_getD, List.getElem?_eq_getElem hk]; rfl)
      refine i_2 (i_var rfl (i_var rfl ?_))
      refine i_ixL (by rw [show (1 : Int) + (j : Nat) = ((j + 1 : Nat) : Int) by omega]; exact hat (j + 1) hj1) ?_
      refine i_2 (i_var rfl (i_2 (i_var rfl (i_c (i_sub ?_)))))
      refine i_ixL (by rw [show (1 : Int) + (j : Nat) - 1 = ((j : Nat) : Int) by omega]; exact hat j (by omega)) ?_
      refine i_le ?_
      exact hK
    rw [Bool.and_assoc, show ((List.range j).all (fun k => decide ((lensI (headsF L f)).getD (k + 1) 0 ≤ (lensI (headsF L f)).getD k 0)) && decide ((lensI (headsF L f)).getD (j + 1) 0 ≤ (lensI (headsF L f)).getD j 0)) = (List.range (j + 1)).all (fun k => decide ((lensI (headsF L f)).getD (k + 1) 0 ≤ (lensI (headsF L f)).getD k 0)) by rw [List.range_succ, List.all_append]; simp]
    walk_at "y"
    exact hk _ _ ⟨rfl, _, _, rfl⟩
  rintro r M2 ⟨rfl, x3, x6, rfl⟩
  have hWW : (W0 && (List.range (L - 1)).all fun k => decide ((lensI (headsF L f)).getD (k + 1) 0 ≤ (lensI (headsF L f)).getD k 0)) = wholeB t (headsF L f) := by
    have hnn : lensI (headsF L f) ≠ [] := fun z => by rw [z] at hln; simp at hln; omega
    have := whole33 (t := t) (mi := minL (lensI (headsF L f))) (hs := headsF L f) (by rw [hhl]; exact h23) (minL_spec hnn).1 (minL_spec hnn).2
    rw [hhl] at this
    rw [← hW, hhl]
    exact this
  rw [hWW]
  walk_at "y"
  cases ew : wholeB t (headsF L f) with
  | false =>
    walk_at "y"
    refine i_ck0 ?_
    walk_at "y"
    refine i_set (j := 1) hme1 (by rfl) ?_
    have h2 : OwAt (mup M2 o (.lst ([D.ref w, D.int t].set 1 (.int ((t + 1) % 256))))) o w L ((t + 1) % 256) (popF t f) := ⟨mup_same, (mup_ne (Ne.symm h1.ne)).trans h1.q, h1.ne, h1.hL, by omega, by omega, h1.ok, h1.sz⟩
    have q3 := q _ h2 fun y y1 y2 => (mup_ne y2).trans (hk1 y y1)
    rw [show evL t (headsF L f) = .tup [.str "lost", .int t, .lst []] by unfold evL; rw [ew]; rfl] at q3
    walk_at "y"
    exact i_rtG q3
  | true =>
    have hkk : ∀ r ∈ headsF L f, r ≠ [] ∧ r.length ≤ 64 := fun r hr => by
      obtain ⟨i, hi, rfl⟩ := List.mem_map.mp hr
      have hi := List.mem_range.mp hi
      obtain ⟨b, rr, q0, e⟩ := hne i hi
      have := h.ok i hi (b :: rr) (by rw [e]; exact List.mem_cons_self)
      rw [e]
      exact ⟨by simp, this.2.1⟩
    walk_at "y"
    refine zLoop_range (P := fun j r M3 => M3 = M2 ∧ ∃ x6, r = [some (.ref o), some (.lst (rowsD (headsF L f))), some (.lst (((headsF L f).filter fun r : List Int => decide (r.headD 0 = t)).map rowD)), x3, some (.lst ((lensI (headsF L f)).map D.int)), some (.bl true), x6, some (.lst ((rowS (headsF L f) j).map D.int)), none, none, none]) ?_ ?_ ⟨rfl, _, rfl⟩
    · rintro r M3 ⟨rfl, x6, rfl⟩
      walk_at "y"
      refine i_set (j := 1) hme1 (by rfl) ?_
      have h2 : OwAt (mup M3 o (.lst ([D.ref w, D.int t].set 1 (.int ((t + 1) % 256))))) o w L ((t + 1) % 256) (popF t f) := ⟨mup_same, (mup_ne (Ne.symm h1.ne)).trans h1.q, h1.ne, h1.hL, by omega, by omega, h1.ok, h1.sz⟩
      have q3 := q _ h2 fun y y1 y2 => (mup_ne y2).trans (hk1 y y1)
      have efit : fitsB (headsF L f) = true := (Bool.and_eq_true_iff.mp ew).2
      rw [show evL t (headsF L f) = .tup [.str "row", .int t, rowD (rowS (headsF L f) 64)] by unfold evL; rw [ew, rowS_gath (by rw [hhl]; exact h23) efit hkk]; rfl] at q3
      walk_at "y"
      exact i_rtG q3
    · rintro j r M3 k hj ⟨rfl, x6, rfl⟩ hk
      have hj64 : j < 64 := hj
      have hrl : (rowS (headsF L f) j).length ≤ j * 3 := by
        clear hk hj hj64
        induction j with
        | zero => exact Nat.zero_le _
        | succ j ih =>
          rw [rowS_succ, List.length_append]
          have : (roundS (headsF L f) j).length ≤ 3 := by
            unfold roundS
            rw [List.length_map]
            have := List.length_filter_le (fun h : List Int => decide (j + 1 < h.length)) (headsF L f)
            rw [hhl] at this; omega
          omega
      rw [Int.zero_add]
      walk_at "y"
      refine zLcL_filterm (as := headsF L f) (f := rowD) (p := fun r : List Int => decide (j + 1 < r.length)) (g := fun r : List Int => .int (r.getD (j + 1) 0)) (fun r hr Q h1 h2 => ?_) ?_
      · unfold rowD
        walk_at "y"
        refine i_bd (fun e => ?_) fun e => ?_
        · have e' : j + 1 < r.length := by omega
          walk_at "y"
          refine i_ixL (d := .int (r.getD (j + 1) 0)) (by rw [show (j : Int) + 1 = ((j + 1 : Nat) : Int) by omega]; exact atI_nat (by rw [List.getElem?_map, List.getD_eq_getElem?_getD, List.getElem?_eq_getElem e']; rfl)) ?_
          exact h1 (decide_eq_true e')
        · walk_at "y"
          exact h2 (decide_eq_false (by omega))
      rw [List.nil_append, show ((headsF L f).filter fun r : List Int => decide (j + 1 < r.length)).map (fun r : List Int => D.int (r.getD (j + 1) 0)) = (roundS (headsF L f) j).map D.int by unfold roundS; rw [List.map_map]; rfl]
      have hr3 : (roundS (headsF L f) j).length ≤ 3 := by
        unfold roundS
        rw [List.length_map]
        have := List.length_filter_le (fun h : List Int => decide (j + 1 < h.length)) (headsF L f)
        rw [hhl] at this; omega
      refine i_newF ?_
      refine i_addIs (by omega) ?_
      rw [← rowS_succ]
      walk_at "y"
      exact hk _ _ ⟨rfl, _, rfl⟩

-- needs: own33 _law_step _law_late Lanes_come
theorem i_noneEmpty {L : Nat} {f : LF} : (((List.range L).filter fun i => decide (f i = [])).map fun i : Nat => D.lst (rowsD (f i))) = [] ↔ fullB L f = true := by
  unfold fullB
  rw [List.map_eq_nil_iff, List.filter_eq_nil_iff, List.all_eq_true]
  exact ⟨fun h i hi => decide_eq_true fun z => h i hi (decide_eq_true z), fun h i hi z => of_decide_eq_true (h i hi) (of_decide_eq_true z)⟩
theorem zLcL_filterC {α : Type} {f g : α → D} {p : α → Bool} {step : D → Mh → (Option D → Mh → Prop) → Prop} {k : List D → Mh → Prop} {M : Mh} {c : Addr} {ds : List D} (hc : M c = some (.lst ds)) : ∀ {as : List α} {acc : List D}, (∀ a, a ∈ as → ∀ Q : Option D → Mh → Prop, (p a = true → Q (some (g a)) M) → (p a = false → Q none M) → step (f a) M Q) → k (acc ++ (as.filter p).map g) M → zLcL (some (c, ds)) step k (as.map f) acc M
  | [], acc, _, h => by
    show zck (some (c, ds)) M (k acc M)
    exact ⟨hc, by simpa using h⟩
  | a :: as, acc, hs, h => by
    show zck (some (c, ds)) M _
    refine ⟨hc, hs a List.mem_cons_self _ (fun hp => ?_) fun hp => ?_⟩
    · show zLcL (some (c, ds)) step k _ (acc ++ [g a]) M
      exact zLcL_filterC hc (fun b hb => hs b (List.mem_cons_of_mem _ hb)) (by simpa [List.filter_cons, hp] using h)
    · show zLcL (some (c, ds)) step k _ acc M
      exact zLcL_filterC hc (fun b hb => hs b (List.mem_cons_of_mem _ hb)) (by simpa [List.filter_cons, hp] using h)
theorem l__law_come {o w : Addr} {L : Nat} {t : Int} {f : LF} {lane : Nat} {d : D} {fr : List Int} {M : Mh} {Q : QZ} {E : ZX} (h : OwAt M o w L t f) (h23 : L = 2 ∨ L = 3) (hla : lane < L) (hd : RowAt M d fr) (hb : byteL fr) (hl : fr.length ≤ 64) (hne : fr ≠ []) (hs : ∀ i, i < L → (f i).length < 4000)
    (q : ∀ M' es t' f', Runs L t (dropF t (setF f lane (f lane ++ [fr]))) es t' f' → OwAt M' o w L t' f' → (∀ y, y ≠ o → y ≠ w → M' y = M y) → Q (.lst es) M') : z__law_come [.ref o, .int (lane : Nat), d] M Q E := by
  have hme := h.me
  have hw := h.q
  have hwl : atI (fD L f) (lane : Int) = some (.lst (rowsD (f lane))) := atI_nat (fD_get hla)
  show zFn _ zb__law_come _ _ _ _
  unfold zFn zb__law_come
  walk_at "y"
  refine i_ixR hw hwl ?_
  walk_at "y"
  refine i_listA hd ?_
  walk_at "y"
  refine i_addL (by unfold rowsD; rw [List.length_map, sizeLine_eq]; have := hs lane hla; simp only [List.length_cons, List.length_nil]; omega) ?_
  rw [show rowsD (f lane) ++ [.lst (fr.map D.int)] = rowsD (f lane ++ [fr]) by unfold rowsD; rw [List.map_append]; rfl]
  walk_at "y"
  refine i_set (j := lane) hw (ixN_of (by rw [fD_len]; exact hla)) ?_
  rw [fD_set]
  have h1 : OwAt (mup M w (.lst (fD L (setF f lane (f lane ++ [fr]))))) o w L t (setF f lane (f lane ++ [fr])) := h.set (fun r hr => by
    rcases List.mem_append.mp hr with hr | hr
    · exact h.ok lane hla r hr
    · rw [List.mem_singleton.mp hr]; exact ⟨hb, hl, hne⟩) (by rw [List.length_append]; have := hs lane hla; simp only [List.length_cons, List.length_nil]; omega)
  have hk1 : ∀ y, y ≠ o → y ≠ w → mup M w (.lst (fD L (setF f lane (f lane ++ [fr])))) y = M y := fun y _ hy => mup_ne hy
  have hsz1 : ∀ i, i < L → (setF f lane (f lane ++ [fr]) i).length ≤ 4000 := fun i hi => by
    unfold setF
    split
    · rw [List.length_append]; have := hs lane hla; simp only [List.length_cons, List.length_nil]; omega
    · have := hs i hi; omega
  generalize mup M w (.lst (fD L (setF f lane (f lane ++ [fr])))) = M1 at h1 hk1 ⊢
  generalize setF f lane (f lane ++ [fr]) = f1 at h1 hsz1 q ⊢
  walk_at "y"
  refine l__law_late h1 fun M2 h2 hk2 => ?_
  have hms : measL L t (dropF t f1) ≤ 5000000 := by
    have hle : ∀ i, i < L → (dropF t f1 i).length ≤ 4000 := fun i hi => Nat.le_trans dropL_len (hsz1 i hi)
    have : totF L (dropF t f1) ≤ 16000 := by
      unfold totF
      rcases h23 with e | e <;> rw [e] at hle ⊢ <;> simp [List.range_succ]
      · have h0 := hle 0 (by decide); have h1 := hle 1 (by decide); omega
      · have h0 := hle 0 (by decide); have h1 := hle 1 (by decide); have h2 := hle 2 (by decide); omega
    unfold measL
    have := Nat.mul_le_mul_right 256 this
    omega
  walk_at "zs"
  refine zWhile_ind (P := fun n r M' => ∃ (es0 : List D) (t1 : Int) (g : LF), OwAt M' o w L t1 g ∧ (∀ es t' f', Runs L t1 g es t' f' → Runs L t (dropF t f1) (es0 ++ es) t' f') ∧ es0.length + n ≤ 5000000 ∧ n = measL L t1 g ∧ (∀ y, y ≠ o → y ≠ w → M' y = M y) ∧ (∃ x4, r = [some (.ref o), some (.int (lane : Nat)), some d, some (.lst es0), x4])) ?_ (measL L t (dropF t f1)) ⟨[], t, dropF t f1, h2, fun es t' f' z => z, by simpa using hms, rfl, fun y y1 y2 => (hk2 y y2).trans (hk1 y y1 y2), none, rfl⟩
  rintro n r M4 k ⟨es0, t1, g, h4, hr4, hn4, rfl, hk4, x4, rfl⟩ hkk
  have hme4 := h4.me
  have hw4 := h4.q
  walk_at "y"
  refine zLcL_filterC hw4 (as := List.range L) (f := fun i : Nat => .lst (rowsD (g i))) (p := fun i => decide (g i = [])) (g := fun i : Nat => .lst (rowsD (g i))) (fun i hi Q h1 h2 => ?_) ?_
  · walk_at "y"
    refine i_eq (.mono (Pl_rows 0 _) (by decide)) (.lflat rfl) ?_
    rw [eqD_nil]
    cases e : g i with
    | nil =>
      rw [e] at h1
      walk_at "y"
      exact h1 rfl
    | cons a l =>
      walk_at "y"
      exact h2 (decide_eq_false (by rw [e]; simp))
  rw [List.nil_append]
  walk_at "y"
  refine i_eq (.lst (n := 63) fun x hx => ?_) (.lflat rfl) ?_
  · obtain ⟨i, _, rfl⟩ := List.mem_map.mp hx
    exact .mono (Pl_rows 0 _) (by decide)
  rw [eqD_nil]
  cases ef : fullB L g with
  | false =>
    rw [decide_eq_false (fun z => by rw [i_noneEmpty.mp z] at ef; cases ef)]
    walk_at "y"
    exact q _ es0 t1 g (by simpa using hr4 [] t1 g (.stop ef)) h4 hk4
  | true =>
    rw [decide_eq_true (i_noneEmpty.mpr ef)]
    walk_at "y"
    refine l__law_step h4 h23 ef fun M5 h5 hk5 => ?_
    walk_at "y"
    refine l__law_late h5 fun M7 h7 hk7 => ?_
    have h00 : 0 < L := by omega
    have hlt := measL_step (f := g) h4.hL h4.t0 h4.t1 (fun r hr => ⟨(h4.ok 0 h00 r hr).1, (h4.ok 0 h00 r hr).2.2⟩) (of_decide_eq_true (List.all_eq_true.mp ef 0 (List.mem_range.mpr h00)))
    refine hkk _ _ _ hlt ⟨es0 ++ [evL t1 (headsF L g)], (t1 + 1) % 256, dropF ((t1 + 1) % 256) (popF t1 g), h7, fun es t' f' hz => ?_, ?_, rfl, fun y y1 y2 => ?_, _, rfl⟩
    · rw [List.append_assoc]
      exact hr4 _ _ _ (.step ef hz)
    · rw [List.length_append]; simp only [List.length_cons, List.length_nil]; omega
    · rw [hk7 y y2, hk5 y y2 y1]
      exact hk4 y y1 y2

mutual
theorem eqD_self : ∀ {d : D}, Zl.plain d = true → eqD d d = true
  | .non, _ => rfl
  | .bl b, _ => by simp
  | .int i, _ => by simp
  | .str s, _ => by simp
  | .lst ds, h => by rw [eqD_lst]; exact eqDs_selfP (ds := ds) h
  | .tup ds, h => by rw [eqD_tup]; exact eqDs_selfP (ds := ds) h
  | .dct, h => by cases h
  | .exc _, h => by cases h
  | .scr _, h => by cases h
  | .ref _, h => by cases h
theorem eqDs_selfP : ∀ {ds : List D}, plains ds = true → eqDs ds ds = true
  | [], _ => rfl
  | d :: r, h => by
    have q := Bool.and_eq_true_iff.mp (show (Zl.plain d && plains r) = true from h)
    rw [eqDs_cons, eqD_self q.1, eqDs_selfP q.2]; rfl
end

-- needs: Lanes_come Lanes___init__ Lanes_due Lanes_held dealt dealgath runs2 plainrefl _law_come own33
theorem Runs.det {L : Nat} {t t1 : Int} {f f1 : LF} {es1 : List D} (h1 : Runs L t f es1 t1 f1) : ∀ {es2 : List D} {t2 : Int} {f2 : LF}, Runs L t f es2 t2 f2 → es1 = es2 ∧ t1 = t2 ∧ f1 = f2 := by
  induction h1 with
  | stop e =>
    intro es2 t2 f2 h2
    obtain ⟨rfl, rfl, rfl⟩ := h2.idle e
    exact ⟨rfl, rfl, rfl⟩
  | step e _ ih =>
    intro es2 t2 f2 h2
    obtain ⟨es, rfl, h3⟩ := h2.go e
    obtain ⟨rfl, rfl, rfl⟩ := ih h3
    exact ⟨rfl, rfl, rfl⟩
theorem Runs.len {L : Nat} {t t1 : Int} {f f1 : LF} {es1 : List D} (h1 : Runs L t f es1 t1 f1) : ∀ i, (f1 i).length ≤ (f i).length := by
  induction h1 with
  | stop e => exact fun i => Nat.le_refl _
  | step e _ ih => exact fun i => Nat.le_trans (ih i) (Nat.le_trans dropL_len popF_len)
theorem Pl_evL {t : Int} {hs : List (List Int)} : Pl 3 (evL t hs) := by
  unfold evL
  split
  · refine .tup fun y hy => ?_
    simp only [List.mem_cons, List.not_mem_nil, or_false] at hy
    rcases hy with rfl | rfl | rfl
    · exact .str _ _
    · exact .int _ _
    · exact Pl_row 1 _
  · refine .tup fun y hy => ?_
    simp only [List.mem_cons, List.not_mem_nil, or_false] at hy
    rcases hy with rfl | rfl | rfl
    · exact .str _ _
    · exact .int _ _
    · exact .lflat rfl
theorem Runs.pl {L : Nat} {t t1 : Int} {f f1 : LF} {es1 : List D} (h1 : Runs L t f es1 t1 f1) : Pl 4 (.lst es1) := .lst (by
  induction h1 with
  | stop e => exact fun _ h => nomatch h
  | step e _ ih =>
    intro x hx
    rcases List.mem_cons.mp hx with rfl | hx
    · exact Pl_evL
    · exact ih x hx)
structure S33 (M : Mh) (t a o w : Addr) (ws : List Addr) (L : Nat) (tt : Int) (f : LF) (n : Nat) : Prop where
  ht : M t = some .town
  ln : LnAt M a ws tt f
  ow : OwAt M o w L tt f
  le : ∀ i, i < L → (f i).length ≤ n
theorem law_holds : ∀ ns : List Int, ns.length ≤ 63 → z_law [.scr ns] (fun _ => none) (fun d _ => d = .bl true) fun _ _ _ => False := by
  intro ns hns
  show zFn _ zb_law _ _ _ _
  unfold zFn zb_law
  walk_at "z"
  refine ⟨(fun _ h => nomatch h), fun t ht => ?_⟩
  have hT : mup (fun x => none) t MO.town t = some .town := mup_same
  generalize mup (fun x => none) t MO.town = M at hT
  walk_at "y"
  refine l__law_draw hT (by decide) (by decide) fun d1 h1 h2 => ?_
  obtain ⟨L, hLe, h23⟩ : ∃ L : Nat, (2 : Int) + d1 = (L : Int) ∧ (L = 2 ∨ L = 3) := ⟨(2 + d1).toNat, by omega, by omega⟩
  have hL : okL L := by unfold okL; omega
  have hL4 : L ≤ 3 ∧ 2 ≤ L := by omega
  walk_at "y"
  rw [hLe]
  intro a ha
  refine l_Lanes___init__ (L := L) mup_same hL fun M1 ws hws h1 hwn hk1 => ⟨rfl, ?_⟩
  have hta : t ≠ a := ne_of_m hT ha
  have hT1 : M1 t = some .town := by
    rw [hk1 t hta (fun z => by have := hwn t z; rw [mup_ne hta, hT] at this; cases this), mup_ne hta]; exact hT
  clear hk1 hwn
  have hwsM : ∀ {M : Mh} {tt : Int} {f : LF} {x : Addr}, LnAt M a ws tt f → (∀ q, M x ≠ some (.lst (rowsD q))) → x ∉ ws := fun h hx z => by
    obtain ⟨j, hj, e⟩ := List.getElem_of_mem z
    exact hx _ (h.q j _ (by rw [List.getElem?_eq_getElem hj, e]))
  have htw : t ∉ ws := hwsM h1 fun q => by rw [hT1]; simp
  walk_at "y"
  refine i_anyT ?_
  walk_at "y"
  rw [Int.toNat_natCast, rangeD_mapI]
  refine zLcL_mapm (as := List.range L) (f := fun k : Nat => .int (k : Nat)) (g := fun _ => .lst []) (fun k _ Q hq => ?_) ?_
  · walk_at "y"
    exact hq
  rw [List.nil_append]
  refine i_newT fun w hwn => ?_
  rw [show (List.range L).map (fun _ => D.lst []) = fD L (fun _ => []) from rfl]
  have hw1 : mup M1 w (.lst (fD L fun _ => [])) w = _ := mup_same
  have hk2 : ∀ y o, M1 y = some o → mup M1 w (.lst (fD L fun _ => [])) y = some o := fun y o hy => mup_get hwn hy
  have hww : w ∉ ws := hwsM h1 fun q => by rw [hwn]; simp
  have hwt : w ≠ t := fun z => by rw [z, hT1] at hwn; cases hwn
  have hwa : w ≠ a := fun z => by rw [z, h1.me] at hwn; cases hwn
  replace h1 := h1.keep hk2
  replace hT1 := hk2 _ _ hT1
  clear hk2 hwn
  generalize mup M1 w (.lst (fD L fun _ => [])) = M2 at h1 hT1 hw1 ⊢
  walk_at "y"
  refine i_newT fun o hon => ?_
  have hk3 : ∀ y x, M2 y = some x → mup M2 o (.lst [.ref w, .int 0]) y = some x := fun y x hy => mup_get hon hy
  have hoe : o ≠ w := fun z => by rw [z, hw1] at hon; cases hon
  have how : o ∉ ws := hwsM h1 fun q => by rw [hon]; simp
  have hot : o ≠ t := fun z => by rw [z, hT1] at hon; cases hon
  have hoa : o ≠ a := fun z => by rw [z, h1.me] at hon; cases hon
  have S0 : S33 (mup M2 o (.lst [.ref w, .int 0])) t a o w ws L 0 (fun _ => []) 0 := ⟨hk3 _ _ hT1, h1.keep hk3, ⟨mup_same, hk3 _ _ hw1, hoe, hL, by decide, by decide, (fun _ _ r hr => nomatch hr), fun _ _ => Nat.zero_le _⟩, fun _ _ => Nat.le_refl _⟩
  clear hk3 hon h1 hT1 hw1
  generalize mup M2 o (.lst [.ref w, .int 0]) = M3 at S0 ⊢
  have ht3 := S0.ht
  walk_at "y"
  refine l__law_pick ht3 (by simp) (by show 5 < _; decide) fun d hd => ?_
  obtain ⟨s0, rfl, hs1⟩ : ∃ s0 : Nat, d = .int (s0 : Nat) ∧ s0 ≤ 120 := by
    simp only [List.mem_cons, List.not_mem_nil, or_false] at hd
    rcases hd with e | e | e | e | e
    · exact ⟨0, e, by decide⟩
    · exact ⟨0, e, by decide⟩
    · exact ⟨0, e, by decide⟩
    · exact ⟨100, e, by decide⟩
    · exact ⟨120, e, by decide⟩
  clear hd
  walk_at "y"
  refine ⟨by omega, by omega, by omega, by omega, by omega, ?_⟩
  rw [show ((s0 : Int) + 4 - (s0 : Int)).toNat = 4 by omega]
  refine zLoop_range (P := fun j r M' => ∃ (tt : Int) (f : LF) (x6 x7 x8 x9 x10 x11 : Option D), S33 M' t a o w ws L tt f (8 * j) ∧ r = [some (.scr ns), some (.ref t), some (.int (L : Nat)), some (.ref a), some (.ref o), some (.int (s0 : Nat)), x6, x7, x8, x9, x10, x11, none]) ?_ ?_ ⟨0, fun _ => [], none, none, none, none, none, none, S0, rfl⟩
  · rintro r M4 ⟨tt, f, x6, x7, x8, x9, x10, x11, S, rfl⟩
    walk_at "y"
    exact i_rtG rfl
  rintro j r M4 k hj ⟨tt, f, x6, x7, x8, x9, x10, x11, S, rfl⟩ hk
  have ht4 := S.ht
  walk_at "y"
  refine l__law_row (most := 6) ht4 (by decide) fun row hr hrl => ?_
  refine l_dealtG (fun _ => false) hL hr (by omega) (by omega) (by omega) fun M5 ds k5 hR hm _ => ?_
  have S5 : S33 M5 t a o w ws L tt f (8 * j) := ⟨k5 _ _ S.ht, S.ln.keep k5, ⟨k5 _ _ S.ow.me, k5 _ _ S.ow.q, S.ow.ne, S.ow.hL, S.ow.t0, S.ow.t1, S.ow.ok, S.ow.sz⟩, S.le⟩
  have hds : ∀ i, i < L → ds[i]? = some (rowD (((s0 : Int) + (j : Nat)) :: laneL row L i)) := fun i hi => by
    obtain ⟨d, hd, _⟩ := hR.get (dealL_get (row := row) (t := (s0 : Int) + (j : Nat)) hi)
    rw [hd, (hm i hi d hd).1 rfl]
  clear hR hm k5 S ht4
  walk_at "y"
  rw [Int.toNat_natCast]
  refine zLoop_range (P := fun l r M' => ∃ (tt : Int) (f : LF) (x8 x9 x10 x11 : Option D), S33 M' t a o w ws L tt f (8 * j + 2 * l) ∧ r = [some (.scr ns), some (.ref t), some (.int (L : Nat)), some (.ref a), some (.ref o), some (.int (s0 : Nat)), some (.int ((s0 : Int) + (j : Nat))), some (.lst ds), x8, x9, x10, x11, none]) ?_ ?_ ⟨tt, f, _, _, _, _, S5, rfl⟩
  · rintro r M6 ⟨tt, f, x8, x9, x10, x11, S, rfl⟩
    exact hk _ _ ⟨tt, f, _, _, _, _, _, _, ⟨S.ht, S.ln, S.ow, fun i hi => by have := S.le i hi; omega⟩, rfl⟩
  rintro l r M6 k6 hl ⟨tt, f, x8, x9, x10, x11, S, rfl⟩ hk6
  have ht6 := S.ht
  rw [Int.zero_add]
  walk_at "y"
  refine i_ixL (atI_nat (hds l hl)) ?_
  walk_at "y"
  refine l__law_draw ht6 (by decide) (by decide) fun d1 g1 g2 => ?_
  refine i_name ?_
  dsimp only [st]
  refine i_seqP (fun r M' => M' = M6 ∧ ∃ fr : List Int, byteL fr ∧ fr.length ≤ 64 ∧ fr ≠ [] ∧ r = [some (.scr ns), some (.ref t), some (.int (L : Nat)), some (.ref a), some (.ref o), some (.int (s0 : Nat)), some (.int ((s0 : Int) + (j : Nat))), some (.lst ds), some (.int (l : Nat)), some (rowD fr), some (.int d1), x11, none]) ?_ ?_
  · rintro r M7 ⟨rfl, fr, hfb, hfl, hfn, rfl⟩
    walk_at "y"
    refine l__law_pick ht6 (by simp) (by show 8 < _; decide) fun d hd => ?_
    obtain ⟨kn, rfl, hkn⟩ : ∃ kn : Nat, d = .int (kn : Nat) ∧ kn ≤ 2 := by
      simp only [List.mem_cons, List.not_mem_nil, or_false] at hd
      rcases hd with e | e | e | e | e | e | e | e
      all_goals first | exact ⟨1, e, by decide⟩ | exact ⟨0, e, by decide⟩ | exact ⟨2, e, by decide⟩
    clear hd
    walk_at "y"
    rw [Int.toNat_natCast]
    refine zLoop_range (P := fun c r M' => ∃ (tt : Int) (f : LF) (x11 : Option D), S33 M' t a o w ws L tt f (8 * j + 2 * l + c) ∧ r = [some (.scr ns), some (.ref t), some (.int (L : Nat)), some (.ref a), some (.ref o), some (.int (s0 : Nat)), some (.int ((s0 : Int) + (j : Nat))), some (.lst ds), some (.int (l : Nat)), some (rowD fr), some (.int d1), x11, none]) ?_ ?_ ⟨tt, f, _, S, rfl⟩
    · rintro r M8 ⟨tt, f, x11, S, rfl⟩
      exact hk6 _ _ ⟨tt, f, _, _, _, _, ⟨S.ht, S.ln, S.ow, fun i hi => by have := S.le i hi; omega⟩, rfl⟩
    rintro c r M8 k8 hc ⟨tt, f, x11, S, rfl⟩ hk8
    have hme8 := S.ln.me
    walk_at "y"
    refine l_Lanes_come S.ln (by omega) (.inl rfl) hfb hfl hfn (fun i hi => by have := S.le i (by omega); omega) fun M9 es9 t9 f9 hr9 hl9 hk9 => ?_
    rw [hws] at hr9
    have how9 : OwAt M9 o w L tt f := ⟨(hk9 o hoa how (by rw [S.ow.me]; simp)).trans S.ow.me, (hk9 w hwa hww (by rw [S.ow.q]; simp)).trans S.ow.q, S.ow.ne, S.ow.hL, S.ow.t0, S.ow.t1, S.ow.ok, S.ow.sz⟩
    have ht9 : M9 t = some .town := (hk9 t hta htw (by rw [S.ht]; simp)).trans S.ht
    walk_at "y"
    refine l__law_come how9 h23 hl (.inl rfl) hfb hfl hfn (fun i hi => by have := S.le i (by omega); omega) fun M10 es10 t10 f10 hr10 ho10 hk10 => ?_
    obtain ⟨rfl, rfl, rfl⟩ := hr9.det hr10
    have hl10 : LnAt M10 a ws t9 f9 := ⟨(hk10 a (Ne.symm hoa) (Ne.symm hwa)).trans hl9.me, fun i x hx => (hk10 x (fun z => how (by rw [← z]; exact List.mem_of_getElem? hx)) (fun z => hww (by rw [← z]; exact List.mem_of_getElem? hx))).trans (hl9.q i x hx), hl9.inj, hl9.L, hl9.t0, hl9.t1, hl9.ok, hl9.sz⟩
    have ht10 : M10 t = some .town := (hk10 t (Ne.symm hot) (Ne.symm hwt)).trans ht9
    have hPl := hr9.pl
    refine i_neF (hPl.mono (by decide)) (hPl.mono (by decide)) (eqD_self hPl.p) ?_
    have hme10 := hl10.me
    have hmo10 := ho10.me
    have hmw10 := ho10.q
    walk_at "y"
    refine l_Lanes_due hl10 ?_
    walk_at "y"
    refine l_Lanes_held hl10 ?_
    walk_at "y"
    refine zLcL_mapC hmw10 (as := List.range L) (f := fun i : Nat => .lst (rowsD (f9 i))) (g := fun i : Nat => D.int ((f9 i).length : Nat)) (fun i hi Q hq => ?_) ?_
    · walk_at "y"
      rw [show (rowsD (f9 i)).length = (f9 i).length by unfold rowsD; rw [List.length_map]]
      exact hq
    rw [List.nil_append, hws]
    walk_at "y"
    have hPl2 : Pl 1 (.lst ((List.range L).map fun i : Nat => D.int ((f9 i).length : Nat))) := .lst fun x hx => by
      obtain ⟨k, _, rfl⟩ := List.mem_map.mp hx
      exact .int _ _
    refine i_neF (hPl2.mono (by decide)) (hPl2.mono (by decide)) (eqD_self hPl2.p) ?_
    walk_at "y"
    refine hk8 _ _ ⟨t9, f9, _, ⟨ht10, hl10, ho10, fun i hi => ?_⟩, rfl⟩
    have e1 := hr9.len i
    have e2 : (dropF tt (setF f l (f l ++ [fr])) i).length ≤ (setF f l (f l ++ [fr]) i).length := dropL_len
    have e3 := S.le i hi
    have e4 := S.le l hl
    have e5 : (setF f l (f l ++ [fr]) i).length ≤ 8 * j + 2 * l + c + 1 := by
      unfold setF
      split
      · rw [List.length_append]; simp only [List.length_cons, List.length_nil]; omega
      · omega
    omega
  · intro k7 hk7
    walk_at "y"
    refine i_bd (fun e => ?_) fun e => ?_
    · walk_at "y"
      refine l__law_pick ht6 (by simp) (by show 5 < _; decide) fun d hd => ?_
      obtain ⟨x, rfl, hx⟩ : ∃ x : Int, d = .int x ∧ 0 ≤ x := by
        simp only [List.mem_cons, List.not_mem_nil, or_false] at hd
        rcases hd with e | e | e | e | e
        all_goals exact ⟨_, e, by omega⟩
      clear hd
      walk_at "y"
      refine l__law_row (most := 3) ht6 (by decide) fun row2 hr2 hrl2 => ?_
      walk_at "y"
      refine hk7 _ _ ⟨rfl, [x % 256] ++ row2, fun y hy => ?_, by simp only [List.length_append, List.length_cons, List.length_nil]; omega, by simp, rfl⟩
      rcases List.mem_append.mp hy with hy | hy
      · rw [List.mem_singleton.mp hy]; omega
      · exact hr2 y hy
    · walk_at "y"
      refine hk7 _ _ ⟨rfl, _, fun y hy => ?_, ?_, by simp, rfl⟩
      · rcases List.mem_cons.mp hy with rfl | hy
        · omega
        · exact laneL_byte hL hr y hy
      · rw [List.length_cons, laneL_len]
        rcases h23 with e | e <;> subst e <;> omega

theorem repL_strs {K : PySem.W.Frag} {mg : Str → Option Value} {F : Fz} : ∀ (ns : List Str), ns.all (fun x => PyData.strOk x && decide (x.length ≤ sizeLine)) = true → RepL K mg F (ns.map V.str) (ns.map D.str)
  | [], _ => .nil
  | x :: r, h => by
    rw [List.all_cons, Bool.and_eq_true, Bool.and_eq_true] at h
    exact .cons (.str h.1.1 (of_decide_eq_true h.1.2)) (repL_strs r h.2)
def top (i : Nat) : Stmt := PySem.Challenge.pw_evenline_k33_whole_lanes_lose.main.body.getD i (.Pass ⟨0, 0, 0, 0⟩)
abbrev s_is_whole : Stmt := top 5
def N_is_whole : List Str := ["thing", "low", "high"]
def p_is_whole : List Str := ["thing", "low", "high"]
theorem sc_is_whole : FnScope N_is_whole p_is_whole (defScope s_is_whole) := ⟨rfl, rfl, rfl, by decide +kernel, rfl, by decide +kernel, by decide +kernel⟩
abbrev s_is_row : Stmt := top 8
def N_is_row : List Str := ["thing", "most", "byte"]
def p_is_row : List Str := ["thing", "most"]
theorem sc_is_row : FnScope N_is_row p_is_row (defScope s_is_row) := ⟨rfl, rfl, rfl, by decide +kernel, rfl, by decide +kernel, by decide +kernel⟩
abbrev s_look_row : Stmt := top 9
def N_look_row : List Str := ["row", "most"]
def p_look_row : List Str := ["row", "most"]
theorem sc_look_row : FnScope N_look_row p_look_row (defScope s_look_row) := ⟨rfl, rfl, rfl, by decide +kernel, rfl, by decide +kernel, by decide +kernel⟩
abbrev s_look_many : Stmt := top 13
def N_look_many : List Str := ["many"]
def p_look_many : List Str := ["many"]
theorem sc_look_many : FnScope N_look_many p_look_many (defScope s_look_many) := ⟨rfl, rfl, rfl, by decide +kernel, rfl, by decide +kernel, by decide +kernel⟩
abbrev s_dealt : Stmt := top 14
def N_dealt : List Str := ["row", "many", "turn", "lane"]
def p_dealt : List Str := ["row", "many", "turn"]
theorem sc_dealt : FnScope N_dealt p_dealt (defScope s_dealt) := ⟨rfl, rfl, rfl, by decide +kernel, rfl, by decide +kernel, by decide +kernel⟩
abbrev s_fits : Stmt := top 15
def N_fits : List Str := ["rows", "longs", "row"]
def p_fits : List Str := ["rows"]
theorem sc_fits : FnScope N_fits p_fits (defScope s_fits) := ⟨rfl, rfl, rfl, by decide +kernel, rfl, by decide +kernel, by decide +kernel⟩
abbrev s_gathered : Stmt := top 16
def N_gathered : List Str := ["rows", "many", "row", "k"]
def p_gathered : List Str := ["rows"]
theorem sc_gathered : FnScope N_gathered p_gathered (defScope s_gathered) := ⟨rfl, rfl, rfl, by decide +kernel, rfl, by decide +kernel, by decide +kernel⟩
abbrev s_Lanes___init__ : Stmt := inClass (top 17) 0
def N_Lanes___init__ : List Str := ["self", "many", "lane"]
def p_Lanes___init__ : List Str := ["self", "many"]
theorem sc_Lanes___init__ : FnScope N_Lanes___init__ p_Lanes___init__ (defScope s_Lanes___init__) := ⟨rfl, rfl, rfl, by decide +kernel, rfl, by decide +kernel, by decide +kernel⟩
abbrev s_Lanes_drop_late : Stmt := inClass (top 17) 2
def N_Lanes_drop_late : List Str := ["self", "waiting"]
def p_Lanes_drop_late : List Str := ["self"]
theorem sc_Lanes_drop_late : FnScope N_Lanes_drop_late p_Lanes_drop_late (defScope s_Lanes_drop_late) := ⟨rfl, rfl, rfl, by decide +kernel, rfl, by decide +kernel, by decide +kernel⟩
abbrev s_Lanes_one : Stmt := inClass (top 17) 3
def N_Lanes_one : List Str := ["self", "heads", "whole", "some", "waiting", "turn", "head"]
def p_Lanes_one : List Str := ["self"]
theorem sc_Lanes_one : FnScope N_Lanes_one p_Lanes_one (defScope s_Lanes_one) := ⟨rfl, rfl, rfl, by decide +kernel, rfl, by decide +kernel, by decide +kernel⟩
abbrev s_Lanes_due : Stmt := inClass (top 17) 4
def N_Lanes_due : List Str := ["self"]
def p_Lanes_due : List Str := ["self"]
theorem sc_Lanes_due : FnScope N_Lanes_due p_Lanes_due (defScope s_Lanes_due) := ⟨rfl, rfl, rfl, by decide +kernel, rfl, by decide +kernel, by decide +kernel⟩
abbrev s_Lanes_held : Stmt := inClass (top 17) 5
def N_Lanes_held : List Str := ["self", "waiting"]
def p_Lanes_held : List Str := ["self"]
theorem sc_Lanes_held : FnScope N_Lanes_held p_Lanes_held (defScope s_Lanes_held) := ⟨rfl, rfl, rfl, by decide +kernel, rfl, by decide +kernel, by decide +kernel⟩
abbrev s__law_town : Stmt := top 19
def N__law_town : List Str := ["script"]
def p__law_town : List Str := ["script"]
theorem sc__law_town : FnScope N__law_town p__law_town (defScope s__law_town) := ⟨rfl, rfl, rfl, by decide +kernel, rfl, by decide +kernel, by decide +kernel⟩
abbrev s__law_draw : Stmt := top 20
def N__law_draw : List Str := ["town", "many", "cells", "at", "cell", "mixed"]
def p__law_draw : List Str := ["town", "many"]
theorem sc__law_draw : FnScope N__law_draw p__law_draw (defScope s__law_draw) := ⟨rfl, rfl, rfl, by decide +kernel, rfl, by decide +kernel, by decide +kernel⟩
abbrev s__law_pick : Stmt := top 21
def N__law_pick : List Str := ["town", "some"]
def p__law_pick : List Str := ["town", "some"]
theorem sc__law_pick : FnScope N__law_pick p__law_pick (defScope s__law_pick) := ⟨rfl, rfl, rfl, by decide +kernel, rfl, by decide +kernel, by decide +kernel⟩
abbrev s__law_byte : Stmt := top 22
def N__law_byte : List Str := ["town", "kind"]
def p__law_byte : List Str := ["town"]
theorem sc__law_byte : FnScope N__law_byte p__law_byte (defScope s__law_byte) := ⟨rfl, rfl, rfl, by decide +kernel, rfl, by decide +kernel, by decide +kernel⟩
abbrev s__law_row : Stmt := top 23
def N__law_row : List Str := ["town", "most", "many", "k"]
def p__law_row : List Str := ["town", "most"]
theorem sc__law_row : FnScope N__law_row p__law_row (defScope s__law_row) := ⟨rfl, rfl, rfl, by decide +kernel, rfl, by decide +kernel, by decide +kernel⟩
abbrev s__law_late : Stmt := top 24
def N__law_late : List Str := ["own", "lane"]
def p__law_late : List Str := ["own"]
theorem sc__law_late : FnScope N__law_late p__law_late (defScope s__law_late) := ⟨rfl, rfl, rfl, by decide +kernel, rfl, by decide +kernel, by decide +kernel⟩
abbrev s__law_step : Stmt := top 25
def N__law_step : List Str := ["own", "heads", "good", "lane", "longs", "whole", "k", "row", "turn", "waits", "head"]
def p__law_step : List Str := ["own"]
theorem sc__law_step : FnScope N__law_step p__law_step (defScope s__law_step) := ⟨rfl, rfl, rfl, by decide +kernel, rfl, by decide +kernel, by decide +kernel⟩
abbrev s__law_come : Stmt := top 26
def N__law_come : List Str := ["own", "lane", "frame", "told", "waits"]
def p__law_come : List Str := ["own", "lane", "frame"]
theorem sc__law_come : FnScope N__law_come p__law_come (defScope s__law_come) := ⟨rfl, rfl, rfl, by decide +kernel, rfl, by decide +kernel, by decide +kernel⟩
abbrev s_Lanes_come : Stmt := inClass (top 17) 1
def N_Lanes_come : List Str := ["self", "lane", "frame", "told", "waiting"]
def p_Lanes_come : List Str := ["self", "lane", "frame"]
theorem sc_Lanes_come : FnScope N_Lanes_come p_Lanes_come (defScope s_Lanes_come) := ⟨rfl, rfl, rfl, by decide +kernel, rfl, by decide +kernel, by decide +kernel⟩
abbrev s_law : Stmt := top 27
def N_law : List Str := ["script", "town", "lanes", "some", "own", "start", "turn", "parts", "lane", "frame", "kind", "k", "waits"]
def p_law : List Str := ["script"]
theorem sc_law : FnScope N_law p_law (defScope s_law) := ⟨rfl, rfl, rfl, by decide +kernel, rfl, by decide +kernel, by decide +kernel⟩
structure Tx (K : PySem.W.Frag) (mg : Str → Option Value) where
  f_is_whole : Addr
  d_is_whole : FuncData
  F_is_whole : Fun K "is_whole" "is_whole" s_is_whole f_is_whole d_is_whole
  b_is_whole : Binds K d_is_whole p_is_whole []
  g_is_whole : mg "is_whole" = some (.ref f_is_whole)
  f_is_row : Addr
  d_is_row : FuncData
  F_is_row : Fun K "is_row" "is_row" s_is_row f_is_row d_is_row
  b_is_row : Binds K d_is_row p_is_row []
  g_is_row : mg "is_row" = some (.ref f_is_row)
  f_look_row : Addr
  d_look_row : FuncData
  F_look_row : Fun K "look_row" "look_row" s_look_row f_look_row d_look_row
  b_look_row : Binds K d_look_row p_look_row []
  g_look_row : mg "look_row" = some (.ref f_look_row)
  f_look_many : Addr
  d_look_many : FuncData
  F_look_many : Fun K "look_many" "look_many" s_look_many f_look_many d_look_many
  b_look_many : Binds K d_look_many p_look_many []
  g_look_many : mg "look_many" = some (.ref f_look_many)
  f_dealt : Addr
  d_dealt : FuncData
  F_dealt : Fun K "dealt" "dealt" s_dealt f_dealt d_dealt
  b_dealt : Binds K d_dealt p_dealt []
  g_dealt : mg "dealt" = some (.ref f_dealt)
  f_fits : Addr
  d_fits : FuncData
  F_fits : Fun K "fits" "fits" s_fits f_fits d_fits
  b_fits : Binds K d_fits p_fits []
  g_fits : mg "fits" = some (.ref f_fits)
  f_gathered : Addr
  d_gathered : FuncData
  F_gathered : Fun K "gathered" "gathered" s_gathered f_gathered d_gathered
  b_gathered : Binds K d_gathered p_gathered []
  g_gathered : mg "gathered" = some (.ref f_gathered)
  f_Lanes___init__ : Addr
  d_Lanes___init__ : FuncData
  F_Lanes___init__ : Fun K "__init__" "Lanes.__init__" s_Lanes___init__ f_Lanes___init__ d_Lanes___init__
  b_Lanes___init__ : Binds K d_Lanes___init__ p_Lanes___init__ []
  f_Lanes_drop_late : Addr
  d_Lanes_drop_late : FuncData
  F_Lanes_drop_late : Fun K "drop_late" "Lanes.drop_late" s_Lanes_drop_late f_Lanes_drop_late d_Lanes_drop_late
  b_Lanes_drop_late : Binds K d_Lanes_drop_late p_Lanes_drop_late []
  f_Lanes_one : Addr
  d_Lanes_one : FuncData
  F_Lanes_one : Fun K "one" "Lanes.one" s_Lanes_one f_Lanes_one d_Lanes_one
  b_Lanes_one : Binds K d_Lanes_one p_Lanes_one []
  f_Lanes_due : Addr
  d_Lanes_due : FuncData
  F_Lanes_due : Fun K "due" "Lanes.due" s_Lanes_due f_Lanes_due d_Lanes_due
  b_Lanes_due : Binds K d_Lanes_due p_Lanes_due []
  f_Lanes_held : Addr
  d_Lanes_held : FuncData
  F_Lanes_held : Fun K "held" "Lanes.held" s_Lanes_held f_Lanes_held d_Lanes_held
  b_Lanes_held : Binds K d_Lanes_held p_Lanes_held []
  f__law_town : Addr
  d__law_town : FuncData
  F__law_town : Fun K "_law_town" "_law_town" s__law_town f__law_town d__law_town
  b__law_town : Binds K d__law_town p__law_town []
  g__law_town : mg "_law_town" = some (.ref f__law_town)
  f__law_draw : Addr
  d__law_draw : FuncData
  F__law_draw : Fun K "_law_draw" "_law_draw" s__law_draw f__law_draw d__law_draw
  b__law_draw : Binds K d__law_draw p__law_draw []
  g__law_draw : mg "_law_draw" = some (.ref f__law_draw)
  f__law_pick : Addr
  d__law_pick : FuncData
  F__law_pick : Fun K "_law_pick" "_law_pick" s__law_pick f__law_pick d__law_pick
  b__law_pick : Binds K d__law_pick p__law_pick []
  g__law_pick : mg "_law_pick" = some (.ref f__law_pick)
  f__law_byte : Addr
  d__law_byte : FuncData
  F__law_byte : Fun K "_law_byte" "_law_byte" s__law_byte f__law_byte d__law_byte
  b__law_byte : Binds K d__law_byte p__law_byte []
  g__law_byte : mg "_law_byte" = some (.ref f__law_byte)
  f__law_row : Addr
  d__law_row : FuncData
  F__law_row : Fun K "_law_row" "_law_row" s__law_row f__law_row d__law_row
  b__law_row : Binds K d__law_row p__law_row []
  g__law_row : mg "_law_row" = some (.ref f__law_row)
  f__law_late : Addr
  d__law_late : FuncData
  F__law_late : Fun K "_law_late" "_law_late" s__law_late f__law_late d__law_late
  b__law_late : Binds K d__law_late p__law_late []
  g__law_late : mg "_law_late" = some (.ref f__law_late)
  f__law_step : Addr
  d__law_step : FuncData
  F__law_step : Fun K "_law_step" "_law_step" s__law_step f__law_step d__law_step
  b__law_step : Binds K d__law_step p__law_step []
  g__law_step : mg "_law_step" = some (.ref f__law_step)
  f__law_come : Addr
  d__law_come : FuncData
  F__law_come : Fun K "_law_come" "_law_come" s__law_come f__law_come d__law_come
  b__law_come : Binds K d__law_come p__law_come []
  g__law_come : mg "_law_come" = some (.ref f__law_come)
  f_Lanes_come : Addr
  d_Lanes_come : FuncData
  F_Lanes_come : Fun K "come" "Lanes.come" s_Lanes_come f_Lanes_come d_Lanes_come
  b_Lanes_come : Binds K d_Lanes_come p_Lanes_come []
  f_law : Addr
  d_law : FuncData
  F_law : Fun K "law" "law" s_law f_law d_law
  b_law : Binds K d_law p_law []
  g_law : mg "law" = some (.ref f_law)
  g_LATE : (t : Tok) ×' mg "LATE" = some (.int 128 t)
  g_MOST_ROW : (t : Tok) ×' mg "MOST_ROW" = some (.int 64 t)
  g_TURNS : (t : Tok) ×' mg "TURNS" = some (.int 256 t)
  n_all : mg "all" = none
  n_bool : mg "bool" = none
  n_int : mg "int" = none
  n_isinstance : mg "isinstance" = none
  n_len : mg "len" = none
  n_list : mg "list" = none
  n_min : mg "min" = none
  n_range : mg "range" = none
  n_sorted : mg "sorted" = none
  n_sum : mg "sum" = none
  c_BadLane : Addr
  g_BadLane : mg "BadLane" = some (.ref c_BadLane)
  x_BadLane : PySem.W.excIn K c_BadLane [.type "ValueError", .type "Exception", .type "BaseException", .type "object"] "ValueError.__new__" = true
  k_BadLane : PySem.W.keepIn K (.ref c_BadLane) = true
  b_BadLane : PySem.W.subIn K (.ref c_BadLane) (.type "BaseException") = some true
  t_BadLane : PySem.W.typeIn K (.ref c_BadLane) = some (.type "type")
  c_BadRow : Addr
  g_BadRow : mg "BadRow" = some (.ref c_BadRow)
  x_BadRow : PySem.W.excIn K c_BadRow [.type "ValueError", .type "Exception", .type "BaseException", .type "object"] "ValueError.__new__" = true
  k_BadRow : PySem.W.keepIn K (.ref c_BadRow) = true
  b_BadRow : PySem.W.subIn K (.ref c_BadRow) (.type "BaseException") = some true
  t_BadRow : PySem.W.typeIn K (.ref c_BadRow) = some (.type "type")
  c_Lanes : Addr
  g_Lanes : mg "Lanes" = some (.ref c_Lanes)
  l_Lanes : Cls K c_Lanes
  a_Lanes : naB K c_Lanes ["rows", "turn"] = true
  k_Lanes : Mk K c_Lanes f_Lanes___init__
  m_Lanes_drop_late : Meth K c_Lanes "drop_late" f_Lanes_drop_late
  m_Lanes_one : Meth K c_Lanes "one" f_Lanes_one
  m_Lanes_due : Meth K c_Lanes "due" f_Lanes_due
  m_Lanes_held : Meth K c_Lanes "held" f_Lanes_held
  m_Lanes_come : Meth K c_Lanes "come" f_Lanes_come
section
variable {P : Program} {w : World} {K : PySem.W.Frag} {mg : Str → Option Value} {base : Heap}
theorem Tx.r_BadLane (T : Tx K mg) {X : Cx} (hK : X.K = K := by rfl) : Raises X (.ref T.c_BadLane) := raises_own (by rw [hK]; exact T.b_BadLane) (by rw [hK]; exact T.t_BadLane)
theorem Tx.r_BadRow (T : Tx K mg) {X : Cx} (hK : X.K = K := by rfl) : Raises X (.ref T.c_BadRow) := raises_own (by rw [hK]; exact T.b_BadRow) (by rw [hK]; exact T.t_BadRow)
theorem ok_is_whole (T : Tx K mg) : FnOk P w K mg base (L2.CX P w) 1 T.f_is_whole T.d_is_whole p_is_whole (liftSp K mg z_is_whole) :=
  z_ok false (k := 0) (zb := zb_is_whole) T.F_is_whole sc_is_whole (n := 0) rfl (fun ds M R RE h => by
    unfold z_is_whole at h
    split at h
    · exact ⟨rfl, h⟩
    · exact h.elim)
  fun cdv A outer s H E F0 zE hr wk => (zss_one (zs_ret (ze_and (ze_isi (T := "int") (ze_var 0) T.n_isinstance T.n_int (by decide +kernel)) (ze_and (ze_not (ze_isi (T := "bool") (ze_var 0) T.n_isinstance T.n_bool (by decide +kernel))) (ze_one (ze_chain op_le (sndB0 (g := pLe)) op_le (sndB0 (g := pLe)) (ze_var 1) (ze_var 0) (ze_var 2)))))))
theorem ok_is_row (T : Tx K mg) : FnOk P w K mg base (L2.CX P w) 2 T.f_is_row T.d_is_row p_is_row (liftSp K mg z_is_row) :=
  z_ok false (k := 1) (zb := zb_is_row) T.F_is_row sc_is_row (n := 1) rfl (fun ds M R RE h => by
    unfold z_is_row at h
    split at h
    · exact ⟨rfl, h⟩
    · exact h.elim)
  fun cdv A outer s H E F0 zE hr wk => (zss_cons (zs_if (zt_w (zw_or (zt_not (zt_val (ze_isi (T := "list") (ze_var 0) T.n_isinstance T.n_list (by decide +kernel)))) (zw_or1 (zt_cmp op_gt (sndB0 (g := pGt)) (ze_cb call_len snd_len T.n_len (by decide +kernel) (za_cons (ze_var 0) za_nil)) (ze_var 1) (by first | exact nobehind _ (by decide) (by decide) | rfl))))) (zss_one (zs_ret ze_bl))
  zss_nil)
  (zss_one (zs_ret (ze_cb (cr_all rfl) snd_all T.n_all (by decide +kernel) (za_cons (ze_lc (own := [("byte", 2)]) false rfl sc_is_row.nd (zi_list (ze_var 0)) (blkOk_by (N := N_is_row) (sc := defScope s_is_row) (by decide +kernel)) (tg_name (by decide)) (fun _ _ _ _ _ => (pg_name (i := 2) sc_is_row.nd rfl (by first | exact Or.inl rfl | exact Or.inr rfl))) (fun _ _ _ _ _ => zts_nil) (fun _ _ _ _ _ => (ze_call (ok_is_whole T) (hr.mono (by decide)) T.g_is_whole T.F_is_whole.kp T.b_is_whole takes0 wok0 (za_cons (ze_var 2) (za_cons ze_int (za_cons ze_int za_nil)))))) za_nil)))))
theorem ok_look_row (T : Tx K mg) : FnOk P w K mg base (L2.CX P w) 3 T.f_look_row T.d_look_row p_look_row (liftSp K mg z_look_row) :=
  z_ok false (k := 2) (zb := zb_look_row) T.F_look_row sc_look_row (n := 0) rfl (fun ds M R RE h => by
    unfold z_look_row at h
    split at h
    · exact ⟨rfl, h⟩
    · exact h.elim)
  fun cdv A outer s H E F0 zE hr wk => (zss_one (zs_if (zt_not (zt_val (ze_call (ok_is_row T) (hr.mono (by decide)) T.g_is_row T.F_is_row.kp T.b_is_row (takes_of rfl rfl rfl rfl) wk (za_cons (ze_var 0) (za_cons (ze_var 1) za_nil))))) (zss_one (zs_raise rfl (takes_of rfl rfl rfl rfl) wk PySem.F.excBase_ValueError T.x_BadRow T.g_BadRow T.k_BadRow T.r_BadRow))
  zss_nil))
theorem ok_look_many (T : Tx K mg) : FnOk P w K mg base (L2.CX P w) 2 T.f_look_many T.d_look_many p_look_many (liftSp K mg z_look_many) :=
  z_ok false (k := 1) (zb := zb_look_many) T.F_look_many sc_look_many (n := 0) rfl (fun ds M R RE h => by
    unfold z_look_many at h
    split at h
    · exact ⟨rfl, h⟩
    · exact h.elim)
  fun cdv A outer s H E F0 zE hr wk => (zss_one (zs_if (zt_not (zt_val (ze_call (ok_is_whole T) (hr.mono (by decide)) T.g_is_whole T.F_is_whole.kp T.b_is_whole (takes_of rfl rfl rfl rfl) wk (za_cons (ze_var 0) (za_cons ze_int (za_cons ze_int za_nil)))))) (zss_one (zs_raise rfl (takes_of rfl rfl rfl rfl) wk PySem.F.excBase_ValueError T.x_BadLane T.g_BadLane T.k_BadLane T.r_BadLane))
  zss_nil))
theorem ok_dealt (T : Tx K mg) : FnOk P w K mg base (L2.CX P w) 4 T.f_dealt T.d_dealt p_dealt (liftSp K mg z_dealt) :=
  z_ok true (k := 3) (zb := zb_dealt) T.F_dealt sc_dealt (n := 1) rfl (fun ds M R RE h => by
    unfold z_dealt at h
    split at h
    · exact ⟨rfl, h⟩
    · exact h.elim)
  fun cdv A outer s H E F0 zE hr wk => (zss_cons (zs_expr (ze_call (ok_look_many T) (hr.mono (by decide)) T.g_look_many T.F_look_many.kp T.b_look_many (takes_of rfl rfl rfl rfl) wk (za_cons (ze_var 1) za_nil)))
  (zss_cons (zs_expr (ze_call (ok_look_row T) (hr.mono (by decide)) T.g_look_row T.F_look_row.kp T.b_look_row (takes_of rfl rfl rfl rfl) wk (za_cons (ze_var 0) (za_cons (ze_mul false (ze_sub (ze_glob (v := .int 64) rfl T.g_MOST_ROW.2 ⟨_, rfl⟩ (fun _ => .int _)) ze_int) (ze_var 1)) za_nil))))
  (zss_cons (zs_if (zt_not (zt_val (ze_call (ok_is_whole T) (hr.mono (by decide)) T.g_is_whole T.F_is_whole.kp T.b_is_whole (takes_of rfl rfl rfl rfl) wk (za_cons (ze_var 2) (za_cons ze_int (za_cons (ze_sub (ze_glob (v := .int 256) rfl T.g_TURNS.2 ⟨_, rfl⟩ (fun _ => .int _)) ze_int) za_nil)))))) (zss_one (zs_raise rfl (takes_of rfl rfl rfl rfl) wk PySem.F.excBase_ValueError T.x_BadRow T.g_BadRow T.k_BadRow T.r_BadRow))
  zss_nil)
  (zss_one (zs_ret (ze_lc (own := [("lane", 3)]) true rfl sc_dealt.nd (zi_range1 T.n_range (za_cons (ze_var 1) za_nil)) (blkOk_by (N := N_dealt) (sc := defScope s_dealt) (by decide +kernel)) (tg_name (by decide)) (fun _ _ _ _ _ => (pg_name (i := 3) sc_dealt.nd rfl (by first | exact Or.inl rfl | exact Or.inr rfl))) (fun _ _ _ _ _ => zts_nil) (fun _ _ _ _ _ => (ze_any (ze_add false (ze_lst false (za_cons (ze_var 2) za_nil)) (ze_slS false (ze_var 0) (zo_some (ze_var 3)) zo_none (zo_some (ze_var 1)))) (ze_add true (ze_lst false (za_cons (ze_var 2) za_nil)) (ze_slS false (ze_var 0) (zo_some (ze_var 3)) zo_none (zo_some (ze_var 1))))))))))))
theorem ok_fits (T : Tx K mg) : FnOk P w K mg base (L2.CX P w) 1 T.f_fits T.d_fits p_fits (liftSp K mg z_fits) :=
  z_ok false (k := 0) (zb := zb_fits) T.F_fits sc_fits (n := 2) rfl (fun ds M R RE h => by
    unfold z_fits at h
    split at h
    · exact ⟨rfl, h⟩
    · exact h.elim)
  fun cdv A outer s H E F0 zE hr wk => (zss_cons (zs_setLc (own := [("row", 2)]) (i := 1) false rfl sc_fits.nd (sw_true rfl rfl rfl (by decide +kernel)) (zi_list (ze_var 0)) (blkOk_by (N := N_fits) (sc := defScope s_fits) (by decide +kernel)) (tg_name (by decide)) (fun _ _ _ _ _ => (pg_name (i := 2) sc_fits.nd rfl (by first | exact Or.inl rfl | exact Or.inr rfl))) (fun _ _ _ _ _ => zts_nil) (fun _ _ _ _ _ => (ze_cb call_len snd_len T.n_len (by decide +kernel) (za_cons (ze_var 2) za_nil))))
  (zss_one (zs_ret (ze_and (ze_cmp (op_eqZ hr.units) snd_eq (ze_var 1) (ze_sortedR false T.n_sorted (by decide +kernel) (za_cons (ze_var 1) za_nil)) (by first | exact nobehind _ (by decide) (by decide) | rfl)) (ze_one (ze_cmp op_lt (sndB0 (g := pLt)) (ze_sub (ze_ix (ze_var 1) ze_int (fun _ _ => rfl)) (ze_ix (ze_var 1) (ze_neg ze_int) (fun _ _ => rfl))) ze_int (by first | exact nobehind _ (by decide) (by decide) | rfl)))))))
theorem ok_gathered (T : Tx K mg) : FnOk P w K mg base (L2.CX P w) 3 T.f_gathered T.d_gathered p_gathered (liftSp K mg z_gathered) :=
  z_ok false (k := 2) (zb := zb_gathered) T.F_gathered sc_gathered (n := 3) rfl (fun ds M R RE h => by
    unfold z_gathered at h
    split at h
    · exact ⟨rfl, h⟩
    · exact h.elim)
  fun cdv A outer s H E F0 zE hr wk => (zss_cons (zs_if (zt_w (zw_or (zt_not (zt_val (ze_isi (T := "list") (ze_var 0) T.n_isinstance T.n_list (by decide +kernel)))) (zw_or1 (zt_not (zt_chain op_le (sndB0 (g := pLe)) op_le (sndB0 (g := pLe)) ze_int (ze_cb call_len snd_len T.n_len (by decide +kernel) (za_cons (ze_var 0) za_nil)) ze_int))))) (zss_one (zs_raise rfl (takes_of rfl rfl rfl rfl) wk PySem.F.excBase_ValueError T.x_BadLane T.g_BadLane T.k_BadLane T.r_BadLane))
  zss_nil)
  (zss_cons (zs_if (zt_not (zt_val (ze_cb (cr_all rfl) snd_all T.n_all (by decide +kernel) (za_cons (ze_lc (own := [("row", 2)]) false rfl sc_gathered.nd (zi_list (ze_var 0)) (blkOk_by (N := N_gathered) (sc := defScope s_gathered) (by decide +kernel)) (tg_name (by decide)) (fun _ _ _ _ _ => (pg_name (i := 2) sc_gathered.nd rfl (by first | exact Or.inl rfl | exact Or.inr rfl))) (fun _ _ _ _ _ => zts_nil) (fun _ _ _ _ _ => (ze_and (ze_call (ok_is_row T) (hr.mono (by decide)) T.g_is_row T.F_is_row.kp T.b_is_row takes0 wok0 (za_cons (ze_var 2) (za_cons (ze_glob (v := .int 64) rfl T.g_MOST_ROW.2 ⟨_, rfl⟩ (fun _ => .int _)) za_nil))) (ze_one (ze_cmp (op_neZ hr.units) snd_ne (ze_var 2) (ze_lst false za_nil) (by first | exact nobehind _ (by decide) (by decide) | rfl)))))) za_nil)))) (zss_one (zs_raise rfl (takes_of rfl rfl rfl rfl) wk PySem.F.excBase_ValueError T.x_BadRow T.g_BadRow T.k_BadRow T.r_BadRow))
  zss_nil)
  (zss_cons (zs_if (zt_w (zw_or (zt_not (zt_val (ze_call (ok_fits T) (hr.mono (by decide)) T.g_fits T.F_fits.kp T.b_fits (takes_of rfl rfl rfl rfl) wk (za_cons (ze_var 0) za_nil)))) (zw_or1 (zt_not (zt_val (ze_cb (cr_all rfl) snd_all T.n_all (by decide +kernel) (za_cons (ze_lc (own := [("row", 2)]) false rfl sc_gathered.nd (zi_list (ze_var 0)) (blkOk_by (N := N_gathered) (sc := defScope s_gathered) (by decide +kernel)) (tg_name (by decide)) (fun _ _ _ _ _ => (pg_name (i := 2) sc_gathered.nd rfl (by first | exact Or.inl rfl | exact Or.inr rfl))) (fun _ _ _ _ _ => zts_nil) (fun _ _ _ _ _ => (ze_cmp (op_eqZ hr.units) snd_eq (ze_ix (ze_var 2) ze_int (fun _ _ => rfl)) (ze_ix (ze_ix (ze_var 0) ze_int (fun _ _ => rfl)) ze_int (fun _ _ => rfl)) (by first | exact nobehind _ (by decide) (by decide) | rfl)))) za_nil))))))) (zss_one (zs_raise rfl (takes_of rfl rfl rfl rfl) wk PySem.F.excBase_ValueError T.x_BadLane T.g_BadLane T.k_BadLane T.r_BadLane))
  zss_nil)
  (zss_cons (zs_set (i := 1) sc_gathered.nd (ze_cb (cr_sum rfl) snd_sum T.n_sum (by decide +kernel) (za_cons (ze_lc (own := [("row", 2)]) false rfl sc_gathered.nd (zi_list (ze_var 0)) (blkOk_by (N := N_gathered) (sc := defScope s_gathered) (by decide +kernel)) (tg_name (by decide)) (fun _ _ _ _ _ => (pg_name (i := 2) sc_gathered.nd rfl (by first | exact Or.inl rfl | exact Or.inr rfl))) (fun _ _ _ _ _ => zts_nil) (fun _ _ _ _ _ => (ze_sub (ze_cb call_len snd_len T.n_len (by decide +kernel) (za_cons (ze_var 2) za_nil)) ze_int))) za_nil)))
  (zss_one (zs_ret (ze_tup (za_cons (ze_ix (ze_ix (ze_var 0) ze_int (fun _ _ => rfl)) ze_int (fun _ _ => rfl)) (za_cons (ze_any (ze_lc (own := [("k", 3)]) false rfl sc_gathered.nd (zi_range1 T.n_range (za_cons (ze_var 1) za_nil)) (blkOk_by (N := N_gathered) (sc := defScope s_gathered) (by decide +kernel)) (tg_name (by decide)) (fun _ _ _ _ _ => (pg_name (i := 3) sc_gathered.nd rfl (by first | exact Or.inl rfl | exact Or.inr rfl))) (fun _ _ _ _ _ => zts_nil) (fun _ _ _ _ _ => (ze_ix (ze_ix (ze_var 0) (ze_mod (ze_var 3) (ze_cb call_len snd_len T.n_len (by decide +kernel) (za_cons (ze_var 0) za_nil))) (fun _ _ => rfl)) (ze_add false ze_int (ze_div (ze_var 3) (ze_cb call_len snd_len T.n_len (by decide +kernel) (za_cons (ze_var 0) za_nil)))) (fun _ _ => rfl)))) (ze_lc (own := [("k", 3)]) true rfl sc_gathered.nd (zi_range1 T.n_range (za_cons (ze_var 1) za_nil)) (blkOk_by (N := N_gathered) (sc := defScope s_gathered) (by decide +kernel)) (tg_name (by decide)) (fun _ _ _ _ _ => (pg_name (i := 3) sc_gathered.nd rfl (by first | exact Or.inl rfl | exact Or.inr rfl))) (fun _ _ _ _ _ => zts_nil) (fun _ _ _ _ _ => (ze_ix (ze_ix (ze_var 0) (ze_mod (ze_var 3) (ze_cb call_len snd_len T.n_len (by decide +kernel) (za_cons (ze_var 0) za_nil))) (fun _ _ => rfl)) (ze_add false ze_int (ze_div (ze_var 3) (ze_cb call_len snd_len T.n_len (by decide +kernel) (za_cons (ze_var 0) za_nil)))) (fun _ _ => rfl))))) za_nil)))))))))
theorem ok_Lanes___init__ (T : Tx K mg) : FnOk P w K mg base (L2.CX P w) 3 T.f_Lanes___init__ T.d_Lanes___init__ p_Lanes___init__ (liftSp K mg z_Lanes___init__) :=
  z_ok false (k := 2) (zb := zb_Lanes___init__) T.F_Lanes___init__ sc_Lanes___init__ (n := 1) rfl (fun ds M R RE h => by
    unfold z_Lanes___init__ at h
    split at h
    · exact ⟨rfl, h⟩
    · exact h.elim)
  fun cdv A outer s H E F0 zE hr wk => (zss_cons (zs_expr (ze_call (ok_look_many T) (hr.mono (by decide)) T.g_look_many T.F_look_many.kp T.b_look_many (takes_of rfl rfl rfl rfl) wk (za_cons (ze_var 1) za_nil)))
  (zss_cons (zs_setA T.g_Lanes T.l_Lanes (naB_ok T.a_Lanes (by decide +kernel)) (ze_var 0) (ze_lc (own := [("lane", 2)]) false rfl sc_Lanes___init__.nd (zi_range1 T.n_range (za_cons (ze_var 1) za_nil)) (blkOk_by (N := N_Lanes___init__) (sc := defScope s_Lanes___init__) (by decide +kernel)) (tg_name (by decide)) (fun _ _ _ _ _ => (pg_name (i := 2) sc_Lanes___init__.nd rfl (by first | exact Or.inl rfl | exact Or.inr rfl))) (fun _ _ _ _ _ => zts_nil) (fun _ _ _ _ _ => (ze_lst true za_nil))))
  (zss_one (zs_setA T.g_Lanes T.l_Lanes (naB_ok T.a_Lanes (by decide +kernel)) (ze_var 0) ze_int))))
theorem ok_Lanes_drop_late (T : Tx K mg) : FnOk P w K mg base (L2.CX P w) 1 T.f_Lanes_drop_late T.d_Lanes_drop_late p_Lanes_drop_late (liftSp K mg z_Lanes_drop_late) :=
  z_ok true (k := 0) (zb := zb_Lanes_drop_late) T.F_Lanes_drop_late sc_Lanes_drop_late (n := 1) rfl (fun ds M R RE h => by
    unfold z_Lanes_drop_late at h
    split at h
    · exact ⟨rfl, h⟩
    · exact h.elim)
  fun cdv A outer s H E F0 zE hr wk => (zss_one (zs_for (passes_of rfl) rfl (zi_list (ze_fld T.g_Lanes T.l_Lanes (naB_ok T.a_Lanes (by decide +kernel)) (ze_var 0))) (zg_name (i := 1) sc_Lanes_drop_late.nd) (zss_one (zs_while (passes_of rfl) (zt_w (zw_and (zt_cmp (op_neZ hr.units) snd_ne (ze_var 1) (ze_lst false za_nil) (by first | exact nobehind _ (by decide) (by decide) | rfl)) (zw_and1 (zt_cmp op_ge (sndB0 (g := pGe)) (ze_mod (ze_sub (ze_ix (ze_ix (ze_var 1) ze_int (fun _ _ => rfl)) ze_int (fun _ _ => rfl)) (ze_fld T.g_Lanes T.l_Lanes (naB_ok T.a_Lanes (by decide +kernel)) (ze_var 0))) (ze_glob (v := .int 256) rfl T.g_TURNS.2 ⟨_, rfl⟩ (fun _ => .int _))) (ze_glob (v := .int 128) rfl T.g_LATE.2 ⟨_, rfl⟩ (fun _ => .int _)) (by first | exact nobehind _ (by decide) (by decide) | rfl))))) (zss_one (zs_expr (ze_mL PySem.F.plainAttrs_list PySem.F.slot_list_pop PySem.F.type_list_pop mt_popAt snd_popAt (ze_var 1) (za_cons ze_int za_nil))))))))
theorem ok_Lanes_one (T : Tx K mg) : FnOk P w K mg base (L2.CX P w) 4 T.f_Lanes_one T.d_Lanes_one p_Lanes_one (liftSp K mg z_Lanes_one) :=
  z_ok true (k := 3) (zb := zb_Lanes_one) T.F_Lanes_one sc_Lanes_one (n := 6) rfl (fun ds M R RE h => by
    unfold z_Lanes_one at h
    split at h
    · exact ⟨rfl, h⟩
    · exact h.elim)
  fun cdv A outer s H E F0 zE hr wk => (zss_cons (zs_setLc (own := [("waiting", 4)]) (i := 1) false rfl sc_Lanes_one.nd (sw_true rfl rfl rfl (by decide +kernel)) (zi_list (ze_fld T.g_Lanes T.l_Lanes (naB_ok T.a_Lanes (by decide +kernel)) (ze_var 0))) (blkOk_by (N := N_Lanes_one) (sc := defScope s_Lanes_one) (by decide +kernel)) (tg_name (by decide)) (fun _ _ _ _ _ => (pg_name (i := 4) sc_Lanes_one.nd rfl (by first | exact Or.inl rfl | exact Or.inr rfl))) (fun _ _ _ _ _ => zts_nil) (fun _ _ _ _ _ => (ze_ix (ze_var 4) ze_int (fun _ _ => rfl))))
  (zss_cons (zs_set (i := 2) sc_Lanes_one.nd (ze_and (ze_cb (cr_all rfl) snd_all T.n_all (by decide +kernel) (za_cons (ze_lc (own := [("head", 6)]) false rfl sc_Lanes_one.nd (zi_list (ze_var 1)) (blkOk_by (N := N_Lanes_one) (sc := defScope s_Lanes_one) (by decide +kernel)) (tg_name (by decide)) (fun _ _ _ _ _ => (pg_name (i := 6) sc_Lanes_one.nd rfl (by first | exact Or.inl rfl | exact Or.inr rfl))) (fun _ _ _ _ _ => zts_nil) (fun _ _ _ _ _ => (ze_cmp (op_eqZ hr.units) snd_eq (ze_ix (ze_var 6) ze_int (fun _ _ => rfl)) (ze_fld T.g_Lanes T.l_Lanes (naB_ok T.a_Lanes (by decide +kernel)) (ze_var 0)) (by first | exact nobehind _ (by decide) (by decide) | rfl)))) za_nil)) (ze_one (ze_call (ok_fits T) (hr.mono (by decide)) T.g_fits T.F_fits.kp T.b_fits (takes_of rfl rfl rfl rfl) wk (za_cons (ze_var 1) za_nil)))))
  (zss_cons (zs_set (i := 3) sc_Lanes_one.nd (ze_lst true za_nil))
  (zss_cons (zs_for (passes_of rfl) rfl (zi_list (ze_fld T.g_Lanes T.l_Lanes (naB_ok T.a_Lanes (by decide +kernel)) (ze_var 0))) (zg_name (i := 4) sc_Lanes_one.nd) (zss_one (zs_if (zt_cmp (op_eqZ hr.units) snd_eq (ze_ix (ze_ix (ze_var 4) ze_int (fun _ _ => rfl)) ze_int (fun _ _ => rfl)) (ze_fld T.g_Lanes T.l_Lanes (naB_ok T.a_Lanes (by decide +kernel)) (ze_var 0)) (by first | exact nobehind _ (by decide) (by decide) | rfl)) (zss_one (zs_expr (ze_mL PySem.F.plainAttrs_list PySem.F.slot_list_append PySem.F.type_list_append mt_append snd_app (ze_var 3) (za_cons (ze_mL PySem.F.plainAttrs_list PySem.F.slot_list_pop PySem.F.type_list_pop mt_popAt snd_popAt (ze_var 4) (za_cons ze_int za_nil)) za_nil))))
  zss_nil)))
  (zss_cons (zs_gh (zs_set (i := 5) sc_Lanes_one.nd (ze_fld T.g_Lanes T.l_Lanes (naB_ok T.a_Lanes (by decide +kernel)) (ze_var 0))))
  (zss_cons (zs_setA T.g_Lanes T.l_Lanes (naB_ok T.a_Lanes (by decide +kernel)) (ze_var 0) (ze_mod (ze_add false (ze_var 5) ze_int) (ze_glob (v := .int 256) rfl T.g_TURNS.2 ⟨_, rfl⟩ (fun _ => .int _))))
  (zss_one (zs_ret (ze_if (zt_val (ze_var 2)) (ze_lst true (za_cons (ze_tup (za_cons ze_str (za_cons (ze_var 5) (za_cons (ze_ix (ze_call (ok_gathered T) (hr.mono (by decide)) T.g_gathered T.F_gathered.kp T.b_gathered (takes_of rfl rfl rfl rfl) wk (za_cons (ze_var 3) za_nil)) ze_int (fun _ _ => rfl)) za_nil)))) za_nil)) (ze_lst true (za_cons (ze_tup (za_cons ze_str (za_cons (ze_var 5) (za_cons (ze_lst false za_nil) za_nil)))) za_nil)))))))))))
theorem ok_Lanes_due (T : Tx K mg) : FnOk P w K mg base (L2.CX P w) 1 T.f_Lanes_due T.d_Lanes_due p_Lanes_due (liftSp K mg z_Lanes_due) :=
  z_ok false (k := 0) (zb := zb_Lanes_due) T.F_Lanes_due sc_Lanes_due (n := 0) rfl (fun ds M R RE h => by
    unfold z_Lanes_due at h
    split at h
    · exact ⟨rfl, h⟩
    · exact h.elim)
  fun cdv A outer s H E F0 zE hr wk => (zss_one (zs_ret (ze_fld T.g_Lanes T.l_Lanes (naB_ok T.a_Lanes (by decide +kernel)) (ze_var 0))))
theorem ok_Lanes_held (T : Tx K mg) : FnOk P w K mg base (L2.CX P w) 1 T.f_Lanes_held T.d_Lanes_held p_Lanes_held (liftSp K mg z_Lanes_held) :=
  z_ok true (k := 0) (zb := zb_Lanes_held) T.F_Lanes_held sc_Lanes_held (n := 1) rfl (fun ds M R RE h => by
    unfold z_Lanes_held at h
    split at h
    · exact ⟨rfl, h⟩
    · exact h.elim)
  fun cdv A outer s H E F0 zE hr wk => (zss_one (zs_ret (ze_lc (own := [("waiting", 1)]) true rfl sc_Lanes_held.nd (zi_list (ze_fld T.g_Lanes T.l_Lanes (naB_ok T.a_Lanes (by decide +kernel)) (ze_var 0))) (blkOk_by (N := N_Lanes_held) (sc := defScope s_Lanes_held) (by decide +kernel)) (tg_name (by decide)) (fun _ _ _ _ _ => (pg_name (i := 1) sc_Lanes_held.nd rfl (by first | exact Or.inl rfl | exact Or.inr rfl))) (fun _ _ _ _ _ => zts_nil) (fun _ _ _ _ _ => (ze_cb call_len snd_len T.n_len (by decide +kernel) (za_cons (ze_var 1) za_nil))))))
theorem ok__law_town (T : Tx K mg) : FnOk P w K mg base (L2.CX P w) 1 T.f__law_town T.d__law_town p__law_town (liftSp K mg z__law_town) := by
  refine T.F__law_town.okX sc__law_town (fun vs H Q E h => ?_) (fun cdv A outer s H vs Q E hr h => ?_)
  · obtain ⟨F, M, ds, R, RE, w, rl, h, _⟩ := h
    unfold z__law_town at h
    split at h
    · exact rl.length
    · exact h.elim
  · obtain ⟨F, M, ds, R, RE, w, rl, h, kq, kx⟩ := h
    unfold z__law_town at h
    split at h
    · cases rl with
      | cons r1 rl =>
        cases rl
        cases r1 with
        | scr sq sl =>
          rename_i ns a
          have sqH : SqL K H a (ns.map V.int) := Same.seq w.same sq
          refine ⟨_, pss_one (ps_ret (pe_lst (pa_cons (pe_ifExp (pt_cmpR (op_neZ hr.units) (pv 0) (pe_lst pa_nil) (nomark _)) (pe_callTy call_list_of (by rfl) T.n_list (by decide +kernel) (pa_cons (pv 0) pa_nil)) (pe_lst (pa_cons pe_int pa_nil))) (pa_cons pe_int pa_nil)))), ?_⟩
          refine ⟨_, rfl, Nat.zero_le _, fun e he => ?_⟩
          have fin : ∀ {H1 : Hp} {c : Addr} {cells : List Int}, Wd K mg F H1 M → H1 c = none → cells ≠ [] → cells.length ≤ 1000 → ([V.ref c, V.int 0].length ≤ sizeLine ∧ ∀ p, upd H1 c (.lst (cells.map V.int)) p = none → Q (.ref p) (upd (upd H1 c (.lst (cells.map V.int))) p (.lst [.ref c, .int 0]))) := fun {H1 c cells} w1 hc ne ln => by
            refine ⟨by show 2 ≤ sizeLine; decide, fun p hp => ?_⟩
            obtain ⟨w2, mt⟩ := Wd.town_new (n := 0) h.1 ne ln hc hp w1
            exact kq _ _ (h.2 p mt) F _ _ (Le.refl F) w2 (.ref p)
          have same1 : Same H (upd H e (.lst [])) := same_upd he
          have w1 : Wd K mg F (upd H e (.lst [])) M := by
            have q := w.laidM (p := e) (o := .lst []) (m := .lst []) he (by intro z; cases z) ⟨[], upd_same, Nat.zero_le _, .nil⟩
            refine q.drop fun b m z => ?_
            rw [mup_ne (ne_of_m z (w.free he).1)]; exact z
          refine ⟨toP (.lst (ns.map D.int)), toP (.lst []), ?_, .lst (SqL.of upd_same) .nil, ?_, rfl, .inr (by decide), ?_⟩
          · exact .lst (same1.seq sqH) (RepL.dp (K := K) (mg := mg) (F := ⟨H, H⟩) (H := upd H e (.lst [])) same1 (plains_ints ns) (RepL.ints ns))
          · exact RepL.lay (K := K) (mg := mg) (F := F) (RepL.ints ns) |> fun z => by simpa [toP, PyData.canLay0] using z
          · refine ⟨_, rfl, ?_⟩
            cases ns with
            | nil =>
              have e0 : (!PyData.eqv (toP (.lst (([] : List Int).map D.int))) (toP (.lst []))) = false := by decide
              rw [e0]
              refine iteF ?_
              refine ⟨by show 1 ≤ sizeLine; decide, fun c hc => ?_⟩
              exact fin (cells := [0]) w1 hc (by simp) (by decide)
            | cons n r =>
              have e0 : (!PyData.eqv (toP (.lst ((n :: r).map D.int))) (toP (.lst []))) = true := rfl
              rw [e0]
              refine iteT ?_
              refine ⟨_, rfl, a, _, rfl, .inl (same1.seq sqH), fun c hc => ?_⟩
              exact fin (cells := n :: r) w1 hc (by simp) (by omega)
    · exact h.elim
theorem ok0__law_draw (T : Tx K mg) : FnOk P w K mg base (L2.CX P w) 1 T.f__law_draw T.d__law_draw p__law_draw (liftSp K mg z0__law_draw) :=
  z_ok true (k := 0) (zb := zb__law_draw) T.F__law_draw sc__law_draw (n := 4) rfl (fun ds M R RE h => by
    unfold z0__law_draw at h
    split at h
    · exact ⟨rfl, h⟩
    · exact h.elim)
  fun cdv A outer s H E F0 zE hr wk => (zss_cons (zs_set (i := 2) sc__law_draw.nd (ze_ix (ze_var 0) ze_int (fun _ _ => rfl)))
  (zss_cons (zs_asg (ze_add false (ze_ix (ze_var 0) ze_int (fun _ _ => rfl)) ze_int) (zg_sub (ze_var 0) ze_int))
  (zss_cons (zs_set (i := 3) sc__law_draw.nd (ze_mod (ze_ix (ze_var 0) ze_int (fun _ _ => rfl)) (ze_cb call_len snd_len T.n_len (by decide +kernel) (za_cons (ze_var 2) za_nil))))
  (zss_cons (zs_set (i := 4) sc__law_draw.nd (ze_ix (ze_var 2) (ze_var 3) (fun _ _ => rfl)))
  (zss_cons (zs_if (zt_cmp op_ge (sndB0 (g := pGe)) (ze_var 4) ze_int (by first | exact nobehind _ (by decide) (by decide) | rfl)) (zss_cons (zs_asg (ze_div (ze_var 4) (ze_var 1)) (zg_sub (ze_var 2) (ze_var 3)))
  (zss_one (zs_ret (ze_mod (ze_var 4) (ze_var 1)))))
  zss_nil)
  (zss_cons (zs_set (i := 5) sc__law_draw.nd (ze_mod (ze_add false (ze_var 4) (ze_mul false ze_int (ze_ix (ze_var 0) ze_int (fun _ _ => rfl)))) ze_int))
  (zss_cons (zs_set (i := 5) sc__law_draw.nd (ze_mod (ze_pow (ze_var 5) ze_int) ze_int))
  (zss_one (zs_ret (ze_mod (ze_div (ze_mod (ze_add false (ze_mul false (ze_div (ze_var 5) ze_int) ze_int) (ze_var 5)) ze_int) ze_int) (ze_var 1)))))))))))
theorem ok__law_draw (T : Tx K mg) : FnOk P w K mg base (L2.CX P w) 1 T.f__law_draw T.d__law_draw p__law_draw (liftSp K mg z__law_draw) := by
  refine FnOk.imp (ok0__law_draw T) fun vs H Q E h => ?_
  obtain ⟨F, M, ds, R, RE, w, rl, h, kq, kx⟩ := h
  unfold z__law_draw at h
  split at h
  · obtain ⟨h1, h2, h3, h4⟩ := h
    obtain ⟨c, n, cells, T, w2⟩ := w.town_out h1
    refine ⟨F, _, _, fun d M' => ∃ n' cells', cells' ≠ [] ∧ cells'.length ≤ 1000 ∧ M' = tOpen M _ c n' cells' ∧ R d M, fun _ _ _ => False, w2, rl, draw0 T h2 h3 fun k m cs hk hk2 hc hl => ⟨m, cs, hc, hl, rfl, h4 k hk hk2⟩, fun d M' hd F' H' v s1 w3 r1 => ?_, fun _ _ _ z => z.elim⟩
    obtain ⟨n', cells', ne, ln, rfl, hR⟩ := hd
    exact kq d M hR F' H' v s1 (w3.town_in T ne ln) r1
  · exact h.elim
theorem ok__law_pick (T : Tx K mg) : FnOk P w K mg base (L2.CX P w) 2 T.f__law_pick T.d__law_pick p__law_pick (liftSp K mg z__law_pick) :=
  z_ok false (k := 1) (zb := zb__law_pick) T.F__law_pick sc__law_pick (n := 0) rfl (fun ds M R RE h => by
    unfold z__law_pick at h
    split at h
    · exact ⟨rfl, h⟩
    · exact h.elim)
  fun cdv A outer s H E F0 zE hr wk => (zss_one (zs_ret (ze_ix (ze_var 1) (ze_call (ok__law_draw T) (hr.mono (by decide)) T.g__law_draw T.F__law_draw.kp T.b__law_draw (takes_of rfl rfl rfl rfl) wk (za_cons (ze_var 0) (za_cons (ze_cb call_len snd_len T.n_len (by decide +kernel) (za_cons (ze_var 1) za_nil)) za_nil))) (fun _ _ => rfl))))
theorem ok__law_byte (T : Tx K mg) : FnOk P w K mg base (L2.CX P w) 3 T.f__law_byte T.d__law_byte p__law_byte (liftSp K mg z__law_byte) :=
  z_ok false (k := 2) (zb := zb__law_byte) T.F__law_byte sc__law_byte (n := 1) rfl (fun ds M R RE h => by
    unfold z__law_byte at h
    split at h
    · exact ⟨rfl, h⟩
    · exact h.elim)
  fun cdv A outer s H E F0 zE hr wk => (zss_cons (zs_set (i := 1) sc__law_byte.nd (ze_call (ok__law_draw T) (hr.mono (by decide)) T.g__law_draw T.F__law_draw.kp T.b__law_draw (takes_of rfl rfl rfl rfl) wk (za_cons (ze_var 0) (za_cons ze_int za_nil))))
  (zss_cons (zs_if (zt_cmp (op_eqZ hr.units) snd_eq (ze_var 1) ze_int (by first | exact nobehind _ (by decide) (by decide) | rfl)) (zss_one (zs_ret (ze_call (ok__law_pick T) (hr.mono (by decide)) T.g__law_pick T.F__law_pick.kp T.b__law_pick (takes_of rfl rfl rfl rfl) wk (za_cons (ze_var 0) (za_cons (ze_lst false (za_cons ze_int (za_cons ze_int (za_cons ze_int (za_cons ze_int (za_cons ze_int (za_cons ze_int (za_cons ze_int (za_cons ze_int za_nil))))))))) za_nil)))))
  zss_nil)
  (zss_one (zs_ret (ze_if (zt_cmp op_lt (sndB0 (g := pLt)) (ze_var 1) ze_int (by first | exact nobehind _ (by decide) (by decide) | rfl)) (ze_add false ze_int (ze_call (ok__law_draw T) (hr.mono (by decide)) T.g__law_draw T.F__law_draw.kp T.b__law_draw (takes_of rfl rfl rfl rfl) wk (za_cons (ze_var 0) (za_cons ze_int za_nil)))) (ze_call (ok__law_draw T) (hr.mono (by decide)) T.g__law_draw T.F__law_draw.kp T.b__law_draw (takes_of rfl rfl rfl rfl) wk (za_cons (ze_var 0) (za_cons ze_int za_nil))))))))
theorem ok__law_row (T : Tx K mg) : FnOk P w K mg base (L2.CX P w) 4 T.f__law_row T.d__law_row p__law_row (liftSp K mg z__law_row) :=
  z_ok false (k := 3) (zb := zb__law_row) T.F__law_row sc__law_row (n := 2) rfl (fun ds M R RE h => by
    unfold z__law_row at h
    split at h
    · exact ⟨rfl, h⟩
    · exact h.elim)
  fun cdv A outer s H E F0 zE hr wk => (zss_cons (zs_set (i := 2) sc__law_row.nd (ze_call (ok__law_pick T) (hr.mono (by decide)) T.g__law_pick T.F__law_pick.kp T.b__law_pick (takes_of rfl rfl rfl rfl) wk (za_cons (ze_var 0) (za_cons (ze_lst false (za_cons ze_int (za_cons ze_int (za_cons ze_int (za_cons ze_int (za_cons (ze_call (ok__law_draw T) (hr.mono (by decide)) T.g__law_draw T.F__law_draw.kp T.b__law_draw (takes_of rfl rfl rfl rfl) wk (za_cons (ze_var 0) (za_cons (ze_add false (ze_var 1) ze_int) za_nil))) za_nil)))))) za_nil))))
  (zss_one (zs_ret (ze_lc (own := [("k", 3)]) false rfl sc__law_row.nd (zi_range1 T.n_range (za_cons (ze_cb (CallR.or (call_min2 rfl) (cr_min rfl)) snd_min T.n_min (by decide +kernel) (za_cons (ze_var 2) (za_cons (ze_var 1) za_nil))) za_nil)) (blkOk_by (N := N__law_row) (sc := defScope s__law_row) (by decide +kernel)) (tg_name (by decide)) (fun _ _ _ _ _ => (pg_name (i := 3) sc__law_row.nd rfl (by first | exact Or.inl rfl | exact Or.inr rfl))) (fun _ _ _ _ _ => zts_nil) (fun _ _ _ _ _ => (ze_call (ok__law_byte T) (hr.mono (by decide)) T.g__law_byte T.F__law_byte.kp T.b__law_byte takes0 wok0 (za_cons (ze_var 0) za_nil)))))))
theorem ok__law_late (T : Tx K mg) : FnOk P w K mg base (L2.CX P w) 1 T.f__law_late T.d__law_late p__law_late (liftSp K mg z__law_late) :=
  z_ok false (k := 0) (zb := zb__law_late) T.F__law_late sc__law_late (n := 1) rfl (fun ds M R RE h => by
    unfold z__law_late at h
    split at h
    · exact ⟨rfl, h⟩
    · exact h.elim)
  fun cdv A outer s H E F0 zE hr wk => (zss_one (zs_for (passes_of rfl) rfl (zi_range1 T.n_range (za_cons (ze_cb call_len snd_len T.n_len (by decide +kernel) (za_cons (ze_ix (ze_var 0) ze_int (fun _ _ => rfl)) za_nil)) za_nil)) (zg_name (i := 1) sc__law_late.nd) (zss_one (zs_while (passes_of rfl) (zt_w (zw_and (zt_cmp (op_neZ hr.units) snd_ne (ze_ix (ze_ix (ze_var 0) ze_int (fun _ _ => rfl)) (ze_var 1) (fun _ _ => rfl)) (ze_lst false za_nil) (by first | exact nobehind _ (by decide) (by decide) | rfl)) (zw_and1 (zt_cmp op_gt (sndB0 (g := pGt)) (ze_mod (ze_sub (ze_ix (ze_ix (ze_ix (ze_ix (ze_var 0) ze_int (fun _ _ => rfl)) (ze_var 1) (fun _ _ => rfl)) ze_int (fun _ _ => rfl)) ze_int (fun _ _ => rfl)) (ze_ix (ze_var 0) ze_int (fun _ _ => rfl))) ze_int) ze_int (by first | exact nobehind _ (by decide) (by decide) | rfl))))) (zss_one (zs_asg (ze_sl false (ze_ix (ze_ix (ze_var 0) ze_int (fun _ _ => rfl)) (ze_var 1) (fun _ _ => rfl)) (zo_some ze_int) zo_none) (zg_sub (ze_ix (ze_var 0) ze_int (fun _ _ => rfl)) (ze_var 1))))))))
theorem ok__law_step (T : Tx K mg) : FnOk P w K mg base (L2.CX P w) 1 T.f__law_step T.d__law_step p__law_step (liftSp K mg z__law_step) :=
  z_ok true (k := 0) (zb := zb__law_step) T.F__law_step sc__law_step (n := 10) rfl (fun ds M R RE h => by
    unfold z__law_step at h
    split at h
    · exact ⟨rfl, h⟩
    · exact h.elim)
  fun cdv A outer s H E F0 zE hr wk => (zss_cons (zs_setLc (own := [("waits", 9)]) (i := 1) false rfl sc__law_step.nd (sw_true rfl rfl rfl (by decide +kernel)) (zi_list (ze_ix (ze_var 0) ze_int (fun _ _ => rfl))) (blkOk_by (N := N__law_step) (sc := defScope s__law_step) (by decide +kernel)) (tg_name (by decide)) (fun _ _ _ _ _ => (pg_name (i := 9) sc__law_step.nd rfl (by first | exact Or.inl rfl | exact Or.inr rfl))) (fun _ _ _ _ _ => zts_nil) (fun _ _ _ _ _ => (ze_ix (ze_var 9) ze_int (fun _ _ => rfl))))
  (zss_cons (zs_setLc (own := [("head", 10)]) (i := 2) false rfl sc__law_step.nd (sw_true rfl rfl rfl (by decide +kernel)) (zi_list (ze_var 1)) (blkOk_by (N := N__law_step) (sc := defScope s__law_step) (by decide +kernel)) (tg_name (by decide)) (fun _ _ _ _ _ => (pg_name (i := 10) sc__law_step.nd rfl (by first | exact Or.inl rfl | exact Or.inr rfl))) (fun _ _ _ _ _ => (zts_one (zt_cmp (op_eqZ hr.units) snd_eq (ze_ix (ze_var 10) ze_int (fun _ _ => rfl)) (ze_ix (ze_var 0) ze_int (fun _ _ => rfl)) (by first | exact nobehind _ (by decide) (by decide) | rfl)))) (fun _ _ _ _ _ => (ze_var 10)))
  (zss_cons (zs_for (passes_of rfl) rfl (zi_range1 T.n_range (za_cons (ze_cb call_len snd_len T.n_len (by decide +kernel) (za_cons (ze_var 1) za_nil)) za_nil)) (zg_name (i := 3) sc__law_step.nd) (zss_one (zs_if (zt_cmp (op_eqZ hr.units) snd_eq (ze_ix (ze_ix (ze_var 1) (ze_var 3) (fun _ _ => rfl)) ze_int (fun _ _ => rfl)) (ze_ix (ze_var 0) ze_int (fun _ _ => rfl)) (by first | exact nobehind _ (by decide) (by decide) | rfl)) (zss_one (zs_asg (ze_sl false (ze_ix (ze_ix (ze_var 0) ze_int (fun _ _ => rfl)) (ze_var 3) (fun _ _ => rfl)) (zo_some ze_int) zo_none) (zg_sub (ze_ix (ze_var 0) ze_int (fun _ _ => rfl)) (ze_var 3))))
  zss_nil)))
  (zss_cons (zs_setLc (own := [("head", 10)]) (i := 4) false rfl sc__law_step.nd (sw_true rfl rfl rfl (by decide +kernel)) (zi_list (ze_var 1)) (blkOk_by (N := N__law_step) (sc := defScope s__law_step) (by decide +kernel)) (tg_name (by decide)) (fun _ _ _ _ _ => (pg_name (i := 10) sc__law_step.nd rfl (by first | exact Or.inl rfl | exact Or.inr rfl))) (fun _ _ _ _ _ => zts_nil) (fun _ _ _ _ _ => (ze_cb call_len snd_len T.n_len (by decide +kernel) (za_cons (ze_var 10) za_nil))))
  (zss_cons (zs_set (i := 5) sc__law_step.nd (ze_and (ze_cmp (op_eqZ hr.units) snd_eq (ze_cb call_len snd_len T.n_len (by decide +kernel) (za_cons (ze_var 2) za_nil)) (ze_cb call_len snd_len T.n_len (by decide +kernel) (za_cons (ze_var 1) za_nil)) (by first | exact nobehind _ (by decide) (by decide) | rfl)) (ze_one (ze_cmp op_ge (sndB0 (g := pGe)) (ze_add false (ze_cb (CallR.or (call_min2 rfl) (cr_min rfl)) snd_min T.n_min (by decide +kernel) (za_cons (ze_var 4) za_nil)) ze_int) (ze_ix (ze_var 4) ze_int (fun _ _ => rfl)) (by first | exact nobehind _ (by decide) (by decide) | rfl)))))
  (zss_cons (zs_for (passes_of rfl) rfl (zi_range2 T.n_range (za_cons ze_int (za_cons (ze_cb call_len snd_len T.n_len (by decide +kernel) (za_cons (ze_var 4) za_nil)) za_nil))) (zg_name (i := 6) sc__law_step.nd) (zss_one (zs_set (i := 5) sc__law_step.nd (ze_and (ze_var 5) (ze_one (ze_cmp op_le (sndB0 (g := pLe)) (ze_ix (ze_var 4) (ze_var 6) (fun _ _ => rfl)) (ze_ix (ze_var 4) (ze_sub (ze_var 6) ze_int) (fun _ _ => rfl)) (by first | exact nobehind _ (by decide) (by decide) | rfl)))))))
  (zss_cons (zs_set (i := 7) sc__law_step.nd (ze_lst false za_nil))
  (zss_cons (zs_for (passes_of rfl) rfl (zi_range1 T.n_range (za_cons (ze_if (zt_val (ze_var 5)) ze_int ze_int) za_nil)) (zg_name (i := 6) sc__law_step.nd) (zss_one (zs_set (i := 7) sc__law_step.nd (ze_add false (ze_var 7) (ze_lc (own := [("head", 10)]) false rfl sc__law_step.nd (zi_list (ze_var 1)) (blkOk_by (N := N__law_step) (sc := defScope s__law_step) (by decide +kernel)) (tg_name (by decide)) (fun _ _ _ _ _ => (pg_name (i := 10) sc__law_step.nd rfl (by first | exact Or.inl rfl | exact Or.inr rfl))) (fun _ _ _ _ _ => (zts_one (zt_cmp op_gt (sndB0 (g := pGt)) (ze_cb call_len snd_len T.n_len (by decide +kernel) (za_cons (ze_var 10) za_nil)) (ze_add false (ze_var 6) ze_int) (by first | exact nobehind _ (by decide) (by decide) | rfl)))) (fun _ _ _ _ _ => (ze_ix (ze_var 10) (ze_add false (ze_var 6) ze_int) (fun _ _ => rfl))))))))
  (zss_cons (zs_set (i := 8) sc__law_step.nd (ze_ix (ze_var 0) ze_int (fun _ _ => rfl)))
  (zss_cons (zs_asg (ze_mod (ze_add false (ze_var 8) ze_int) ze_int) (zg_sub (ze_var 0) ze_int))
  (zss_one (zs_ret (ze_lst false (za_cons (ze_if (zt_val (ze_var 5)) (ze_tup (za_cons ze_str (za_cons (ze_var 8) (za_cons (ze_var 7) za_nil)))) (ze_tup (za_cons ze_str (za_cons (ze_var 8) (za_cons (ze_lst false za_nil) za_nil))))) za_nil))))))))))))))
theorem ok__law_come (T : Tx K mg) : FnOk P w K mg base (L2.CX P w) 2 T.f__law_come T.d__law_come p__law_come (liftSp K mg z__law_come) :=
  z_ok false (k := 1) (zb := zb__law_come) T.F__law_come sc__law_come (n := 2) rfl (fun ds M R RE h => by
    unfold z__law_come at h
    split at h
    · exact ⟨rfl, h⟩
    · exact h.elim)
  fun cdv A outer s H E F0 zE hr wk => (zss_cons (zs_asg (ze_add false (ze_ix (ze_ix (ze_var 0) ze_int (fun _ _ => rfl)) (ze_var 1) (fun _ _ => rfl)) (ze_lst false (za_cons (ze_ct call_list_of (snd_list false) T.n_list (by decide +kernel) (za_cons (ze_var 2) za_nil)) za_nil))) (zg_sub (ze_ix (ze_var 0) ze_int (fun _ _ => rfl)) (ze_var 1)))
  (zss_cons (zs_set (i := 3) sc__law_come.nd (ze_lst false za_nil))
  (zss_cons (zs_expr (ze_call (ok__law_late T) (hr.mono (by decide)) T.g__law_late T.F__law_late.kp T.b__law_late (takes_of rfl rfl rfl rfl) wk (za_cons (ze_var 0) za_nil)))
  (zss_cons (zs_while (passes_of rfl) (zt_cmp (op_eqZ hr.units) snd_eq (ze_lc (own := [("waits", 4)]) false rfl sc__law_come.nd (zi_list (ze_ix (ze_var 0) ze_int (fun _ _ => rfl))) (blkOk_by (N := N__law_come) (sc := defScope s__law_come) (by decide +kernel)) (tg_name (by decide)) (fun _ _ _ _ _ => (pg_name (i := 4) sc__law_come.nd rfl (by first | exact Or.inl rfl | exact Or.inr rfl))) (fun _ _ _ _ _ => (zts_one (zt_cmp (op_eqZ hr.units) snd_eq (ze_var 4) (ze_lst false za_nil) (by first | exact nobehind _ (by decide) (by decide) | rfl)))) (fun _ _ _ _ _ => (ze_var 4))) (ze_lst false za_nil) (by first | exact nobehind _ (by decide) (by decide) | rfl)) (zss_cons (zs_set (i := 3) sc__law_come.nd (ze_add false (ze_var 3) (ze_call (ok__law_step T) (hr.mono (by decide)) T.g__law_step T.F__law_step.kp T.b__law_step (takes_of rfl rfl rfl rfl) wk (za_cons (ze_var 0) za_nil))))
  (zss_one (zs_expr (ze_call (ok__law_late T) (hr.mono (by decide)) T.g__law_late T.F__law_late.kp T.b__law_late (takes_of rfl rfl rfl rfl) wk (za_cons (ze_var 0) za_nil))))))
  (zss_one (zs_ret (ze_var 3)))))))
theorem ok_Lanes_come (T : Tx K mg) : FnOk P w K mg base (L2.CX P w) 5 T.f_Lanes_come T.d_Lanes_come p_Lanes_come (liftSp K mg z_Lanes_come) :=
  z_ok true (k := 4) (zb := zb_Lanes_come) T.F_Lanes_come sc_Lanes_come (n := 2) rfl (fun ds M R RE h => by
    unfold z_Lanes_come at h
    split at h
    · exact ⟨rfl, h⟩
    · exact h.elim)
  fun cdv A outer s H E F0 zE hr wk => (zss_cons (zs_if (zt_not (zt_val (ze_call (ok_is_whole T) (hr.mono (by decide)) T.g_is_whole T.F_is_whole.kp T.b_is_whole (takes_of rfl rfl rfl rfl) wk (za_cons (ze_var 1) (za_cons ze_int (za_cons (ze_sub (ze_cb call_len snd_len T.n_len (by decide +kernel) (za_cons (ze_fld T.g_Lanes T.l_Lanes (naB_ok T.a_Lanes (by decide +kernel)) (ze_var 0)) za_nil)) ze_int) za_nil)))))) (zss_one (zs_raise rfl (takes_of rfl rfl rfl rfl) wk PySem.F.excBase_ValueError T.x_BadLane T.g_BadLane T.k_BadLane T.r_BadLane))
  zss_nil)
  (zss_cons (zs_expr (ze_call (ok_look_row T) (hr.mono (by decide)) T.g_look_row T.F_look_row.kp T.b_look_row (takes_of rfl rfl rfl rfl) wk (za_cons (ze_var 2) (za_cons (ze_glob (v := .int 64) rfl T.g_MOST_ROW.2 ⟨_, rfl⟩ (fun _ => .int _)) za_nil))))
  (zss_cons (zs_if (zt_cmp (op_eqZ hr.units) snd_eq (ze_var 2) (ze_lst false za_nil) (by first | exact nobehind _ (by decide) (by decide) | rfl)) (zss_one (zs_raise rfl (takes_of rfl rfl rfl rfl) wk PySem.F.excBase_ValueError T.x_BadRow T.g_BadRow T.k_BadRow T.r_BadRow))
  zss_nil)
  (zss_cons (zs_expr (ze_mL PySem.F.plainAttrs_list PySem.F.slot_list_append PySem.F.type_list_append mt_append snd_app (ze_ix (ze_fld T.g_Lanes T.l_Lanes (naB_ok T.a_Lanes (by decide +kernel)) (ze_var 0)) (ze_var 1) (fun _ _ => rfl)) (za_cons (ze_ct call_list_of (snd_list false) T.n_list (by decide +kernel) (za_cons (ze_var 2) za_nil)) za_nil)))
  (zss_cons (zs_set (i := 3) sc_Lanes_come.nd (ze_lst true za_nil))
  (zss_cons (zs_expr (ze_meth0 T.g_Lanes T.l_Lanes T.m_Lanes_drop_late (ok_Lanes_drop_late T) (hr.mono (by decide)) T.b_Lanes_drop_late (takes_of rfl rfl rfl rfl) wk (ze_var 0)))
  (zss_cons (zs_while (passes_of rfl) (zt_val (ze_cb (cr_all rfl) snd_all T.n_all (by decide +kernel) (za_cons (ze_lc (own := [("waiting", 4)]) false rfl sc_Lanes_come.nd (zi_list (ze_fld T.g_Lanes T.l_Lanes (naB_ok T.a_Lanes (by decide +kernel)) (ze_var 0))) (blkOk_by (N := N_Lanes_come) (sc := defScope s_Lanes_come) (by decide +kernel)) (tg_name (by decide)) (fun _ _ _ _ _ => (pg_name (i := 4) sc_Lanes_come.nd rfl (by first | exact Or.inl rfl | exact Or.inr rfl))) (fun _ _ _ _ _ => zts_nil) (fun _ _ _ _ _ => (ze_cmp (op_neZ hr.units) snd_ne (ze_var 4) (ze_lst false za_nil) (by first | exact nobehind _ (by decide) (by decide) | rfl)))) za_nil))) (zss_cons (zs_expr (ze_mL PySem.F.plainAttrs_list PySem.F.slot_list_extend PySem.F.type_list_extend mt_extend snd_ext (ze_var 3) (za_cons (ze_meth0 T.g_Lanes T.l_Lanes T.m_Lanes_one (ok_Lanes_one T) (hr.mono (by decide)) T.b_Lanes_one (takes_of rfl rfl rfl rfl) wk (ze_var 0)) za_nil)))
  (zss_one (zs_expr (ze_meth0 T.g_Lanes T.l_Lanes T.m_Lanes_drop_late (ok_Lanes_drop_late T) (hr.mono (by decide)) T.b_Lanes_drop_late (takes_of rfl rfl rfl rfl) wk (ze_var 0))))))
  (zss_one (zs_ret (ze_var 3))))))))))
theorem ok_law (T : Tx K mg) : FnOk P w K mg base (L2.CX P w) 6 T.f_law T.d_law p_law (liftSp K mg z_law) :=
  z_ok true (k := 5) (zb := zb_law) T.F_law sc_law (n := 12) rfl (fun ds M R RE h => by
    unfold z_law at h
    split at h
    · exact ⟨rfl, h⟩
    · exact h.elim)
  fun cdv A outer s H E F0 zE hr wk => (zss_cons (zs_set (i := 1) sc_law.nd (ze_call (ok__law_town T) (hr.mono (by decide)) T.g__law_town T.F__law_town.kp T.b__law_town (takes_of rfl rfl rfl rfl) wk (za_cons (ze_var 0) za_nil)))
  (zss_cons (zs_set (i := 2) sc_law.nd (ze_add false ze_int (ze_call (ok__law_draw T) (hr.mono (by decide)) T.g__law_draw T.F__law_draw.kp T.b__law_draw (takes_of rfl rfl rfl rfl) wk (za_cons (ze_var 1) (za_cons ze_int za_nil)))))
  (zss_cons (zs_set (i := 3) sc_law.nd (ze_make T.g_Lanes T.k_Lanes (ok_Lanes___init__ T) (hr.mono (by decide)) T.b_Lanes___init__ (takes_of rfl rfl rfl rfl) wk (za_cons (ze_var 2) za_nil)))
  (zss_cons (zs_set (i := 4) sc_law.nd (ze_lst true (za_cons (ze_any (ze_lc (own := [("k", 11)]) false rfl sc_law.nd (zi_range1 T.n_range (za_cons (ze_var 2) za_nil)) (blkOk_by (N := N_law) (sc := defScope s_law) (by decide +kernel)) (tg_name (by decide)) (fun _ _ _ _ _ => (pg_name (i := 11) sc_law.nd rfl (by first | exact Or.inl rfl | exact Or.inr rfl))) (fun _ _ _ _ _ => zts_nil) (fun _ _ _ _ _ => (ze_lst false za_nil))) (ze_lc (own := [("k", 11)]) true rfl sc_law.nd (zi_range1 T.n_range (za_cons (ze_var 2) za_nil)) (blkOk_by (N := N_law) (sc := defScope s_law) (by decide +kernel)) (tg_name (by decide)) (fun _ _ _ _ _ => (pg_name (i := 11) sc_law.nd rfl (by first | exact Or.inl rfl | exact Or.inr rfl))) (fun _ _ _ _ _ => zts_nil) (fun _ _ _ _ _ => (ze_lst false za_nil)))) (za_cons ze_int za_nil))))
  (zss_cons (zs_set (i := 5) sc_law.nd (ze_call (ok__law_pick T) (hr.mono (by decide)) T.g__law_pick T.F__law_pick.kp T.b__law_pick (takes_of rfl rfl rfl rfl) wk (za_cons (ze_var 1) (za_cons (ze_lst false (za_cons ze_int (za_cons ze_int (za_cons ze_int (za_cons ze_int (za_cons ze_int za_nil)))))) za_nil))))
  (zss_cons (zs_for (passes_of rfl) rfl (zi_range2 T.n_range (za_cons (ze_var 5) (za_cons (ze_add false (ze_var 5) ze_int) za_nil))) (zg_name (i := 6) sc_law.nd) (zss_cons (zs_set (i := 7) sc_law.nd (ze_call (ok_dealt T) (hr.mono (by decide)) T.g_dealt T.F_dealt.kp T.b_dealt (takes_of rfl rfl rfl rfl) wk (za_cons (ze_call (ok__law_row T) (hr.mono (by decide)) T.g__law_row T.F__law_row.kp T.b__law_row (takes_of rfl rfl rfl rfl) wk (za_cons (ze_var 1) (za_cons ze_int za_nil))) (za_cons (ze_var 2) (za_cons (ze_var 6) za_nil)))))
  (zss_one (zs_for (passes_of rfl) rfl (zi_range1 T.n_range (za_cons (ze_var 2) za_nil)) (zg_name (i := 8) sc_law.nd) (zss_cons (zs_set (i := 9) sc_law.nd (ze_ix (ze_var 7) (ze_var 8) (fun _ _ => rfl)))
  (zss_cons (zs_set (i := 10) sc_law.nd (ze_call (ok__law_draw T) (hr.mono (by decide)) T.g__law_draw T.F__law_draw.kp T.b__law_draw (takes_of rfl rfl rfl rfl) wk (za_cons (ze_var 1) (za_cons ze_int za_nil))))
  (zss_cons (zs_if (zt_cmp (op_eqZ hr.units) snd_eq (ze_var 10) ze_int (by first | exact nobehind _ (by decide) (by decide) | rfl)) (zss_one (zs_set (i := 9) sc_law.nd (ze_add false (ze_lst false (za_cons (ze_mod (ze_call (ok__law_pick T) (hr.mono (by decide)) T.g__law_pick T.F__law_pick.kp T.b__law_pick (takes_of rfl rfl rfl rfl) wk (za_cons (ze_var 1) (za_cons (ze_lst false (za_cons (ze_var 6) (za_cons (ze_add false (ze_var 6) ze_int) (za_cons ze_int (za_cons ze_int (za_cons ze_int za_nil)))))) za_nil))) ze_int) za_nil)) (ze_call (ok__law_row T) (hr.mono (by decide)) T.g__law_row T.F__law_row.kp T.b__law_row (takes_of rfl rfl rfl rfl) wk (za_cons (ze_var 1) (za_cons ze_int za_nil))))))
  zss_nil)
  (zss_one (zs_for (passes_of rfl) rfl (zi_range1 T.n_range (za_cons (ze_call (ok__law_pick T) (hr.mono (by decide)) T.g__law_pick T.F__law_pick.kp T.b__law_pick (takes_of rfl rfl rfl rfl) wk (za_cons (ze_var 1) (za_cons (ze_lst false (za_cons ze_int (za_cons ze_int (za_cons ze_int (za_cons ze_int (za_cons ze_int (za_cons ze_int (za_cons ze_int (za_cons ze_int za_nil))))))))) za_nil))) za_nil)) (zg_name (i := 11) sc_law.nd) (zss_cons (zs_if (zt_cmp (op_neZ hr.units) snd_ne (ze_meth T.g_Lanes T.l_Lanes T.m_Lanes_come (ok_Lanes_come T) (hr.mono (by decide)) T.b_Lanes_come (takes_of rfl rfl rfl rfl) wk (ze_var 3) (za_cons (ze_var 8) (za_cons (ze_var 9) za_nil))) (ze_call (ok__law_come T) (hr.mono (by decide)) T.g__law_come T.F__law_come.kp T.b__law_come (takes_of rfl rfl rfl rfl) wk (za_cons (ze_var 4) (za_cons (ze_var 8) (za_cons (ze_var 9) za_nil)))) (by first | exact nobehind _ (by decide) (by decide) | rfl)) (zss_one (zs_ret ze_bl))
  zss_nil)
  (zss_one (zs_if (zt_w (zw_or (zt_cmp (op_neZ hr.units) snd_ne (ze_meth0 T.g_Lanes T.l_Lanes T.m_Lanes_due (ok_Lanes_due T) (hr.mono (by decide)) T.b_Lanes_due (takes_of rfl rfl rfl rfl) wk (ze_var 3)) (ze_ix (ze_var 4) ze_int (fun _ _ => rfl)) (by first | exact nobehind _ (by decide) (by decide) | rfl)) (zw_or1 (zt_cmp (op_neZ hr.units) snd_ne (ze_meth0 T.g_Lanes T.l_Lanes T.m_Lanes_held (ok_Lanes_held T) (hr.mono (by decide)) T.b_Lanes_held (takes_of rfl rfl rfl rfl) wk (ze_var 3)) (ze_lc (own := [("waits", 12)]) false rfl sc_law.nd (zi_list (ze_ix (ze_var 4) ze_int (fun _ _ => rfl))) (blkOk_by (N := N_law) (sc := defScope s_law) (by decide +kernel)) (tg_name (by decide)) (fun _ _ _ _ _ => (pg_name (i := 12) sc_law.nd rfl (by first | exact Or.inl rfl | exact Or.inr rfl))) (fun _ _ _ _ _ => zts_nil) (fun _ _ _ _ _ => (ze_cb call_len snd_len T.n_len (by decide +kernel) (za_cons (ze_var 12) za_nil)))) (by first | exact nobehind _ (by decide) (by decide) | rfl))))) (zss_one (zs_ret ze_bl))
  zss_nil))))))))))))
  (zss_one (zs_ret ze_bl))))))))
end
def spLaw (K : PySem.W.Frag) : Sp := fun vs H Q _ => ∃ (a : Addr) (ns : List Int), vs = [.ref a] ∧ SqL K H a (ns.map V.int) ∧ ns.length ≤ 63 ∧ ∀ H', Q (.bl true) H'
theorem all_mk (HL : ∀ ns : List Int, ns.length ≤ 63 → z_law [.scr ns] (fun _ => none) (fun d _ => d = .bl true) fun _ _ _ => False) {l : PySem.W.OpenLaw} {w : World} {K : PySem.W.Frag} {h : Heap} {mg : Str → Option Value} {fa : Addr} (X : K.In h) (G : h.Ns mainGlobals mg) (hfa : mg "law" = some (.ref fa))
    {cc_Lanes : Addr}
    {f_is_whole : Addr} {od_is_whole an_is_whole : Option Addr} {sl_is_whole : Array (Option Value)} {oc_is_whole kV_is_whole dc_is_whole pm_is_whole cd_is_whole ct_is_whole : Value}
    {f_is_row : Addr} {od_is_row an_is_row : Option Addr} {sl_is_row : Array (Option Value)} {oc_is_row kV_is_row dc_is_row pm_is_row cd_is_row ct_is_row : Value}
    {f_look_row : Addr} {od_look_row an_look_row : Option Addr} {sl_look_row : Array (Option Value)} {oc_look_row kV_look_row dc_look_row pm_look_row cd_look_row ct_look_row : Value}
    {f_look_many : Addr} {od_look_many an_look_many : Option Addr} {sl_look_many : Array (Option Value)} {oc_look_many kV_look_many dc_look_many pm_look_many cd_look_many ct_look_many : Value}
    {f_dealt : Addr} {od_dealt an_dealt : Option Addr} {sl_dealt : Array (Option Value)} {oc_dealt kV_dealt dc_dealt pm_dealt cd_dealt ct_dealt : Value}
    {f_fits : Addr} {od_fits an_fits : Option Addr} {sl_fits : Array (Option Value)} {oc_fits kV_fits dc_fits pm_fits cd_fits ct_fits : Value}
    {f_gathered : Addr} {od_gathered an_gathered : Option Addr} {sl_gathered : Array (Option Value)} {oc_gathered kV_gathered dc_gathered pm_gathered cd_gathered ct_gathered : Value}
    {f_Lanes___init__ : Addr} {od_Lanes___init__ an_Lanes___init__ : Option Addr} {sl_Lanes___init__ : Array (Option Value)} {oc_Lanes___init__ kV_Lanes___init__ dc_Lanes___init__ pm_Lanes___init__ cd_Lanes___init__ ct_Lanes___init__ : Value}
    {f_Lanes_drop_late : Addr} {od_Lanes_drop_late an_Lanes_drop_late : Option Addr} {sl_Lanes_drop_late : Array (Option Value)} {oc_Lanes_drop_late kV_Lanes_drop_late dc_Lanes_drop_late pm_Lanes_drop_late cd_Lanes_drop_late ct_Lanes_drop_late : Value}
    {f_Lanes_one : Addr} {od_Lanes_one an_Lanes_one : Option Addr} {sl_Lanes_one : Array (Option Value)} {oc_Lanes_one kV_Lanes_one dc_Lanes_one pm_Lanes_one cd_Lanes_one ct_Lanes_one : Value}
    {f_Lanes_due : Addr} {od_Lanes_due an_Lanes_due : Option Addr} {sl_Lanes_due : Array (Option Value)} {oc_Lanes_due kV_Lanes_due dc_Lanes_due pm_Lanes_due cd_Lanes_due ct_Lanes_due : Value}
    {f_Lanes_held : Addr} {od_Lanes_held an_Lanes_held : Option Addr} {sl_Lanes_held : Array (Option Value)} {oc_Lanes_held kV_Lanes_held dc_Lanes_held pm_Lanes_held cd_Lanes_held ct_Lanes_held : Value}
    {f__law_town : Addr} {od__law_town an__law_town : Option Addr} {sl__law_town : Array (Option Value)} {oc__law_town kV__law_town dc__law_town pm__law_town cd__law_town ct__law_town : Value}
    {f__law_draw : Addr} {od__law_draw an__law_draw : Option Addr} {sl__law_draw : Array (Option Value)} {oc__law_draw kV__law_draw dc__law_draw pm__law_draw cd__law_draw ct__law_draw : Value}
    {f__law_pick : Addr} {od__law_pick an__law_pick : Option Addr} {sl__law_pick : Array (Option Value)} {oc__law_pick kV__law_pick dc__law_pick pm__law_pick cd__law_pick ct__law_pick : Value}
    {f__law_byte : Addr} {od__law_byte an__law_byte : Option Addr} {sl__law_byte : Array (Option Value)} {oc__law_byte kV__law_byte dc__law_byte pm__law_byte cd__law_byte ct__law_byte : Value}
    {f__law_row : Addr} {od__law_row an__law_row : Option Addr} {sl__law_row : Array (Option Value)} {oc__law_row kV__law_row dc__law_row pm__law_row cd__law_row ct__law_row : Value}
    {f__law_late : Addr} {od__law_late an__law_late : Option Addr} {sl__law_late : Array (Option Value)} {oc__law_late kV__law_late dc__law_late pm__law_late cd__law_late ct__law_late : Value}
    {f__law_step : Addr} {od__law_step an__law_step : Option Addr} {sl__law_step : Array (Option Value)} {oc__law_step kV__law_step dc__law_step pm__law_step cd__law_step ct__law_step : Value}
    {f__law_come : Addr} {od__law_come an__law_come : Option Addr} {sl__law_come : Array (Option Value)} {oc__law_come kV__law_come dc__law_come pm__law_come cd__law_come ct__law_come : Value}
    {f_Lanes_come : Addr} {od_Lanes_come an_Lanes_come : Option Addr} {sl_Lanes_come : Array (Option Value)} {oc_Lanes_come kV_Lanes_come dc_Lanes_come pm_Lanes_come cd_Lanes_come ct_Lanes_come : Value}
    {f_law : Addr} {od_law an_law : Option Addr} {sl_law : Array (Option Value)} {oc_law kV_law dc_law pm_law cd_law ct_law : Value}
    {t_LATE : Tok}
    {t_MOST_ROW : Tok}
    {t_TURNS : Tok}
    {xc_BadLane : Addr}
    {xc_BadRow : Addr}
    (cg_Lanes : PySem.W.nsIn K mainGlobals "Lanes" = some (some (.ref cc_Lanes)))
    (cl_Lanes : clB K cc_Lanes = true)
    (cf_Lanes : naB K cc_Lanes ["rows", "turn"] = true)
    (a_is_whole : PySem.W.nsIn K mainGlobals "is_whole" = some (some (.ref f_is_whole)))
    (l_is_whole : K.lookup f_is_whole = some ⟨oc_is_whole, od_is_whole, .func (PySem.W.fnOf "is_whole" "is_whole" (defArgs s_is_whole) (defBody s_is_whole) (defScope s_is_whole) .none kV_is_whole dc_is_whole pm_is_whole an_is_whole cd_is_whole ct_is_whole), sl_is_whole⟩)
    (c_is_whole : PySem.W.codeIn K cd_is_whole "is_whole" = true)
    (k_is_whole : PySem.W.keepIn K (.ref f_is_whole) = true)
    (a_is_row : PySem.W.nsIn K mainGlobals "is_row" = some (some (.ref f_is_row)))
    (l_is_row : K.lookup f_is_row = some ⟨oc_is_row, od_is_row, .func (PySem.W.fnOf "is_row" "is_row" (defArgs s_is_row) (defBody s_is_row) (defScope s_is_row) .none kV_is_row dc_is_row pm_is_row an_is_row cd_is_row ct_is_row), sl_is_row⟩)
    (c_is_row : PySem.W.codeIn K cd_is_row "is_row" = true)
    (k_is_row : PySem.W.keepIn K (.ref f_is_row) = true)
    (a_look_row : PySem.W.nsIn K mainGlobals "look_row" = some (some (.ref f_look_row)))
    (l_look_row : K.lookup f_look_row = some ⟨oc_look_row, od_look_row, .func (PySem.W.fnOf "look_row" "look_row" (defArgs s_look_row) (defBody s_look_row) (defScope s_look_row) .none kV_look_row dc_look_row pm_look_row an_look_row cd_look_row ct_look_row), sl_look_row⟩)
    (c_look_row : PySem.W.codeIn K cd_look_row "look_row" = true)
    (k_look_row : PySem.W.keepIn K (.ref f_look_row) = true)
    (a_look_many : PySem.W.nsIn K mainGlobals "look_many" = some (some (.ref f_look_many)))
    (l_look_many : K.lookup f_look_many = some ⟨oc_look_many, od_look_many, .func (PySem.W.fnOf "look_many" "look_many" (defArgs s_look_many) (defBody s_look_many) (defScope s_look_many) .none kV_look_many dc_look_many pm_look_many an_look_many cd_look_many ct_look_many), sl_look_many⟩)
    (c_look_many : PySem.W.codeIn K cd_look_many "look_many" = true)
    (k_look_many : PySem.W.keepIn K (.ref f_look_many) = true)
    (a_dealt : PySem.W.nsIn K mainGlobals "dealt" = some (some (.ref f_dealt)))
    (l_dealt : K.lookup f_dealt = some ⟨oc_dealt, od_dealt, .func (PySem.W.fnOf "dealt" "dealt" (defArgs s_dealt) (defBody s_dealt) (defScope s_dealt) .none kV_dealt dc_dealt pm_dealt an_dealt cd_dealt ct_dealt), sl_dealt⟩)
    (c_dealt : PySem.W.codeIn K cd_dealt "dealt" = true)
    (k_dealt : PySem.W.keepIn K (.ref f_dealt) = true)
    (a_fits : PySem.W.nsIn K mainGlobals "fits" = some (some (.ref f_fits)))
    (l_fits : K.lookup f_fits = some ⟨oc_fits, od_fits, .func (PySem.W.fnOf "fits" "fits" (defArgs s_fits) (defBody s_fits) (defScope s_fits) .none kV_fits dc_fits pm_fits an_fits cd_fits ct_fits), sl_fits⟩)
    (c_fits : PySem.W.codeIn K cd_fits "fits" = true)
    (k_fits : PySem.W.keepIn K (.ref f_fits) = true)
    (a_gathered : PySem.W.nsIn K mainGlobals "gathered" = some (some (.ref f_gathered)))
    (l_gathered : K.lookup f_gathered = some ⟨oc_gathered, od_gathered, .func (PySem.W.fnOf "gathered" "gathered" (defArgs s_gathered) (defBody s_gathered) (defScope s_gathered) .none kV_gathered dc_gathered pm_gathered an_gathered cd_gathered ct_gathered), sl_gathered⟩)
    (c_gathered : PySem.W.codeIn K cd_gathered "gathered" = true)
    (k_gathered : PySem.W.keepIn K (.ref f_gathered) = true)
    (mk_Lanes : mkB K cc_Lanes f_Lanes___init__ = true)
    (a_Lanes___init__ : PySem.W.findIn K (.ref cc_Lanes) "__init__" = some (some (.ref f_Lanes___init__)))
    (fn_Lanes___init__ : PySem.W.isFn K (.ref f_Lanes___init__) = true)
    (l_Lanes___init__ : K.lookup f_Lanes___init__ = some ⟨oc_Lanes___init__, od_Lanes___init__, .func (PySem.W.fnOf "__init__" "Lanes.__init__" (defArgs s_Lanes___init__) (defBody s_Lanes___init__) (defScope s_Lanes___init__) .none kV_Lanes___init__ dc_Lanes___init__ pm_Lanes___init__ an_Lanes___init__ cd_Lanes___init__ ct_Lanes___init__), sl_Lanes___init__⟩)
    (c_Lanes___init__ : PySem.W.codeIn K cd_Lanes___init__ "Lanes.__init__" = true)
    (k_Lanes___init__ : PySem.W.keepIn K (.ref f_Lanes___init__) = true)
    (a_Lanes_drop_late : PySem.W.findIn K (.ref cc_Lanes) "drop_late" = some (some (.ref f_Lanes_drop_late)))
    (fn_Lanes_drop_late : PySem.W.isFn K (.ref f_Lanes_drop_late) = true)
    (l_Lanes_drop_late : K.lookup f_Lanes_drop_late = some ⟨oc_Lanes_drop_late, od_Lanes_drop_late, .func (PySem.W.fnOf "drop_late" "Lanes.drop_late" (defArgs s_Lanes_drop_late) (defBody s_Lanes_drop_late) (defScope s_Lanes_drop_late) .none kV_Lanes_drop_late dc_Lanes_drop_late pm_Lanes_drop_late an_Lanes_drop_late cd_Lanes_drop_late ct_Lanes_drop_late), sl_Lanes_drop_late⟩)
    (c_Lanes_drop_late : PySem.W.codeIn K cd_Lanes_drop_late "Lanes.drop_late" = true)
    (k_Lanes_drop_late : PySem.W.keepIn K (.ref f_Lanes_drop_late) = true)
    (a_Lanes_one : PySem.W.findIn K (.ref cc_Lanes) "one" = some (some (.ref f_Lanes_one)))
    (fn_Lanes_one : PySem.W.isFn K (.ref f_Lanes_one) = true)
    (l_Lanes_one : K.lookup f_Lanes_one = some ⟨oc_Lanes_one, od_Lanes_one, .func (PySem.W.fnOf "one" "Lanes.one" (defArgs s_Lanes_one) (defBody s_Lanes_one) (defScope s_Lanes_one) .none kV_Lanes_one dc_Lanes_one pm_Lanes_one an_Lanes_one cd_Lanes_one ct_Lanes_one), sl_Lanes_one⟩)
    (c_Lanes_one : PySem.W.codeIn K cd_Lanes_one "Lanes.one" = true)
    (k_Lanes_one : PySem.W.keepIn K (.ref f_Lanes_one) = true)
    (a_Lanes_due : PySem.W.findIn K (.ref cc_Lanes) "due" = some (some (.ref f_Lanes_due)))
    (fn_Lanes_due : PySem.W.isFn K (.ref f_Lanes_due) = true)
    (l_Lanes_due : K.lookup f_Lanes_due = some ⟨oc_Lanes_due, od_Lanes_due, .func (PySem.W.fnOf "due" "Lanes.due" (defArgs s_Lanes_due) (defBody s_Lanes_due) (defScope s_Lanes_due) .none kV_Lanes_due dc_Lanes_due pm_Lanes_due an_Lanes_due cd_Lanes_due ct_Lanes_due), sl_Lanes_due⟩)
    (c_Lanes_due : PySem.W.codeIn K cd_Lanes_due "Lanes.due" = true)
    (k_Lanes_due : PySem.W.keepIn K (.ref f_Lanes_due) = true)
    (a_Lanes_held : PySem.W.findIn K (.ref cc_Lanes) "held" = some (some (.ref f_Lanes_held)))
    (fn_Lanes_held : PySem.W.isFn K (.ref f_Lanes_held) = true)
    (l_Lanes_held : K.lookup f_Lanes_held = some ⟨oc_Lanes_held, od_Lanes_held, .func (PySem.W.fnOf "held" "Lanes.held" (defArgs s_Lanes_held) (defBody s_Lanes_held) (defScope s_Lanes_held) .none kV_Lanes_held dc_Lanes_held pm_Lanes_held an_Lanes_held cd_Lanes_held ct_Lanes_held), sl_Lanes_held⟩)
    (c_Lanes_held : PySem.W.codeIn K cd_Lanes_held "Lanes.held" = true)
    (k_Lanes_held : PySem.W.keepIn K (.ref f_Lanes_held) = true)
    (a__law_town : PySem.W.nsIn K mainGlobals "_law_town" = some (some (.ref f__law_town)))
    (l__law_town : K.lookup f__law_town = some ⟨oc__law_town, od__law_town, .func (PySem.W.fnOf "_law_town" "_law_town" (defArgs s__law_town) (defBody s__law_town) (defScope s__law_town) .none kV__law_town dc__law_town pm__law_town an__law_town cd__law_town ct__law_town), sl__law_town⟩)
    (c__law_town : PySem.W.codeIn K cd__law_town "_law_town" = true)
    (k__law_town : PySem.W.keepIn K (.ref f__law_town) = true)
    (a__law_draw : PySem.W.nsIn K mainGlobals "_law_draw" = some (some (.ref f__law_draw)))
    (l__law_draw : K.lookup f__law_draw = some ⟨oc__law_draw, od__law_draw, .func (PySem.W.fnOf "_law_draw" "_law_draw" (defArgs s__law_draw) (defBody s__law_draw) (defScope s__law_draw) .none kV__law_draw dc__law_draw pm__law_draw an__law_draw cd__law_draw ct__law_draw), sl__law_draw⟩)
    (c__law_draw : PySem.W.codeIn K cd__law_draw "_law_draw" = true)
    (k__law_draw : PySem.W.keepIn K (.ref f__law_draw) = true)
    (a__law_pick : PySem.W.nsIn K mainGlobals "_law_pick" = some (some (.ref f__law_pick)))
    (l__law_pick : K.lookup f__law_pick = some ⟨oc__law_pick, od__law_pick, .func (PySem.W.fnOf "_law_pick" "_law_pick" (defArgs s__law_pick) (defBody s__law_pick) (defScope s__law_pick) .none kV__law_pick dc__law_pick pm__law_pick an__law_pick cd__law_pick ct__law_pick), sl__law_pick⟩)
    (c__law_pick : PySem.W.codeIn K cd__law_pick "_law_pick" = true)
    (k__law_pick : PySem.W.keepIn K (.ref f__law_pick) = true)
    (a__law_byte : PySem.W.nsIn K mainGlobals "_law_byte" = some (some (.ref f__law_byte)))
    (l__law_byte : K.lookup f__law_byte = some ⟨oc__law_byte, od__law_byte, .func (PySem.W.fnOf "_law_byte" "_law_byte" (defArgs s__law_byte) (defBody s__law_byte) (defScope s__law_byte) .none kV__law_byte dc__law_byte pm__law_byte an__law_byte cd__law_byte ct__law_byte), sl__law_byte⟩)
    (c__law_byte : PySem.W.codeIn K cd__law_byte "_law_byte" = true)
    (k__law_byte : PySem.W.keepIn K (.ref f__law_byte) = true)
    (a__law_row : PySem.W.nsIn K mainGlobals "_law_row" = some (some (.ref f__law_row)))
    (l__law_row : K.lookup f__law_row = some ⟨oc__law_row, od__law_row, .func (PySem.W.fnOf "_law_row" "_law_row" (defArgs s__law_row) (defBody s__law_row) (defScope s__law_row) .none kV__law_row dc__law_row pm__law_row an__law_row cd__law_row ct__law_row), sl__law_row⟩)
    (c__law_row : PySem.W.codeIn K cd__law_row "_law_row" = true)
    (k__law_row : PySem.W.keepIn K (.ref f__law_row) = true)
    (a__law_late : PySem.W.nsIn K mainGlobals "_law_late" = some (some (.ref f__law_late)))
    (l__law_late : K.lookup f__law_late = some ⟨oc__law_late, od__law_late, .func (PySem.W.fnOf "_law_late" "_law_late" (defArgs s__law_late) (defBody s__law_late) (defScope s__law_late) .none kV__law_late dc__law_late pm__law_late an__law_late cd__law_late ct__law_late), sl__law_late⟩)
    (c__law_late : PySem.W.codeIn K cd__law_late "_law_late" = true)
    (k__law_late : PySem.W.keepIn K (.ref f__law_late) = true)
    (a__law_step : PySem.W.nsIn K mainGlobals "_law_step" = some (some (.ref f__law_step)))
    (l__law_step : K.lookup f__law_step = some ⟨oc__law_step, od__law_step, .func (PySem.W.fnOf "_law_step" "_law_step" (defArgs s__law_step) (defBody s__law_step) (defScope s__law_step) .none kV__law_step dc__law_step pm__law_step an__law_step cd__law_step ct__law_step), sl__law_step⟩)
    (c__law_step : PySem.W.codeIn K cd__law_step "_law_step" = true)
    (k__law_step : PySem.W.keepIn K (.ref f__law_step) = true)
    (a__law_come : PySem.W.nsIn K mainGlobals "_law_come" = some (some (.ref f__law_come)))
    (l__law_come : K.lookup f__law_come = some ⟨oc__law_come, od__law_come, .func (PySem.W.fnOf "_law_come" "_law_come" (defArgs s__law_come) (defBody s__law_come) (defScope s__law_come) .none kV__law_come dc__law_come pm__law_come an__law_come cd__law_come ct__law_come), sl__law_come⟩)
    (c__law_come : PySem.W.codeIn K cd__law_come "_law_come" = true)
    (k__law_come : PySem.W.keepIn K (.ref f__law_come) = true)
    (a_Lanes_come : PySem.W.findIn K (.ref cc_Lanes) "come" = some (some (.ref f_Lanes_come)))
    (fn_Lanes_come : PySem.W.isFn K (.ref f_Lanes_come) = true)
    (l_Lanes_come : K.lookup f_Lanes_come = some ⟨oc_Lanes_come, od_Lanes_come, .func (PySem.W.fnOf "come" "Lanes.come" (defArgs s_Lanes_come) (defBody s_Lanes_come) (defScope s_Lanes_come) .none kV_Lanes_come dc_Lanes_come pm_Lanes_come an_Lanes_come cd_Lanes_come ct_Lanes_come), sl_Lanes_come⟩)
    (c_Lanes_come : PySem.W.codeIn K cd_Lanes_come "Lanes.come" = true)
    (k_Lanes_come : PySem.W.keepIn K (.ref f_Lanes_come) = true)
    (a_law : PySem.W.nsIn K mainGlobals "law" = some (some (.ref f_law)))
    (l_law : K.lookup f_law = some ⟨oc_law, od_law, .func (PySem.W.fnOf "law" "law" (defArgs s_law) (defBody s_law) (defScope s_law) .none kV_law dc_law pm_law an_law cd_law ct_law), sl_law⟩)
    (c_law : PySem.W.codeIn K cd_law "law" = true)
    (k_law : PySem.W.keepIn K (.ref f_law) = true)
    (cn_LATE : PySem.W.nsIn K mainGlobals "LATE" = some (some (.int 128 t_LATE)))
    (cn_MOST_ROW : PySem.W.nsIn K mainGlobals "MOST_ROW" = some (some (.int 64 t_MOST_ROW)))
    (cn_TURNS : PySem.W.nsIn K mainGlobals "TURNS" = some (some (.int 256 t_TURNS)))
    (n_all : PySem.W.nsIn K mainGlobals "all" = some none)
    (n_bool : PySem.W.nsIn K mainGlobals "bool" = some none)
    (n_int : PySem.W.nsIn K mainGlobals "int" = some none)
    (n_isinstance : PySem.W.nsIn K mainGlobals "isinstance" = some none)
    (n_len : PySem.W.nsIn K mainGlobals "len" = some none)
    (n_list : PySem.W.nsIn K mainGlobals "list" = some none)
    (n_min : PySem.W.nsIn K mainGlobals "min" = some none)
    (n_range : PySem.W.nsIn K mainGlobals "range" = some none)
    (n_sorted : PySem.W.nsIn K mainGlobals "sorted" = some none)
    (n_sum : PySem.W.nsIn K mainGlobals "sum" = some none)
    (xa_BadLane : PySem.W.nsIn K mainGlobals "BadLane" = some (some (.ref xc_BadLane)))
    (xx_BadLane : PySem.W.excIn K xc_BadLane [.type "ValueError", .type "Exception", .type "BaseException", .type "object"] "ValueError.__new__" = true)
    (xk_BadLane : PySem.W.keepIn K (.ref xc_BadLane) = true)
    (xb_BadLane : PySem.W.subIn K (.ref xc_BadLane) (.type "BaseException") = some true)
    (xt_BadLane : PySem.W.typeIn K (.ref xc_BadLane) = some (.type "type"))
    (xa_BadRow : PySem.W.nsIn K mainGlobals "BadRow" = some (some (.ref xc_BadRow)))
    (xx_BadRow : PySem.W.excIn K xc_BadRow [.type "ValueError", .type "Exception", .type "BaseException", .type "object"] "ValueError.__new__" = true)
    (xk_BadRow : PySem.W.keepIn K (.ref xc_BadRow) = true)
    (xb_BadRow : PySem.W.subIn K (.ref xc_BadRow) (.type "BaseException") = some true)
    (xt_BadRow : PySem.W.typeIn K (.ref xc_BadRow) = some (.type "type")) :
    ∃ fd : FuncData, (∀ (s : Shared) (v : Value), BindsTo s fd ⟨[v], []⟩ [("script", v)]) ∧ ∀ base : Heap, K.In base → base.Ns mainGlobals mg → FnOk l.prog w K mg base (L2.CX l.prog w) 6 fa fd ["script"] (spLaw K) := by
  have e := hfa.symm.trans (PySem.W.mg_of X G a_law)
  cases e
  have F_is_whole := fun_mk (st := s_is_whole) l_is_whole c_is_whole k_is_whole
  have b_is_whole := F_is_whole.binds (ps := p_is_whole) fun _ _ _ _ _ _ us hl => match us, hl with | [_, _, _], _ => rfl
  have F_is_row := fun_mk (st := s_is_row) l_is_row c_is_row k_is_row
  have b_is_row := F_is_row.binds (ps := p_is_row) fun _ _ _ _ _ _ us hl => match us, hl with | [_, _], _ => rfl
  have F_look_row := fun_mk (st := s_look_row) l_look_row c_look_row k_look_row
  have b_look_row := F_look_row.binds (ps := p_look_row) fun _ _ _ _ _ _ us hl => match us, hl with | [_, _], _ => rfl
  have F_look_many := fun_mk (st := s_look_many) l_look_many c_look_many k_look_many
  have b_look_many := F_look_many.binds (ps := p_look_many) fun _ _ _ _ _ _ us hl => match us, hl with | [_], _ => rfl
  have F_dealt := fun_mk (st := s_dealt) l_dealt c_dealt k_dealt
  have b_dealt := F_dealt.binds (ps := p_dealt) fun _ _ _ _ _ _ us hl => match us, hl with | [_, _, _], _ => rfl
  have F_fits := fun_mk (st := s_fits) l_fits c_fits k_fits
  have b_fits := F_fits.binds (ps := p_fits) fun _ _ _ _ _ _ us hl => match us, hl with | [_], _ => rfl
  have F_gathered := fun_mk (st := s_gathered) l_gathered c_gathered k_gathered
  have b_gathered := F_gathered.binds (ps := p_gathered) fun _ _ _ _ _ _ us hl => match us, hl with | [_], _ => rfl
  have F_Lanes___init__ := fun_mk (st := s_Lanes___init__) l_Lanes___init__ c_Lanes___init__ k_Lanes___init__
  have b_Lanes___init__ := F_Lanes___init__.binds (ps := p_Lanes___init__) fun _ _ _ _ _ _ us hl => match us, hl with | [_, _], _ => rfl
  have F_Lanes_drop_late := fun_mk (st := s_Lanes_drop_late) l_Lanes_drop_late c_Lanes_drop_late k_Lanes_drop_late
  have b_Lanes_drop_late := F_Lanes_drop_late.binds (ps := p_Lanes_drop_late) fun _ _ _ _ _ _ us hl => match us, hl with | [_], _ => rfl
  have F_Lanes_one := fun_mk (st := s_Lanes_one) l_Lanes_one c_Lanes_one k_Lanes_one
  have b_Lanes_one := F_Lanes_one.binds (ps := p_Lanes_one) fun _ _ _ _ _ _ us hl => match us, hl with | [_], _ => rfl
  have F_Lanes_due := fun_mk (st := s_Lanes_due) l_Lanes_due c_Lanes_due k_Lanes_due
  have b_Lanes_due := F_Lanes_due.binds (ps := p_Lanes_due) fun _ _ _ _ _ _ us hl => match us, hl with | [_], _ => rfl
  have F_Lanes_held := fun_mk (st := s_Lanes_held) l_Lanes_held c_Lanes_held k_Lanes_held
  have b_Lanes_held := F_Lanes_held.binds (ps := p_Lanes_held) fun _ _ _ _ _ _ us hl => match us, hl with | [_], _ => rfl
  have F__law_town := fun_mk (st := s__law_town) l__law_town c__law_town k__law_town
  have b__law_town := F__law_town.binds (ps := p__law_town) fun _ _ _ _ _ _ us hl => match us, hl with | [_], _ => rfl
  have F__law_draw := fun_mk (st := s__law_draw) l__law_draw c__law_draw k__law_draw
  have b__law_draw := F__law_draw.binds (ps := p__law_draw) fun _ _ _ _ _ _ us hl => match us, hl with | [_, _], _ => rfl
  have F__law_pick := fun_mk (st := s__law_pick) l__law_pick c__law_pick k__law_pick
  have b__law_pick := F__law_pick.binds (ps := p__law_pick) fun _ _ _ _ _ _ us hl => match us, hl with | [_, _], _ => rfl
  have F__law_byte := fun_mk (st := s__law_byte) l__law_byte c__law_byte k__law_byte
  have b__law_byte := F__law_byte.binds (ps := p__law_byte) fun _ _ _ _ _ _ us hl => match us, hl with | [_], _ => rfl
  have F__law_row := fun_mk (st := s__law_row) l__law_row c__law_row k__law_row
  have b__law_row := F__law_row.binds (ps := p__law_row) fun _ _ _ _ _ _ us hl => match us, hl with | [_, _], _ => rfl
  have F__law_late := fun_mk (st := s__law_late) l__law_late c__law_late k__law_late
  have b__law_late := F__law_late.binds (ps := p__law_late) fun _ _ _ _ _ _ us hl => match us, hl with | [_], _ => rfl
  have F__law_step := fun_mk (st := s__law_step) l__law_step c__law_step k__law_step
  have b__law_step := F__law_step.binds (ps := p__law_step) fun _ _ _ _ _ _ us hl => match us, hl with | [_], _ => rfl
  have F__law_come := fun_mk (st := s__law_come) l__law_come c__law_come k__law_come
  have b__law_come := F__law_come.binds (ps := p__law_come) fun _ _ _ _ _ _ us hl => match us, hl with | [_, _, _], _ => rfl
  have F_Lanes_come := fun_mk (st := s_Lanes_come) l_Lanes_come c_Lanes_come k_Lanes_come
  have b_Lanes_come := F_Lanes_come.binds (ps := p_Lanes_come) fun _ _ _ _ _ _ us hl => match us, hl with | [_, _, _], _ => rfl
  have F_law := fun_mk (st := s_law) l_law c_law k_law
  have b_law := F_law.binds (ps := p_law) fun _ _ _ _ _ _ us hl => match us, hl with | [_], _ => rfl
  let T : Tx K mg := { f_is_whole := f_is_whole, d_is_whole := _, F_is_whole := F_is_whole, b_is_whole := b_is_whole, g_is_whole := PySem.W.mg_of X G a_is_whole, f_is_row := f_is_row, d_is_row := _, F_is_row := F_is_row, b_is_row := b_is_row, g_is_row := PySem.W.mg_of X G a_is_row, f_look_row := f_look_row, d_look_row := _, F_look_row := F_look_row, b_look_row := b_look_row, g_look_row := PySem.W.mg_of X G a_look_row, f_look_many := f_look_many, d_look_many := _, F_look_many := F_look_many, b_look_many := b_look_many, g_look_many := PySem.W.mg_of X G a_look_many, f_dealt := f_dealt, d_dealt := _, F_dealt := F_dealt, b_dealt := b_dealt, g_dealt := PySem.W.mg_of X G a_dealt, f_fits := f_fits, d_fits := _, F_fits := F_fits, b_fits := b_fits, g_fits := PySem.W.mg_of X G a_fits, f_gathered := f_gathered, d_gathered := _, F_gathered := F_gathered, b_gathered := b_gathered, g_gathered := PySem.W.mg_of X G a_gathered, f_Lanes___init__ := f_Lanes___init__, d_Lanes___init__ := _, F_Lanes___init__ := F_Lanes___init__, b_Lanes___init__ := b_Lanes___init__, f_Lanes_drop_late := f_Lanes_drop_late, d_Lanes_drop_late := _, F_Lanes_drop_late := F_Lanes_drop_late, b_Lanes_drop_late := b_Lanes_drop_late, f_Lanes_one := f_Lanes_one, d_Lanes_one := _, F_Lanes_one := F_Lanes_one, b_Lanes_one := b_Lanes_one, f_Lanes_due := f_Lanes_due, d_Lanes_due := _, F_Lanes_due := F_Lanes_due, b_Lanes_due := b_Lanes_due, f_Lanes_held := f_Lanes_held, d_Lanes_held := _, F_Lanes_held := F_Lanes_held, b_Lanes_held := b_Lanes_held, f__law_town := f__law_town, d__law_town := _, F__law_town := F__law_town, b__law_town := b__law_town, g__law_town := PySem.W.mg_of X G a__law_town, f__law_draw := f__law_draw, d__law_draw := _, F__law_draw := F__law_draw, b__law_draw := b__law_draw, g__law_draw := PySem.W.mg_of X G a__law_draw, f__law_pick := f__law_pick, d__law_pick := _, F__law_pick := F__law_pick, b__law_pick := b__law_pick, g__law_pick := PySem.W.mg_of X G a__law_pick, f__law_byte := f__law_byte, d__law_byte := _, F__law_byte := F__law_byte, b__law_byte := b__law_byte, g__law_byte := PySem.W.mg_of X G a__law_byte, f__law_row := f__law_row, d__law_row := _, F__law_row := F__law_row, b__law_row := b__law_row, g__law_row := PySem.W.mg_of X G a__law_row, f__law_late := f__law_late, d__law_late := _, F__law_late := F__law_late, b__law_late := b__law_late, g__law_late := PySem.W.mg_of X G a__law_late, f__law_step := f__law_step, d__law_step := _, F__law_step := F__law_step, b__law_step := b__law_step, g__law_step := PySem.W.mg_of X G a__law_step, f__law_come := f__law_come, d__law_come := _, F__law_come := F__law_come, b__law_come := b__law_come, g__law_come := PySem.W.mg_of X G a__law_come, f_Lanes_come := f_Lanes_come, d_Lanes_come := _, F_Lanes_come := F_Lanes_come, b_Lanes_come := b_Lanes_come, f_law := fa, d_law := _, F_law := F_law, b_law := b_law, g_law := PySem.W.mg_of X G a_law, g_LATE := ⟨_, PySem.W.mg_of X G cn_LATE⟩, g_MOST_ROW := ⟨_, PySem.W.mg_of X G cn_MOST_ROW⟩, g_TURNS := ⟨_, PySem.W.mg_of X G cn_TURNS⟩, n_all := PySem.W.mg_none_of X G n_all, n_bool := PySem.W.mg_none_of X G n_bool, n_int := PySem.W.mg_none_of X G n_int, n_isinstance := PySem.W.mg_none_of X G n_isinstance, n_len := PySem.W.mg_none_of X G n_len, n_list := PySem.W.mg_none_of X G n_list, n_min := PySem.W.mg_none_of X G n_min, n_range := PySem.W.mg_none_of X G n_range, n_sorted := PySem.W.mg_none_of X G n_sorted, n_sum := PySem.W.mg_none_of X G n_sum, c_BadLane := xc_BadLane, g_BadLane := PySem.W.mg_of X G xa_BadLane, x_BadLane := xx_BadLane, k_BadLane := xk_BadLane, b_BadLane := xb_BadLane, t_BadLane := xt_BadLane, c_BadRow := xc_BadRow, g_BadRow := PySem.W.mg_of X G xa_BadRow, x_BadRow := xx_BadRow, k_BadRow := xk_BadRow, b_BadRow := xb_BadRow, t_BadRow := xt_BadRow, c_Lanes := cc_Lanes, g_Lanes := PySem.W.mg_of X G cg_Lanes, l_Lanes := clB_ok cl_Lanes, a_Lanes := cf_Lanes, k_Lanes := mkB_ok mk_Lanes, m_Lanes_drop_late := ⟨a_Lanes_drop_late, fn_Lanes_drop_late, k_Lanes_drop_late⟩, m_Lanes_one := ⟨a_Lanes_one, fn_Lanes_one, k_Lanes_one⟩, m_Lanes_due := ⟨a_Lanes_due, fn_Lanes_due, k_Lanes_due⟩, m_Lanes_held := ⟨a_Lanes_held, fn_Lanes_held, k_Lanes_held⟩, m_Lanes_come := ⟨a_Lanes_come, fn_Lanes_come, k_Lanes_come⟩ }
  refine ⟨PySem.W.fnOf "law" "law" (defArgs s_law) (defBody s_law) (defScope s_law) .none kV_law dc_law pm_law an_law cd_law ct_law, fun s v => .of_eq rfl, fun base _ _ => FnOk.imp (ok_law (P := l.prog) (w := w) (base := base) T) fun vs H Q E h => ?_⟩
  obtain ⟨a, ns, rfl, sq, hl, q⟩ := h
  refine ⟨⟨H, fun _ => none⟩, fun _ => none, [.scr ns], fun d _ => d = .bl true, fun _ _ _ => False, ⟨fun _ _ e => e, (fun _ _ e => nomatch e), (fun _ _ e => nomatch e)⟩, .cons (.scr sq hl) .nil, HL ns hl, fun d M' hd F' H' v s w r => ?_, fun _ _ _ z => z.elim⟩
  subst hd
  cases r
  exact q H'
end Zp
open PySem PySem.W PyProof.Rows
set_option maxRecDepth 100000 in
set_option maxHeartbeats 0 in
theorem PySem.Challenge.cw_evenline_k33_whole_lanes_lose_holds : PySem.Challenge.rw_evenline_k33_whole_lanes_lose.Holds := by
  w_on; o_law; k_head; (case hw => w_witness2)
  k_fill
  refine L2.walk_of (l := PySem.Challenge.rw_evenline_k33_whole_lanes_lose) (n := 63) (k := 6) (x := "script") (CX := fun w => L2.CX PySem.Challenge.rw_evenline_k33_whole_lanes_lose.prog w) (sp := fun w => Zp.spLaw _) rfl (by decide) rfl ⟨rfl, by decide, by decide⟩ (fun w h Y => PySem.W.kIn_of Y) ?F (fun _ _ a ns hl _ hS => ⟨a, ns, rfl, hS, hl, fun _ => rfl⟩) (fun _ _ _ _ _ h => Zl.cx_no h)
  case F =>
    intro w mg fa h KX G hmg
    refine' Zp.all_mk Zp.law_holds KX G hmg ?cg_Lanes ?cl_Lanes ?cf_Lanes ?a_is_whole ?l_is_whole ?c_is_whole ?k_is_whole ?a_is_row ?l_is_row ?c_is_row ?k_is_row ?a_look_row ?l_look_row ?c_look_row ?k_look_row ?a_look_many ?l_look_many ?c_look_many ?k_look_many ?a_dealt ?l_dealt ?c_dealt ?k_dealt ?a_fits ?l_fits ?c_fits ?k_fits ?a_gathered ?l_gathered ?c_gathered ?k_gathered ?mk_Lanes ?a_Lanes___init__ ?fn_Lanes___init__ ?l_Lanes___init__ ?c_Lanes___init__ ?k_Lanes___init__ ?a_Lanes_drop_late ?fn_Lanes_drop_late ?l_Lanes_drop_late ?c_Lanes_drop_late ?k_Lanes_drop_late ?a_Lanes_one ?fn_Lanes_one ?l_Lanes_one ?c_Lanes_one ?k_Lanes_one ?a_Lanes_due ?fn_Lanes_due ?l_Lanes_due ?c_Lanes_due ?k_Lanes_due ?a_Lanes_held ?fn_Lanes_held ?l_Lanes_held ?c_Lanes_held ?k_Lanes_held ?a__law_town ?l__law_town ?c__law_town ?k__law_town ?a__law_draw ?l__law_draw ?c__law_draw ?k__law_draw ?a__law_pick ?l__law_pick ?c__law_pick ?k__law_pick ?a__law_byte ?l__law_byte ?c__law_byte ?k__law_byte ?a__law_row ?l__law_row ?c__law_row ?k__law_row ?a__law_late ?l__law_late ?c__law_late ?k__law_late ?a__law_step ?l__law_step ?c__law_step ?k__law_step ?a__law_come ?l__law_come ?c__law_come ?k__law_come ?a_Lanes_come ?fn_Lanes_come ?l_Lanes_come ?c_Lanes_come ?k_Lanes_come ?a_law ?l_law ?c_law ?k_law ?cn_LATE ?cn_MOST_ROW ?cn_TURNS ?n_all ?n_bool ?n_int ?n_isinstance ?n_len ?n_list ?n_min ?n_range ?n_sorted ?n_sum ?xa_BadLane ?xx_BadLane ?xk_BadLane ?xb_BadLane ?xt_BadLane ?xa_BadRow ?xx_BadRow ?xk_BadRow ?xb_BadRow ?xt_BadRow
    (case cg_Lanes => k_is)
    (case cl_Lanes => kernel_rfl)
    (case cf_Lanes => kernel_rfl)
    (case a_is_whole => k_is)
    (case l_is_whole => k_is)
    (case c_is_whole => k_is)
    (case k_is_whole => k_is)
    (case a_is_row => k_is)
    (case l_is_row => k_is)
    (case c_is_row => k_is)
    (case k_is_row => k_is)
    (case a_look_row => k_is)
    (case l_look_row => k_is)
    (case c_look_row => k_is)
    (case k_look_row => k_is)
    (case a_look_many => k_is)
    (case l_look_many => k_is)
    (case c_look_many => k_is)
    (case k_look_many => k_is)
    (case a_dealt => k_is)
    (case l_dealt => k_is)
    (case c_dealt => k_is)
    (case k_dealt => k_is)
    (case a_fits => k_is)
    (case l_fits => k_is)
    (case c_fits => k_is)
    (case k_fits => k_is)
    (case a_gathered => k_is)
    (case l_gathered => k_is)
    (case c_gathered => k_is)
    (case k_gathered => k_is)
    (case mk_Lanes => kernel_rfl)
    (case a_Lanes___init__ => k_is)
    (case fn_Lanes___init__ => k_is)
    (case l_Lanes___init__ => k_is)
    (case c_Lanes___init__ => k_is)
    (case k_Lanes___init__ => k_is)
    (case a_Lanes_drop_late => k_is)
    (case fn_Lanes_drop_late => k_is)
    (case l_Lanes_drop_late => k_is)
    (case c_Lanes_drop_late => k_is)
    (case k_Lanes_drop_late => k_is)
    (case a_Lanes_one => k_is)
    (case fn_Lanes_one => k_is)
    (case l_Lanes_one => k_is)
    (case c_Lanes_one => k_is)
    (case k_Lanes_one => k_is)
    (case a_Lanes_due => k_is)
    (case fn_Lanes_due => k_is)
    (case l_Lanes_due => k_is)
    (case c_Lanes_due => k_is)
    (case k_Lanes_due => k_is)
    (case a_Lanes_held => k_is)
    (case fn_Lanes_held => k_is)
    (case l_Lanes_held => k_is)
    (case c_Lanes_held => k_is)
    (case k_Lanes_held => k_is)
    (case a__law_town => k_is)
    (case l__law_town => k_is)
    (case c__law_town => k_is)
    (case k__law_town => k_is)
    (case a__law_draw => k_is)
    (case l__law_draw => k_is)
    (case c__law_draw => k_is)
    (case k__law_draw => k_is)
    (case a__law_pick => k_is)
    (case l__law_pick => k_is)
    (case c__law_pick => k_is)
    (case k__law_pick => k_is)
    (case a__law_byte => k_is)
    (case l__law_byte => k_is)
    (case c__law_byte => k_is)
    (case k__law_byte => k_is)
    (case a__law_row => k_is)
    (case l__law_row => k_is)
    (case c__law_row => k_is)
    (case k__law_row => k_is)
    (case a__law_late => k_is)
    (case l__law_late => k_is)
    (case c__law_late => k_is)
    (case k__law_late => k_is)
    (case a__law_step => k_is)
    (case l__law_step => k_is)
    (case c__law_step => k_is)
    (case k__law_step => k_is)
    (case a__law_come => k_is)
    (case l__law_come => k_is)
    (case c__law_come => k_is)
    (case k__law_come => k_is)
    (case a_Lanes_come => k_is)
    (case fn_Lanes_come => k_is)
    (case l_Lanes_come => k_is)
    (case c_Lanes_come => k_is)
    (case k_Lanes_come => k_is)
    (case a_law => k_is)
    (case l_law => k_is)
    (case c_law => k_is)
    (case k_law => k_is)
    (case cn_LATE => k_is)
    (case cn_MOST_ROW => k_is)
    (case cn_TURNS => k_is)
    (case n_all => k_is)
    (case n_bool => k_is)
    (case n_int => k_is)
    (case n_isinstance => k_is)
    (case n_len => k_is)
    (case n_list => k_is)
    (case n_min => k_is)
    (case n_range => k_is)
    (case n_sorted => k_is)
    (case n_sum => k_is)
    (case xa_BadLane => k_is)
    (case xx_BadLane => k_exc)
    (case xk_BadLane => k_is)
    (case xb_BadLane => k_is)
    (case xt_BadLane => k_is)
    (case xa_BadRow => k_is)
    (case xx_BadRow => k_exc)
    (case xk_BadRow => k_is)
    (case xb_BadRow => k_is)
    (case xt_BadRow => k_is)
