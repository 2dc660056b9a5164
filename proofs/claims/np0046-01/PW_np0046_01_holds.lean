import PyProof.Rows.All
import Wide.All
import OpenK.AllK
import Wide.FinOn
import Lean
import PySem.Challenge.RW_np0046_01
open PySem PySem.W PySem.Calls PyProof.Rows
set_option Elab.async false
set_option linter.unusedVariables false
set_option linter.unusedSimpArgs false
set_option compiler.extract_closed false
namespace Mine
def r0 : OpenRow := { PySem.Challenge.rw_np0046_01.row with writes := true }
def mark (n : Nat) : Nat := n
theorem hop : r0.Holds → mark 0 = 0 := fun _ => rfl
set_option maxRecDepth 100000 in
set_option maxHeartbeats 8000000 in
theorem hd0 : mark 0 = mark 0 := by simp (disch := (k_head; fail)) only [hop]
local macro_rules | `(tactic| omega) => `(tactic| lia)
theorem hideG {G : Prop} (h : ∀ Q : Prop, (G → Q) → Q) : G := h G id
noncomputable abbrev PR : Program := PySem.Challenge.rw_np0046_01.row.prog
noncomputable abbrev AP := Obj → Prop
noncomputable abbrev Led := List (Addr × AP)

noncomputable def Le (g g' : Heap) : Prop := ∀ b o, g.get? b = some o → g'.get? b = some o
theorem Le.refl (g : Heap) : Le g g := fun _ _ e => e
theorem Le.trans {a b c : Heap} (x : Le a b) (y : Le b c) : Le a c := fun _ _ e => y _ _ (x _ _ e)

/-- what stands for good under every heap of the call -/
structure Good (w : World) (g : Heap) : Prop where
  k : (hd0.heap_1 w.params : Frag).In g
  top : ∃ p loose mean mg mb, Top p loose mean mg mb g
theorem Good.le {w : World} {g g' : Heap} (x : Good w g) (l : Le g g') : Good w g' :=
  ⟨x.k.keeps l, let ⟨p, lo, me, mg, mb, t⟩ := x.top; ⟨p, lo, me, mg, mb, t.keeps l⟩⟩

structure H (w : World) (g : Heap) (N : Led) (h : Heap) : Prop where
  good : Good w g
  keep : Le g h
  nw : ∀ p ∈ N, ∃ o, h.get? p.1 = some o ∧ p.2 o
  nd : (N.map (·.1)).Nodup
  off : ∀ p ∈ N, g.get? p.1 = none

noncomputable def Room (A : Around) (n : Nat) : Prop := A.handled = none ∧ A.depth + 4 * n < recursionLimit ∧ A.units + 16 * n < cLine
theorem Room.depth {A : Around} {n : Nat} (h : Room A n) : A.depth < recursionLimit := Nat.lt_of_le_of_lt (Nat.le_add_right _ _) h.2.1
theorem Room.units {A : Around} {n : Nat} (h : Room A n) : A.units < cLine := Nat.lt_of_le_of_lt (Nat.le_add_right _ _) h.2.2

noncomputable def Sp {α : Type} (w : World) (n : Nat) (t : Sem α) (g : Heap) (N : Led) (post : α → Heap → Led → Prop) : Prop :=
  ∀ (A : Around) (s : Shared) (Q : α → Shared → Prop), Room A n → H w g N s.heap →
    (∀ a g' N' h' tk', Le g g' → H w g' N' h' → post a g' N' → Q a { s with heap := h', toks := tk' }) →
    wpAny (model PR w) A t Q (fun _ _ => False) s

section
variable {α β : Type} {w : World} {n : Nat} {g : Heap} {N : Led}

theorem sp_pure {a : α} {post : α → Heap → Led → Prop} (h : post a g N) : Sp w n (pure a) g N post :=
  fun A s Q hA hs k => wpAny_pure (k a g N s.heap s.toks (Le.refl g) hs h)
theorem sp_mono {t : Sem α} {post post' : α → Heap → Led → Prop} (h : Sp w n t g N post') (hp : ∀ a g' N', Le g g' → post' a g' N' → post a g' N') : Sp w n t g N post :=
  fun A s Q hA hs k => h A s Q hA hs fun a g' N' h' tk' l hs' p => k a g' N' h' tk' l hs' (hp a g' N' l p)
/-- the ledger's order does not matter -/
theorem H.perm {h : Heap} {N' : Led} (x : H w g N h) (p : N.Perm N') : H w g N' h :=
  ⟨x.good, x.keep, fun q hq => x.nw q (p.mem_iff.mpr hq), (p.map (·.1)).nodup_iff.mp x.nd, fun q hq => x.off q (p.mem_iff.mpr hq)⟩
theorem sp_perm {t : Sem α} {post : α → Heap → Led → Prop} {N' : Led} (p : N.Perm N') (h : Sp w n t g N' post) : Sp w n t g N post :=
  fun A s Q hA hs k => h A s Q hA (hs.perm p) k
/-- entries may be forgotten -/
theorem H.cut {h : Heap} {N' J : Led} (x : H w g N h) (p : N.Perm (N' ++ J)) : H w g N' h := by
  have y := x.perm p
  refine ⟨x.good, x.keep, fun q hq => y.nw q (List.mem_append.mpr (.inl hq)), ?_, fun q hq => y.off q (List.mem_append.mpr (.inl hq))⟩
  have := y.nd
  rw [List.map_append] at this
  exact (List.nodup_append.mp this).1
theorem H.weak {h : Heap} {N' : Led} (x : H w g N h) (e : N.map (·.1) = N'.map (·.1)) (f : ∀ a P', (a, P') ∈ N' → ∃ P, (a, P) ∈ N ∧ ∀ o, P o → P' o) : H w g N' h :=
  ⟨x.good, x.keep, fun q hq => let ⟨P, hP, i⟩ := f q.1 q.2 hq; let ⟨o, ho, hp⟩ := x.nw _ hP; ⟨o, ho, i o hp⟩, e ▸ x.nd, fun q hq => let ⟨P, hP, _⟩ := f q.1 q.2 hq; x.off (q.1, P) hP⟩

/-- e taken out of N leaves R -/
inductive Take (e : Addr × AP) : Led → Led → Prop where
  | here {r : Led} : Take e (e :: r) r
  | there {q : Addr × AP} {r r' : Led} : Take e r r' → Take e (q :: r) (q :: r')
theorem Take.perm {e : Addr × AP} : ∀ {N R : Led}, Take e N R → N.Perm (e :: R)
  | _, _, .here => List.Perm.refl _
  | _, _, .there (q := q) t => (List.Perm.cons q t.perm).trans (List.Perm.swap _ _ _)
/-- N holds all of N', in whatever order -/
inductive Cut : Led → Led → Prop where
  | same {N : Led} : Cut N N
  | nil {N : Led} : Cut N []
  | take {e : Addr × AP} {N R N' : Led} : Take e N R → Cut R N' → Cut N (e :: N')
  | drop {e : Addr × AP} {R N' : Led} : Cut R N' → Cut (e :: R) N'
theorem Cut.perm : ∀ {N N' : Led}, Cut N N' → ∃ J, N.Perm (N' ++ J)
  | N, _, .same => ⟨[], by rw [List.append_nil]⟩
  | N, _, .nil => ⟨N, List.Perm.refl _⟩
  | _, _, .take t c => let ⟨J, p⟩ := c.perm; ⟨J, t.perm.trans (List.Perm.cons _ p)⟩
  | _, _, .drop (e := e) c => let ⟨J, p⟩ := c.perm; ⟨e :: J, (List.Perm.cons e p).trans (List.perm_middle.symm)⟩
theorem H.cutN {h : Heap} {N' : Led} (x : H w g N h) (c : Cut N N') : H w g N' h := let ⟨_, p⟩ := c.perm; x.cut p
theorem sp_cut {t : Sem α} {post : α → Heap → Led → Prop} {N' : Led} (c : Cut N N') (h : Sp w n t g N' post) : Sp w n t g N post :=
  fun A s Q hA hs k => h A s Q hA (hs.cutN c) k

/-- an object that the base or the ledger tells of -/
noncomputable def Has (g : Heap) (N : Led) (a : Addr) (P : AP) : Prop := (∃ o, g.get? a = some o ∧ P o) ∨ (a, P) ∈ N
theorem Has.at {h : Heap} {a : Addr} {P : AP} (x : Has g N a P) (hs : H w g N h) : ∃ o, h.get? a = some o ∧ P o := by
  rcases x with ⟨o, e, p⟩ | hm
  · exact ⟨o, hs.keep _ _ e, p⟩
  · exact hs.nw _ hm
theorem Has.head {a : Addr} {P : AP} : Has g ((a, P) :: N) a P := .inr (.head _)
theorem Has.tail {a : Addr} {P : AP} {q : Addr × AP} (h : Has g N a P) : Has g (q :: N) a P := h.elim .inl fun h => .inr (.tail _ h)

/-- a change of one entry -/
theorem H.set {h h' : Heap} {a : Addr} {P P' : AP} {R : Led} (x : H w g ((a, P) :: R) h) (sb : Heap.SameBut a h h') (e : ∃ o, h'.get? a = some o ∧ P' o) : H w g ((a, P') :: R) h' := by
  have nd := x.nd
  rw [List.map_cons, List.nodup_cons] at nd
  have off := x.off _ (List.mem_cons_self)
  refine ⟨x.good, fun b o eb => ?_, fun q hq => ?_, by rw [List.map_cons, List.nodup_cons]; exact nd, fun q hq => ?_⟩
  · exact (sb.2 b fun z => by subst z; rw [off] at eb; cases eb).trans (x.keep b o eb)
  · rcases List.mem_cons.mp hq with rfl | hq
    · exact e
    · obtain ⟨o, ho, hp⟩ := x.nw q (.tail _ hq)
      exact ⟨o, (sb.2 q.1 fun z => nd.1 (List.mem_map.mpr ⟨q, hq, z⟩)).trans ho, hp⟩
  · rcases List.mem_cons.mp hq with rfl | hq
    · exact off
    · exact x.off q (.tail _ hq)
theorem H.grown {h h' : Heap} (x : H w g N h) (hk : ∀ b o, h.get? b = some o → h'.get? b = some o) : H w g N h' :=
  ⟨x.good, fun b o e => hk b o (x.keep b o e), fun p hp => let ⟨o, e, q⟩ := x.nw p hp; ⟨o, hk _ _ e, q⟩, x.nd, x.off⟩
/-- a new object -/
theorem H.push {h : Heap} {P : AP} (x : H w g N h) {o : Obj} (p : P o) (hf : o.isFreed = false := by rfl) : H w g ((h.objs.size, P) :: N) (h.push o) := by
  have fresh : ∀ b o', h.get? b = some o' → b ≠ h.objs.size := fun b o' e => Nat.ne_of_lt (Heap.lt_size e)
  refine ⟨x.good, fun b o' e => Heap.get?_push_of_some _ (x.keep b o' e), fun q hq => ?_, ?_, fun q hq => ?_⟩
  · rcases List.mem_cons.mp hq with rfl | hq
    · exact ⟨o, Heap.get?_push_size _ hf, p⟩
    · obtain ⟨o', e, hp⟩ := x.nw q hq
      exact ⟨o', Heap.get?_push_of_some _ e, hp⟩
  · rw [List.map_cons, List.nodup_cons]
    refine ⟨fun hm => ?_, x.nd⟩
    obtain ⟨q, hq, e⟩ := List.mem_map.mp hm
    obtain ⟨o', e', _⟩ := x.nw q hq
    exact fresh _ _ e' e
  · rcases List.mem_cons.mp hq with rfl | hq
    · cases e : g.get? h.objs.size with
      | none => rfl
      | some o' => exact absurd rfl (fresh _ _ (x.keep _ _ e))
    · exact x.off q hq
/-- objects that nobody turns any more go into the base -/
theorem H.freeze {h : Heap} {R : Led} (F : Led) (x : H w g (F ++ R) h) : ∃ g', Le g g' ∧ H w g' R h ∧ ∀ p ∈ F, ∃ o, g'.get? p.1 = some o ∧ p.2 o := by
  let g' : Heap := ⟨(Array.ofFn fun i : Fin h.objs.size => if (R.map (·.1)).contains i.1 then { (default : Obj) with data := .freed } else h.objs[i]), h.life⟩
  have hg : ∀ b, g'.get? b = if (R.map (·.1)).contains b then none else h.get? b := by
    intro b
    show (match g'.objs[b]? with | some ⟨_, _, .freed, _⟩ => none | o => o) = _
    have e : g'.objs[b]? = if hb : b < h.objs.size then some (if (R.map (·.1)).contains b then { (default : Obj) with data := .freed } else h.objs[b]) else none := by
      show (Array.ofFn _)[b]? = _
      rw [Array.getElem?_ofFn]; rfl
    rw [e]
    by_cases hb : b < h.objs.size
    · rw [dif_pos hb]
      by_cases hc : (R.map (·.1)).contains b = true
      · rw [if_pos hc, if_pos hc]
      · rw [if_neg hc, if_neg hc]
        show _ = (match h.objs[b]? with | some ⟨_, _, .freed, _⟩ => none | o => o)
        rw [Array.getElem?_eq_getElem hb]
    · rw [dif_neg hb]
      have : h.get? b = none := by
        cases q : h.get? b with
        | none => rfl
        | some o => exact absurd (Heap.lt_size q) hb
      rw [this]; split <;> split <;> rfl
  have nd := x.nd
  rw [List.map_append, List.nodup_append] at nd
  have keep : Le g g' := fun b o e => by
    rw [hg, if_neg, x.keep b o e]
    intro hc
    obtain ⟨q, hq, rfl⟩ := List.mem_map.mp (List.contains_iff_mem.mp hc)
    have := x.off q (List.mem_append.mpr (.inr hq))
    rw [this] at e; cases e
  refine ⟨g', keep, ⟨x.good.le keep, fun b o e => ?_, fun p hp => x.nw p (List.mem_append.mpr (.inr hp)), nd.2.1, fun p hp => ?_⟩, fun p hp => ?_⟩
  · rw [hg] at e; split at e
    · cases e
    · exact e
  · rw [hg, if_pos (List.contains_iff_mem.mpr (List.mem_map.mpr ⟨p, hp, rfl⟩))]
  · obtain ⟨o, e, hp'⟩ := x.nw p (List.mem_append.mpr (.inl hp))
    refine ⟨o, ?_, hp'⟩
    rw [hg, if_neg, e]
    intro hc
    obtain ⟨q, hq, z⟩ := List.mem_map.mp (List.contains_iff_mem.mp hc)
    exact nd.2.2 _ (List.mem_map.mpr ⟨p, hp, rfl⟩) _ (List.mem_map.mpr ⟨q, hq, rfl⟩) z.symm
theorem sp_freeze {t : Sem α} {post : α → Heap → Led → Prop} {F R : Led} (c : Cut N (F ++ R)) (h : ∀ g', Le g g' → (∀ p ∈ F, ∃ o, g'.get? p.1 = some o ∧ p.2 o) → Sp w n t g' R post) : Sp w n t g N post :=
  fun A s Q hA hs k => by
    obtain ⟨g', l, hs', f⟩ := H.freeze F (hs.cutN c)
    exact h g' l f A s Q hA hs' fun a g2 N2 h2 tk2 l2 => k a g2 N2 h2 tk2 (l.trans l2)
end

-- frames: a block's names, each with what it holds
noncomputable def look : List Str → List (Option Value) → Str → Option Value
  | n :: ns, v :: vs, x => if x = n then v else look ns vs x
  | _, _, _ => none
noncomputable def NsO (o : Obj) (m : Str → Option Value) : Prop := ∃ es ep, o.data = .dict es ep ∧ StrKeys es ∧ ∀ x, nsFind es x = m x
noncomputable def Frm (ns : List Str) (vs : List (Option Value)) : AP := fun o => ns.Nodup ∧ NsO o (look ns vs)
inductive LocAt : List Str → List (Option Value) → Str → Value → Prop where
  | here {x : Str} {v : Value} {ns : List Str} {vs : List (Option Value)} : LocAt (x :: ns) (some v :: vs) x v
  | there {x y : Str} {v : Value} {o : Option Value} {ns : List Str} {vs : List (Option Value)} : LocAt ns vs x v → LocAt (y :: ns) (o :: vs) x v
inductive StoAt : List Str → List (Option Value) → Str → Value → List (Option Value) → Prop where
  | here {x : Str} {v : Value} {o : Option Value} {ns : List Str} {vs : List (Option Value)} : StoAt (x :: ns) (o :: vs) x v (some v :: vs)
  | there {x y : Str} {v : Value} {o : Option Value} {ns : List Str} {vs vs' : List (Option Value)} : StoAt ns vs x v vs' → StoAt (y :: ns) (o :: vs) x v (o :: vs')
theorem LocAt.mem {ns : List Str} {vs : List (Option Value)} {x : Str} {v : Value} (h : LocAt ns vs x v) : x ∈ ns := by
  induction h with
  | here => exact .head _
  | there _ ih => exact .tail _ ih
theorem StoAt.mem {ns : List Str} {vs vs' : List (Option Value)} {x : Str} {v : Value} (h : StoAt ns vs x v vs') : x ∈ ns := by
  induction h with
  | here => exact .head _
  | there _ ih => exact .tail _ ih
theorem LocAt.look {ns : List Str} {vs : List (Option Value)} {x : Str} {v : Value} (h : LocAt ns vs x v) (nd : ns.Nodup) : look ns vs x = some v := by
  induction h with
  | here => simp [Mine.look]
  | there t ih =>
    rw [List.nodup_cons] at nd
    simp only [Mine.look]
    refine (if_neg ?_).trans (ih nd.2)
    intro e; subst e; exact nd.1 t.mem
theorem StoAt.look {ns : List Str} {vs vs' : List (Option Value)} {x : Str} {v : Value} (h : StoAt ns vs x v vs') (nd : ns.Nodup) (y : Str) : Mine.look ns vs' y = if y = x then some v else Mine.look ns vs y := by
  induction h with
  | here => simp only [Mine.look]; split <;> rfl
  | there t ih =>
    rw [List.nodup_cons] at nd
    simp only [Mine.look]
    rw [ih nd.2]
    split
    · rename_i e
      subst e
      refine (if_neg ?_).symm
      intro e; subst e; exact nd.1 t.mem
    · rfl
inductive Chg (a : Addr) (P P' : AP) : Led → Led → Prop where
  | here {r : Led} {b : Addr} (e : b = a) : Chg a P P' ((b, P) :: r) ((b, P') :: r)
  | there {q : Addr × AP} {r r' : Led} : Chg a P P' r r' → Chg a P P' (q :: r) (q :: r')
theorem Chg.take {a : Addr} {P P' : AP} {N N' : Led} (c : Chg a P P' N N') : ∃ R, N.Perm ((a, P) :: R) ∧ N'.Perm ((a, P') :: R) := by
  induction c with
  | here e => subst e; exact ⟨_, .refl _, .refl _⟩
  | there _ ih => obtain ⟨R, p, p'⟩ := ih; exact ⟨_, (p.cons _).trans (.swap _ _ _), (p'.cons _).trans (.swap _ _ _)⟩
theorem H.chg {w : World} {g h h' : Heap} {a : Addr} {P P' : AP} {N N' : Led} (x : H w g N h) (c : Chg a P P' N N') (sb : Heap.SameBut a h h') (e : ∃ o, h'.get? a = some o ∧ P' o) : H w g N' h' := by
  obtain ⟨R, p, p'⟩ := c.take
  exact ((x.perm p).set sb e).perm p'.symm
theorem Chg.mem {a : Addr} {P P' : AP} {N N' : Led} (c : Chg a P P' N N') : (a, P) ∈ N := by
  induction c with
  | here e => subst e; exact .head _
  | there _ ih => exact .tail _ ih
theorem H.ns {w : World} {g h : Heap} {N : Led} {L : Addr} {ns : List Str} {vs : List (Option Value)} (x : H w g N h) (m : (L, Frm ns vs) ∈ N) : ns.Nodup ∧ h.Ns L (look ns vs) := by
  obtain ⟨o, e, nd, es, ep, hd, sk, f⟩ := x.nw _ m
  exact ⟨nd, o, es, ep, e, hd, sk, f⟩
theorem frm_of_ns {h : Heap} {L : Addr} {ns : List Str} {vs : List (Option Value)} (nd : ns.Nodup) (x : h.Ns L (look ns vs)) : ∃ o, h.get? L = some o ∧ Frm ns vs o := by
  obtain ⟨o, es, ep, e, hd, sk, f⟩ := x
  exact ⟨o, e, nd, es, ep, hd, sk, f⟩
theorem ns_congr {h : Heap} {L : Addr} {m m' : Str → Option Value} (x : h.Ns L m) (e : ∀ y, m y = m' y) : h.Ns L m' := by
  obtain ⟨o, es, ep, a, b, c, f⟩ := x
  exact ⟨o, es, ep, a, b, c, fun y => (f y).trans (e y)⟩

noncomputable def IsCel (v : Option Value) : AP := fun o => o.data = .cell v

section
variable {w : World} {n : Nat} {g : Heap} {N : Led} {env : Env}

theorem sp_local {ns : List Str} {vs : List (Option Value)} {x : Str} {p : Pos} {v : Value} {post : Value → Heap → Led → Prop} (hm : (env.locals, Frm ns vs) ∈ N) (hx : LocAt ns vs x v)
    (hk : env.scope.kind = .function) (hl : env.kindOf x = some .local) (hd : (x == ("__debug__" : Str)) = false) (h : post v g N) : Sp w n (eval (.Name x p) env) g N post :=
  fun A s Q hA hs k => let ⟨nd, hn⟩ := hs.ns hm; wpAny_Name (wpAny_loadName_local hk hl hn (hx.look nd) (k v g N s.heap s.toks (Le.refl g) hs h)) hd
theorem sp_cellv {c : Addr} {x : Str} {p : Pos} {v : Value} {post : Value → Heap → Led → Prop} (hc : env.cells.lookup x = some c) (hm : Has g N c (IsCel (some v)))
    (hk : env.scope.kind = .function) (hl : env.kindOf x = some .cell) (hd : (x == ("__debug__" : Str)) = false) (h : post v g N) : Sp w n (eval (.Name x p) env) g N post :=
  fun A s Q hA hs k => wpAny_Name (wpAny_loadName_cell hk hl hc (hm.at hs) (k v g N s.heap s.toks (Le.refl g) hs h)) hd
theorem sp_global {x : Str} {p : Pos} {v : Value} {post : Value → Heap → Led → Prop} (e : nsIn (hd0.heap_1 w.params) mainGlobals x = some (some v)) (hg : env.globals = mainGlobals)
    (hk : env.scope.kind = .function) (hl : env.kindOf x = some .globalImplicit) (hd : (x == ("__debug__" : Str)) = false) (h : post v g N) : Sp w n (eval (.Name x p) env) g N post :=
  fun A s Q hA hs k => by
    obtain ⟨_, _, _, mg, mb, T⟩ := (hs.good.le hs.keep).top
    exact Name_function_global hk hl (loadGlobal_global (hg ▸ T.g) (mg_of (hs.good.le hs.keep).k T.g e) (k v g N s.heap s.toks (Le.refl g) hs h)) hd
theorem sp_builtin {x : Str} {p : Pos} {v : Value} {post : Value → Heap → Led → Prop} (e : nsIn (hd0.heap_1 w.params) mainGlobals x = some none) (hv : bootBuiltins x = some v) (hne : (x == ("__name__" : Str)) = false) (hg : env.globals = mainGlobals) (hb : env.builtins = builtinsNs)
    (hk : env.scope.kind = .function) (hl : env.kindOf x = some .globalImplicit) (hd : (x == ("__debug__" : Str)) = false) (h : post v g N) : Sp w n (eval (.Name x p) env) g N post :=
  fun A s Q hA hs k => by
    obtain ⟨_, _, _, mg, mb, T⟩ := (hs.good.le hs.keep).top
    exact Name_function_global hk hl (loadGlobal_builtin (hg ▸ T.g) (mg_none_of (hs.good.le hs.keep).k T.g e) (hb ▸ T.b) ((T.builtins x (fun z => by rw [z] at hne; cases hne)).trans hv) (k v g N s.heap s.toks (Le.refl g) hs h)) hd

theorem sp_store {ns : List Str} {vs vs' : List (Option Value)} {N' : Led} {x : Str} {v : Value} {post : Unit → Heap → Led → Prop} (hx : StoAt ns vs x v vs') (hc : Chg env.locals (Frm ns vs) (Frm ns vs') N N')
    (hl : env.kindOf x = some .local) (hk : env.scope.kind = .function) (h : post () g N') : Sp w n (storeName env x v) g N post :=
  fun A s Q hA hs k => by
    obtain ⟨nd, hn⟩ := hs.ns hc.mem
    refine wpAny_storeName_local hl hn (fun h' hn' sb => k () g N' h' (s.toks + 1) (Le.refl g) (hs.chg hc sb (frm_of_ns nd (ns_congr hn' fun y => (hx.look nd y).symm))) h) ?_
    rw [hk]; rfl
theorem sp_storeC {c : Addr} {v₀ : Option Value} {N' : Led} {x : Str} {v : Value} {post : Unit → Heap → Led → Prop} (hx : env.cells.lookup x = some c) (hc : Chg c (IsCel v₀) (IsCel (some v)) N N')
    (hl : env.kindOf x = some .cell) (hk : env.scope.kind = .function) (h : post () g N') : Sp w n (storeName env x v) g N post :=
  fun A s Q hA hs k => wpAny_storeName_cell hk hl hx (hs.nw _ hc.mem) fun h' hv sb => k () g N' h' s.toks (Le.refl g) (hs.chg hc sb hv) h

theorem sp_int {i : Int} {c : Nat} {p : Pos} {post : Value → Heap → Led → Prop} (h : ∀ t, post (.int i t) g N) : Sp w n (eval (.Constant (.int i) c p) env) g N post :=
  fun A s Q hA hs k => wpAny_Constant_int (k _ g N s.heap _ (Le.refl g) hs (h _))
theorem sp_str {x : Str} {c : Nat} {p : Pos} {post : Value → Heap → Led → Prop} (h : ∀ t, post (.str x t) g N) : Sp w n (eval (.Constant (.str x) c p) env) g N post :=
  fun A s Q hA hs k => Calls.Constant_str (k _ g N s.heap _ (Le.refl g) hs (h _))
theorem sp_bool {b : Bool} {c : Nat} {p : Pos} {post : Value → Heap → Led → Prop} (h : post (.bool b) g N) : Sp w n (eval (.Constant (.bool b) c p) env) g N post :=
  fun A s Q hA hs k => wpAny_Constant_bool (k _ g N s.heap s.toks (Le.refl g) hs h)
theorem sp_none {c : Nat} {p : Pos} {post : Value → Heap → Led → Prop} (h : post .none g N) : Sp w n (eval (.Constant .none c p) env) g N post :=
  fun A s Q hA hs k => wpAny_Constant_none (k _ g N s.heap s.toks (Le.refl g) hs h)

-- statements
noncomputable def seqK (w : World) (n : Nat) (rest : List Stmt) (env : Env) (post : Flow → Heap → Led → Prop) (f : Flow) (g : Heap) (N : Led) : Prop := match f with
  | .next => Sp w n (execs rest env) g N post
  | f => post f g N
theorem seqK_next {rest : List Stmt} {post : Flow → Heap → Led → Prop} (h : Sp w n (execs rest env) g N post) : seqK w n rest env post .next g N := h
theorem seqK_ret {rest : List Stmt} {v : Value} {post : Flow → Heap → Led → Prop} (h : post (.ret v) g N) : seqK w n rest env post (.ret v) g N := h
theorem seqK_cont {rest : List Stmt} {post : Flow → Heap → Led → Prop} (h : post .cont g N) : seqK w n rest env post .cont g N := h
theorem sp_nil {post : Flow → Heap → Led → Prop} (h : post .next g N) : Sp w n (execs [] env) g N post :=
  fun A s Q hA hs k => by rw [show execs [] env = pure .next from rfl]; exact wpAny_pure (k _ g N s.heap s.toks (Le.refl g) hs h)
theorem sp_cons {st : Stmt} {rest : List Stmt} {post : Flow → Heap → Led → Prop} (h : Sp w n (exec st env) g N (seqK w n rest env post)) : Sp w n (execs (st :: rest) env) g N post :=
  fun A s Q hA hs k => wpAny_execs_cons (h A s _ hA hs fun f g1 N1 h1 tk1 l1 hs1 p => by
    cases f with
    | next => exact p A _ Q hA hs1 fun a g2 N2 h2 tk2 l2 hs2 p2 => k a g2 N2 h2 tk2 (l1.trans l2) hs2 p2
    | brk => exact k _ g1 N1 h1 tk1 l1 hs1 p
    | cont => exact k _ g1 N1 h1 tk1 l1 hs1 p
    | ret v => exact k _ g1 N1 h1 tk1 l1 hs1 p)
noncomputable abbrev sp_ret_k1 (post : Flow → Heap → Led → Prop) := fun v (g : Heap) (N : Led) => post (.ret v) g N
theorem sp_ret {e : Expr} {p : Pos} {post : Flow → Heap → Led → Prop} (h : Sp w n (eval e env) g N (sp_ret_k1 post)) : Sp w n (exec (.Return (some e) p) env) g N post :=
  fun A s Q hA hs k => wpAny_Return_some (h A s _ hA hs fun v g1 N1 h1 tk1 l1 hs1 p => k _ g1 N1 h1 tk1 l1 hs1 p)
noncomputable abbrev sp_assign_k1 (post : Flow → Heap → Led → Prop) := fun (_ : Unit) (g : Heap) (N : Led) => post .next g N
noncomputable abbrev sp_assign_k2 (w : World) (n : Nat) (env : Env) (x : Str) (post : Flow → Heap → Led → Prop) := fun v (g : Heap) (N : Led) => Sp w n (storeName env x v) g N (sp_assign_k1 post)
theorem sp_assign {x : Str} {p p' : Pos} {e : Expr} {post : Flow → Heap → Led → Prop} (hs : swapsWith e (some (.Name x p')) p.line env = pure false)
    (h : Sp w n (eval e env) g N (sp_assign_k2 w n env x post)) : Sp w n (exec (.Assign [.Name x p'] e p) env) g N post :=
  fun A s Q hA hs' k => wpAny_Assign_Name (h A s _ hA hs' fun v g1 N1 h1 tk1 l1 hs1 p1 => p1 A _ _ hA hs1 fun _ g2 N2 h2 tk2 l2 hs2 p2 => k _ g2 N2 h2 tk2 (l1.trans l2) hs2 p2) hs
noncomputable abbrev sp_assignSub_k1 (post : Flow → Heap → Led → Prop) := fun (_ : Unit) (g : Heap) (N : Led) => post .next g N
noncomputable abbrev sp_assignSub_k2 (w : World) (n : Nat) (ov) (v) (post : Flow → Heap → Led → Prop) := fun iv (g : Heap) (N : Led) => Sp w n (setItem ov iv v) g N (sp_assignSub_k1 post)
noncomputable abbrev sp_assignSub_k3 (w : World) (n : Nat) (i : Expr) (env : Env) (v) (post : Flow → Heap → Led → Prop) := fun ov (g : Heap) (N : Led) => Sp w n (eval i env) g N (sp_assignSub_k2 w n ov v post)
noncomputable abbrev sp_assignSub_k4 (w : World) (n : Nat) (o : Expr) (env : Env) (i : Expr) (post : Flow → Heap → Led → Prop) := fun v (g : Heap) (N : Led) => Sp w n (eval o env) g N (sp_assignSub_k3 w n i env v post)
theorem sp_assignSub {o i e : Expr} {p p' : Pos} {post : Flow → Heap → Led → Prop} (hs : swapsWith e (some (.Subscript o i p')) p.line env = pure false)
    (h : Sp w n (eval e env) g N (sp_assignSub_k4 w n o env i post)) :
    Sp w n (exec (.Assign [.Subscript o i p'] e p) env) g N post :=
  fun A s Q hA hs' k => wpAny_Assign_Subscript (h A s _ hA hs' fun v g1 N1 h1 tk1 l1 hs1 p1 => p1 A _ _ hA hs1 fun _ g2 N2 h2 tk2 l2 hs2 p2 => p2 A _ _ hA hs2 fun _ g3 N3 h3 tk3 l3 hs3 p3 => p3 A _ _ hA hs3 fun _ g4 N4 h4 tk4 l4 hs4 p4 =>
    k _ g4 N4 h4 tk4 (l1.trans (l2.trans (l3.trans l4))) hs4 p4) hs
noncomputable abbrev sp_assignAttr_k1 (post : Flow → Heap → Led → Prop) := fun (_ : Unit) (g : Heap) (N : Led) => post .next g N
noncomputable abbrev sp_assignAttr_k2 (w : World) (n : Nat) (a : Str) (v) (post : Flow → Heap → Led → Prop) := fun ov (g : Heap) (N : Led) => Sp w n (setAttr ov a v) g N (sp_assignAttr_k1 post)
noncomputable abbrev sp_assignAttr_k3 (w : World) (n : Nat) (o : Expr) (env : Env) (a : Str) (post : Flow → Heap → Led → Prop) := fun v (g : Heap) (N : Led) => Sp w n (eval o env) g N (sp_assignAttr_k2 w n a v post)
theorem sp_assignAttr {o e : Expr} {a : Str} {p p' : Pos} {post : Flow → Heap → Led → Prop} (hs : swapsWith e (some (.Attribute o a p')) p.line env = pure false)
    (h : Sp w n (eval e env) g N (sp_assignAttr_k3 w n o env a post)) :
    Sp w n (exec (.Assign [.Attribute o a p'] e p) env) g N post :=
  fun A s Q hA hs' k => plainObj_wpAny_Assign_Attribute (h A s _ hA hs' fun v g1 N1 h1 tk1 l1 hs1 p1 => p1 A _ _ hA hs1 fun _ g2 N2 h2 tk2 l2 hs2 p2 => p2 A _ _ hA hs2 fun _ g3 N3 h3 tk3 l3 hs3 p3 =>
    k _ g3 N3 h3 tk3 (l1.trans (l2.trans l3)) hs3 p3) hs
noncomputable def noRef : Value → Bool
  | .ref _ => false
  | _ => true
noncomputable abbrev sp_expr_k1 (post : Flow → Heap → Led → Prop) := fun v (g : Heap) (N : Led) => noRef v = true ∧ post .next g N
theorem sp_expr {e : Expr} {p : Pos} {post : Flow → Heap → Led → Prop} (hi : interactive env = false) (hs : swapsWith e none p.line env = pure false)
    (h : Sp w n (eval e env) g N (sp_expr_k1 post)) : Sp w n (exec (.Expr e p) env) g N post :=
  fun A s Q hA hs' k => wpAny_Expr (h A s _ hA hs' fun v g1 N1 h1 tk1 l1 hs1 p1 => by
    have q := k _ g1 N1 h1 tk1 l1 hs1 p1.2
    cases v <;> first | exact q | exact absurd p1.1 Bool.false_ne_true) hi hs
noncomputable abbrev sp_if_k1 (w : World) (n : Nat) (b : List Stmt) (env : Env) (post : Flow → Heap → Led → Prop) (o : List Stmt) := fun c (g : Heap) (N : Led) => (c = true → Sp w n (execs b env) g N post) ∧ (c = false → Sp w n (execs o env) g N post)
theorem sp_if {t : Expr} {b o : List Stmt} {p : Pos} {post : Flow → Heap → Led → Prop}
    (h : Sp w n (isTrue t env (eval t env)) g N (sp_if_k1 w n b env post o)) : Sp w n (exec (.If t b o p) env) g N post :=
  fun A s Q hA hs k => wpAny_If (h A s _ hA hs fun c g1 N1 h1 tk1 l1 hs1 p1 => by
    cases c with
    | true => exact p1.1 rfl A _ Q hA hs1 fun a g2 N2 h2 tk2 l2 hs2 p2 => k a g2 N2 h2 tk2 (l1.trans l2) hs2 p2
    | false => exact p1.2 rfl A _ Q hA hs1 fun a g2 N2 h2 tk2 l2 hs2 p2 => k a g2 N2 h2 tk2 (l1.trans l2) hs2 p2)

-- expressions
noncomputable abbrev sp_binop_k1 (w : World) (n : Nat) (op : Operator) (a) (post : Value → Heap → Led → Prop) := fun b (g : Heap) (N : Led) => Sp w n (binaryOp op a b) g N post
noncomputable abbrev sp_binop_k2 (w : World) (n : Nat) (r : Expr) (env : Env) (op : Operator) (post : Value → Heap → Led → Prop) := fun a (g : Heap) (N : Led) => Sp w n (eval r env) g N (sp_binop_k1 w n op a post)
theorem sp_binop {l r : Expr} {op : Operator} {p : Pos} {post : Value → Heap → Led → Prop}
    (h : Sp w n (eval l env) g N (sp_binop_k2 w n r env op post)) : Sp w n (eval (.BinOp l op r p) env) g N post :=
  fun A s Q hA hs k => wpAny_BinOp (h A s _ hA hs fun a g1 N1 h1 tk1 l1 hs1 p1 => p1 A _ _ hA hs1 fun b g2 N2 h2 tk2 l2 hs2 p2 => p2 A _ _ hA hs2 fun c g3 N3 h3 tk3 l3 hs3 p3 => k c g3 N3 h3 tk3 (l1.trans (l2.trans l3)) hs3 p3)
noncomputable abbrev sp_compare_k1 (w : World) (n : Nat) (op : CmpOp) (a) (post : Value → Heap → Led → Prop) := fun b (g : Heap) (N : Led) => Sp w n (compareOp op a b) g N post
noncomputable abbrev sp_compare_k2 (w : World) (n : Nat) (r : Expr) (env : Env) (op : CmpOp) (post : Value → Heap → Led → Prop) := fun a (g : Heap) (N : Led) => Sp w n (eval r env) g N (sp_compare_k1 w n op a post)
theorem sp_compare {l r : Expr} {op : CmpOp} {p : Pos} {post : Value → Heap → Led → Prop} (hm : behindInMarks op r = false)
    (h : Sp w n (eval l env) g N (sp_compare_k2 w n r env op post)) : Sp w n (eval (.Compare l [op] [r] p) env) g N post :=
  fun A s Q hA hs k => wpAny_Compare1 (h A s _ hA hs fun a g1 N1 h1 tk1 l1 hs1 p1 => p1 A _ _ hA hs1 fun b g2 N2 h2 tk2 l2 hs2 p2 => p2 A _ _ hA hs2 fun c g3 N3 h3 tk3 l3 hs3 p3 => k c g3 N3 h3 tk3 (l1.trans (l2.trans l3)) hs3 p3) hm
noncomputable abbrev sp_tcompare_k1 (post : Bool → Heap → Led → Prop) := fun (c : Value) (g : Heap) (N : Led) => ∃ b, c = .bool b ∧ post b g N
noncomputable abbrev sp_tcompare_k2 (w : World) (n : Nat) (op : CmpOp) (a) (post : Bool → Heap → Led → Prop) := fun b (g : Heap) (N : Led) => Sp w n (compareOp op a b) g N (sp_tcompare_k1 post)
noncomputable abbrev sp_tcompare_k3 (w : World) (n : Nat) (r : Expr) (env : Env) (op : CmpOp) (post : Bool → Heap → Led → Prop) := fun a (g : Heap) (N : Led) => Sp w n (eval r env) g N (sp_tcompare_k2 w n op a post)
theorem sp_tcompare {l r : Expr} {op : CmpOp} {p : Pos} {whole : Sem Value} {post : Bool → Heap → Led → Prop} (hm : behindInMarks op r = false)
    (h : Sp w n (eval l env) g N (sp_tcompare_k3 w n r env op post)) : Sp w n (isTrue (.Compare l [op] [r] p) env whole) g N post :=
  fun A s Q hA hs k => wpAny_isTrue_Compare1 (h A s _ hA hs fun a g1 N1 h1 tk1 l1 hs1 p1 => p1 A _ _ hA hs1 fun b g2 N2 h2 tk2 l2 hs2 p2 => p2 A _ _ hA hs2 fun c g3 N3 h3 tk3 l3 hs3 ⟨b, e, p3⟩ => by
    subst e; exact wpAny_truthy_bool (k b g3 N3 h3 tk3 (l1.trans (l2.trans l3)) hs3 p3)) hm
noncomputable abbrev sp_sub_k1 (w : World) (n : Nat) (value : Expr) (slice : Expr) (o) (post : Value → Heap → Led → Prop) := fun i (g : Heap) (N : Led) => Sp w n (subscriptTail value slice o i) g N post
noncomputable abbrev sp_sub_k2 (w : World) (n : Nat) (slice : Expr) (env : Env) (value : Expr) (post : Value → Heap → Led → Prop) := fun o (g : Heap) (N : Led) => Sp w n (eval slice env) g N (sp_sub_k1 w n value slice o post)
theorem sp_sub {value slice : Expr} {p : Pos} {post : Value → Heap → Led → Prop}
    (h : Sp w n (eval value env) g N (sp_sub_k2 w n slice env value post)) : Sp w n (eval (.Subscript value slice p) env) g N post :=
  fun A s Q hA hs k => Subscript_ (h A s _ hA hs fun a g1 N1 h1 tk1 l1 hs1 p1 => p1 A _ _ hA hs1 fun b g2 N2 h2 tk2 l2 hs2 p2 => p2 A _ _ hA hs2 fun c g3 N3 h3 tk3 l3 hs3 p3 => k c g3 N3 h3 tk3 (l1.trans (l2.trans l3)) hs3 p3)
-- the arguments of a call, the items of a display
noncomputable def noStar : Expr → Bool
  | .Starred .. => false
  | _ => true
theorem star_cons {e : Expr} (h : noStar e = true) (rest : List Expr) : starEach (e :: rest) env = (false, eval e env) :: starEach rest env := by
  cases e <;> first | rfl | exact absurd h Bool.false_ne_true
theorem sp_args0 {p : Pos} {post : List Value → Heap → Led → Prop} (h : post [] g N) : Sp w n (spliced (backTo p (starEach [] env))) g N post :=
  fun A s Q hA hs k => args_nil (k _ g N s.heap s.toks (Le.refl g) hs h)
noncomputable abbrev sp_args_k1 (post : List Value → Heap → Led → Prop) (v) := fun vs (g : Heap) (N : Led) => post (v :: vs) g N
noncomputable abbrev sp_args_k2 (w : World) (n : Nat) (p : Pos) (rest : List Expr) (env : Env) (post : List Value → Heap → Led → Prop) := fun v (g : Heap) (N : Led) => Sp w n (spliced (backTo p (starEach rest env))) g N (sp_args_k1 post v)
theorem sp_args {e : Expr} {rest : List Expr} {p : Pos} {post : List Value → Heap → Led → Prop} (hn : noStar e = true)
    (h : Sp w n (eval e env) g N (sp_args_k2 w n p rest env post)) : Sp w n (spliced (backTo p (starEach (e :: rest) env))) g N post :=
  fun A s Q hA hs k => args_cons (h A s _ hA hs fun a g1 N1 h1 tk1 l1 hs1 p1 => p1 A _ _ hA hs1 fun b g2 N2 h2 tk2 l2 hs2 p2 => k _ g2 N2 h2 tk2 (l1.trans l2) hs2 p2) (star_cons hn rest)
noncomputable def IsLst (vs : List Value) : AP := fun o => ∃ k, o = { cls := .type "list", data := .seq vs.toArray k }
noncomputable def IsTupl (vs : List Value) : AP := fun o => o = { cls := .type "tuple", data := .seq vs.toArray }
noncomputable abbrev sp_list_k1 (post : Value → Heap → Led → Prop) := fun vs (g : Heap) (N : Led) => vs.length ≤ sizeLine ∧ ∀ a, post (.ref a) g ((a, IsLst vs) :: N)
theorem sp_list {es : List Expr} {p : Pos} {post : Value → Heap → Led → Prop}
    (h : Sp w n (spliced (backTo p (starEach es env))) g N (sp_list_k1 post)) : Sp w n (eval (.List es p) env) g N post :=
  fun A s Q hA hs k => List_ (h A s _ hA hs fun vs g1 N1 h1 tk1 l1 hs1 p1 => wpAny_newObj_type (k _ g1 _ _ tk1 l1 (hs1.push (P := IsLst vs) ⟨0, rfl⟩) (p1.2 _)) (by show vs.toArray.size ≤ sizeLine; rw [List.size_toArray]; exact p1.1))
end
section
variable {w : World} {n : Nat} {g : Heap} {N : Led} {env : Env}

noncomputable abbrev sp_callN_k1 (w : World) (n : Nat) (p : Pos) (args : List Expr) (env : Env) (post : Value → Heap → Led → Prop) := fun fv (g : Heap) (N : Led) => Sp w n (callWith p fv [] (backTo p (starEach args env)) []) g N post
theorem sp_callN {x : Str} {px : Pos} {args : List Expr} {p : Pos} {post : Value → Heap → Led → Prop}
    (h : Sp w n (eval (.Name x px) env) g N (sp_callN_k1 w n p args env post)) : Sp w n (eval (.Call (.Name x px) args [] p) env) g N post :=
  fun A s Q hA hs k => Call_ (h A s _ hA hs fun a g1 N1 h1 tk1 l1 hs1 p1 => p1 A _ _ hA hs1 fun b g2 N2 h2 tk2 l2 hs2 p2 => k _ g2 N2 h2 tk2 (l1.trans l2) hs2 p2)
noncomputable def notCall : Expr → Bool
  | .Call .. => false
  | _ => true
theorem base_eq {o : Expr} (h : notCall o = true) (name : Str) : attributeBase o name env (eval o env) = eval o env := by
  unfold attributeBase
  cases o <;> first | rfl | exact absurd h Bool.false_ne_true
/-- no item of the list is starred -/
noncomputable def noStars : List Expr → Bool
  | [] => true
  | e :: r => noStar e && noStars r
theorem stars_off (p : Pos) : ∀ {es : List Expr}, noStars es = true → (backTo p (starEach es env)).any (·.1) = false
  | [], _ => rfl
  | e :: r, h => by
    have h' := Bool.and_eq_true_iff.mp h
    rw [star_cons h'.1]
    exact stars_off p h'.2
theorem evalArgs_of {A : Around} {s : Shared} {E : Value → Shared → Prop} {f : Value} {p : Pos} {Q : Args → Shared → Prop} : ∀ {es : List Expr}, noStars es = true → wpAny (model PR w) A (spliced (backTo p (starEach es env))) (fun vs => Q ⟨vs, []⟩) E s →
    wpAny (model PR w) A (evalArgs f true (backTo p (starEach es env)) []) Q E s
  | [], _, h => by
    unfold evalArgs
    show wpAny _ A (spliced [] >>= _) Q E s
    refine wpAny_bind (wpAny_mono h (fun vs s' h' => ?_) fun _ _ x => x)
    refine wpAny_holding ?_
    exact wpAny_bind (wpAny_pure (wpAny_bind (wpAny_pure (wpAny_pure h'))))
  | e :: r, hn, h => by
    have h' := Bool.and_eq_true_iff.mp hn
    rw [star_cons h'.1] at h ⊢
    exact evalArgs_plain h
theorem kw_nil (p : Pos) : backToKw p (keywordEach [] env) = [] := rfl
noncomputable abbrev sp_callM_k1 (w : World) (n : Nat) (p : Pos) (args : List Expr) (env : Env) (post : Value → Heap → Led → Prop) := fun (fx : Value × List Value) (g : Heap) (N : Led) => Sp w n (callWith p fx.1 fx.2 (backTo p (starEach args env)) []) g N post
noncomputable abbrev sp_callM_k2 (w : World) (n : Nat) (name : Str) (o : Expr) (env : Env) (p : Pos) (args : List Expr) (post : Value → Heap → Led → Prop) := fun ov (g : Heap) (N : Led) => Sp w n (getMethod ov name (do return (← importBound o env).getD true)) g N (sp_callM_k1 w n p args env post)
theorem sp_callM {o : Expr} {name : Str} {apos p : Pos} {args : List Expr} {post : Value → Heap → Led → Prop} (hb : notCall o = true) (hn : noStars args = true) (hlen : args.length < 30) (hl : (apos.endLine == p.line) = true)
    (h : Sp w n (eval o env) g N (sp_callM_k2 w n name o env p args post)) :
    Sp w n (eval (.Call (.Attribute o name apos) args [] p) env) g N post :=
  fun A s Q hA hs k => by
    rw [arm_eval_Call, base_eq hb]
    refine wpAny_bind (h A s _ hA hs fun ov g1 N1 h1 tk1 l1 hs1 p1 => wpAny_bind (wpAny_standAt ?_))
    have few : methodCallForm (args.length + ([] : List Keyword).length) (backTo p (starEach args env)) (backToKw p (keywordEach [] env)) = true := by
      unfold methodCallForm
      rw [kw_nil]
      have := stars_off (env := env) p hn
      have h2 : (backTo p (starEach args env)).all (fun x => !x.1) = true := by
        rw [List.all_eq_not_any_not]; simpa using this
      rw [h2]; simp [hlen]
    unfold methodCall
    rw [few]
    refine wpAny_bind (wpAny_holding ?_)
    show wpAny _ _ (getMethod ov name (do return (← importBound o env).getD true)) _ _ _
    refine p1 A _ _ hA hs1 fun fx g2 N2 h2 tk2 l2 hs2 p2 => ?_
    have hp : methodCallPos true o env apos p = pure p := by unfold methodCallPos; rw [hl]; rfl
    dsimp only
    rw [hp]
    exact wpAny_bind (wpAny_pure (p2 A _ _ hA hs2 fun c g3 N3 h3 tk3 l3 hs3 p3 => k _ g3 N3 h3 tk3 (l1.trans (l2.trans l3)) hs3 p3))
theorem sp_cwKg {fv : Value} {first : List Value} {args : List Expr} {p : Pos} {post : Value → Heap → Led → Prop} (hn : noStars args = true) (hk : keepIn (hd0.heap_1 w.params) fv = true)
    (h : Sp w n (spliced (backTo p (starEach args env))) g N (fun vs g N => Sp w n (call fv (first ++ vs)) g N post)) : Sp w n (callWith p fv first (backTo p (starEach args env)) []) g N post :=
  fun A s Q hA hs k => callWith_of (P := (hd0.heap_1 w.params : Frag).In) (by rw [stars_off p hn]; rfl) (keeps_K hk) (evalArgs_of hn (h A s _ hA hs fun a g1 N1 h1 tk1 l1 hs1 p1 => ⟨hs1.good.k.keeps hs1.keep, p1 A _ _ hA hs1 fun b g2 N2 h2 tk2 l2 hs2 p2 => k _ g2 N2 h2 tk2 (l1.trans l2) hs2 p2⟩))
theorem sp_cwBg {id : String} {first : List Value} {args : List Expr} {p : Pos} {post : Value → Heap → Led → Prop} (hn : noStars args = true)
    (h : Sp w n (spliced (backTo p (starEach args env))) g N (fun vs g N => Sp w n (call (.builtin id) (first ++ vs)) g N post)) : Sp w n (callWith p (.builtin id) first (backTo p (starEach args env)) []) g N post :=
  fun A s Q hA hs k => Calls.callWith_builtin (stars_off p hn) (evalArgs_of hn (h A s _ hA hs fun a g1 N1 h1 tk1 l1 hs1 p1 => p1 A _ _ hA hs1 fun b g2 N2 h2 tk2 l2 hs2 p2 => k _ g2 N2 h2 tk2 (l1.trans l2) hs2 p2))
theorem sp_cwTg {T : String} {first : List Value} {args : List Expr} {p : Pos} {post : Value → Heap → Led → Prop} (hn : noStars args = true)
    (h : Sp w n (spliced (backTo p (starEach args env))) g N (fun vs g N => Sp w n (call (.type T) (first ++ vs)) g N post)) : Sp w n (callWith p (.type T) first (backTo p (starEach args env)) []) g N post :=
  fun A s Q hA hs k => PyProof.Rows.callWith_type (stars_off p hn) (evalArgs_of hn (h A s _ hA hs fun a g1 N1 h1 tk1 l1 hs1 p1 => p1 A _ _ hA hs1 fun b g2 N2 h2 tk2 l2 hs2 p2 => k _ g2 N2 h2 tk2 (l1.trans l2) hs2 p2))
noncomputable abbrev sp_cwK_k1 (w : World) (n : Nat) (fv : Value) (post : Value → Heap → Led → Prop) := fun vs (g : Heap) (N : Led) => Sp w n (call fv vs) g N post
theorem sp_cwK {fv : Value} {args : List Expr} {p : Pos} {post : Value → Heap → Led → Prop} (hn : noStars args = true) (hk : keepIn (hd0.heap_1 w.params) fv = true)
    (h : Sp w n (spliced (backTo p (starEach args env))) g N (sp_cwK_k1 w n fv post)) : Sp w n (callWith p fv [] (backTo p (starEach args env)) []) g N post := sp_cwKg hn hk h
noncomputable abbrev sp_cwK1_k1 (w : World) (n : Nat) (fv : Value) (x : Value) (post : Value → Heap → Led → Prop) := fun vs (g : Heap) (N : Led) => Sp w n (call fv (x :: vs)) g N post
theorem sp_cwK1 {fv : Value} {x : Value} {args : List Expr} {p : Pos} {post : Value → Heap → Led → Prop} (hn : noStars args = true) (hk : keepIn (hd0.heap_1 w.params) fv = true)
    (h : Sp w n (spliced (backTo p (starEach args env))) g N (sp_cwK1_k1 w n fv x post)) : Sp w n (callWith p fv [x] (backTo p (starEach args env)) []) g N post := sp_cwKg hn hk h
noncomputable abbrev sp_cwB_k1 (w : World) (n : Nat) (id : String) (post : Value → Heap → Led → Prop) := fun vs (g : Heap) (N : Led) => Sp w n (call (.builtin id) vs) g N post
theorem sp_cwB {id : String} {args : List Expr} {p : Pos} {post : Value → Heap → Led → Prop} (hn : noStars args = true) 
    (h : Sp w n (spliced (backTo p (starEach args env))) g N (sp_cwB_k1 w n id post)) : Sp w n (callWith p (.builtin id) [] (backTo p (starEach args env)) []) g N post := sp_cwBg hn h
noncomputable abbrev sp_cwB1_k1 (w : World) (n : Nat) (id : String) (x : Value) (post : Value → Heap → Led → Prop) := fun vs (g : Heap) (N : Led) => Sp w n (call (.builtin id) (x :: vs)) g N post
theorem sp_cwB1 {id : String} {x : Value} {args : List Expr} {p : Pos} {post : Value → Heap → Led → Prop} (hn : noStars args = true) 
    (h : Sp w n (spliced (backTo p (starEach args env))) g N (sp_cwB1_k1 w n id x post)) : Sp w n (callWith p (.builtin id) [x] (backTo p (starEach args env)) []) g N post := sp_cwBg hn h
noncomputable abbrev sp_cwT_k1 (w : World) (n : Nat) (T : String) (post : Value → Heap → Led → Prop) := fun vs (g : Heap) (N : Led) => Sp w n (call (.type T) vs) g N post
theorem sp_cwT {T : String} {args : List Expr} {p : Pos} {post : Value → Heap → Led → Prop} (hn : noStars args = true) 
    (h : Sp w n (spliced (backTo p (starEach args env))) g N (sp_cwT_k1 w n T post)) : Sp w n (callWith p (.type T) [] (backTo p (starEach args env)) []) g N post := sp_cwTg hn h

-- a def's own frame
theorem look_binds : ∀ {ps : List Str} {vs : List Value} {ns : List Str} {os : List (Option Value)}, ps.length = vs.length → (ps ++ ns).Nodup → (∀ y, look ns os y = none) → ∀ y, (ps.zip vs).reverse.lookup y = look (ps ++ ns) (vs.map some ++ os) y
  | [], [], _, _, _, _, h0, y => (h0 y).symm
  | [], _ :: _, _, _, h, _, _, _ => by cases h
  | _ :: _, [], _, _, h, _, _, _ => by cases h
  | p :: ps, v :: vs, ns, os, h, nd, h0, y => by
    rw [List.cons_append, List.nodup_cons] at nd
    have ih := look_binds (ps := ps) (vs := vs) (by simpa using h) nd.2 h0 y
    rw [List.zip_cons_cons, List.reverse_cons, List.lookup_append, ih]
    show _ = look (p :: (ps ++ ns)) (some v :: (vs.map some ++ os)) y
    simp only [look]
    by_cases e : y = p
    · subst e
      rw [if_pos rfl, ← ih]
      have : (ps.zip vs).reverse.lookup y = none := by
        rw [List.lookup_eq_none_iff]
        intro q hq
        have hm := List.mem_reverse.mp hq
        have : q.1 ∈ ps := (List.of_mem_zip (a := q.1) (b := q.2) hm).1
        simp only [bne_iff_ne, ne_eq, beq_eq_false_iff_ne]
        intro z
        exact nd.1 (List.mem_append.mpr (.inl (z ▸ this)))
      rw [this]
      simp [List.lookup_cons]
    · rw [if_neg e]
      cases q : look (ps ++ ns) (vs.map some ++ os) y with
      | some x => simp
      | none =>
        simp only [Option.or_eq_none_iff, List.lookup_cons, List.lookup_nil]
        have : (y == p) = false := by simpa using e
        rw [this]; simp
theorem look_nones : ∀ (ns : List Str) (k : Nat) (y : Str), look ns (List.replicate k none) y = none
  | [], _, _ => by cases ‹Nat› <;> rfl
  | _ :: _, 0, _ => rfl
  | x :: ns, k + 1, y => by
    rw [List.replicate_succ]
    simp only [look]
    split
    · rfl
    · exact look_nones ns k y

noncomputable def retOf : Flow → Value
  | .ret v => v
  | _ => .none
/-- a call, as the machine sees it -/
noncomputable def Cd (w : World) (n : Nat) (f : Value) (vs : List Value) (g : Heap) (N : Led) (post : Value → Heap → Led → Prop) : Prop :=
  ∀ (A : Around) (s : Shared) (R : Result → Shared → Prop), Room A n → H w g N s.heap →
    (∀ r g' N' h' tk', Le g g' → H w g' N' h' → post r g' N' → R (.ok (.ret r)) { s with heap := h', toks := tk' }) → codeAny (model PR w) A (.call f ⟨vs, []⟩) R s
theorem sp_of_cd {f : Value} {vs : List Value} {post : Value → Heap → Led → Prop} (h : Cd w n f vs g N post) : Sp w n (call f vs) g N post :=
  fun A s Q hA hs k => wpAny_call (h A s _ hA hs fun r g' N' h' tk' l hs' p => k r g' N' h' tk' l hs' p)
/-- a def of the text's, none of whose names another block reads -/
theorem cd_fn {f : Addr} {vs : List Value} {name qual : Str} {params : Arguments} {body : List Stmt} {scope : Scope} {dV kV doc pm cdv ct oc : Value} {an od : Option Addr} {osl : Array (Option Value)} {ps ns fs : List Str} {os : List (Option Value)}
    {post : Value → Heap → Led → Prop}
    (ho : (hd0.heap_1 w.params).lookup f = some ⟨oc, od, .func (fnOf name qual params body scope dV kV doc pm an cdv ct), osl⟩) (hcd : codeIn (hd0.heap_1 w.params) cdv qual = true) 
    (hbind : bindArgs (fnOf name qual params body scope dV kV doc pm an cdv ct) ⟨vs, []⟩ = pure (ps.zip vs)) (hlen : ps.length = vs.length) (hfs : fs = ps ++ ns) (hos : os = vs.map some ++ List.replicate ns.length none) (hnd : fs.Nodup)
    (hloc : (ps.all fun x => decide (scope.names.lookup x = some .local)) = true) (hco : scope.isCoroutine = false) (hgen : scope.isGenerator = false) (hk : scope.kind = .function) (hcell : (scope.names.all fun x => x.2 != .cell) = true)
    (h : ∀ L, Sp w n (execs body (envOf qual scope L f cdv)) g ((L, Frm fs os) :: N) (fun fl g' N' => ∃ N'', Cut N' N'' ∧ post (retOf fl) g' N'')) :
    Cd w (n + 1) (.ref f) vs g N post :=
  fun A s R hA hs k => by
    subst hfs hos
    refine (codeAny_call_function hA.depth (hs.keep _ _ (hs.good.k _ _ ho)) rfl hco hgen rfl (codeRec_of (hs.good.k.keeps hs.keep) hcd) ?_)
    rw [hbind]
    refine wpAny_pure (wpAny_newFunctionEnv (by
      intro x hx; have := List.all_eq_true.mp hcell x hx; simpa using this) (by
      intro x hx
      have := (List.of_mem_zip (a := x.1) (b := x.2) hx).1
      exact of_decide_eq_true (List.all_eq_true.mp hloc _ this)) (fun h₁ hns hsb => ?_) hk)
    obtain ⟨_, _, _, _, _, T⟩ := (hs.good.le hs.keep).top
    refine ⟨T.nolimit.fresh _ hsb, codeAny_func ?_⟩
    have hs1 : H w g ((s.heap.objs.size, Frm (ps ++ ns) (vs.map some ++ List.replicate ns.length none)) :: N) h₁ := by
      have z : H w g ((s.heap.objs.size, fun _ => True) :: N) (s.heap.push { cls := .type "frame", data := .dict #[] }) := hs.push trivial
      exact z.set hsb (frm_of_ns hnd (ns_congr hns fun y => look_binds hlen hnd (look_nones ns _) y))
    have hA' : Room (A.deeper (envOf qual scope s.heap.objs.size f cdv)) n := by
      obtain ⟨hh, a, b⟩ := hA
      refine ⟨hh, ?_, ?_⟩
      · show A.depth + 1 + 4 * n < _; omega
      · show A.units + 3 + 16 * n < _; omega
    exact wpAny_mono (h _ _ { s with heap := h₁, toks := s.toks + (ps.zip vs).length } (fun fl s' => R (.ok (.ret (retOf fl))) s') hA' hs1 fun fl g' N' h' tk' l hs' ⟨N'', c, p⟩ => k _ g' N'' h' tk' l (hs'.cutN c) p)
      (fun fl s' z => by cases fl <;> exact z) (fun _ _ z => z.elim)
end
section
variable {w : World} {n : Nat} {g : Heap} {N : Led} {env : Env}

-- ints
theorem sp_add {a b : Int} {t u : Tok} {post : Value → Heap → Led → Prop} (h : ∀ tk, post (.int (a + b) tk) g N) : Sp w n (binaryOp .Add (.int a t) (.int b u)) g N post :=
  fun A s Q hA hs k => add_int (k _ g N s.heap _ (Le.refl g) hs (h _))
theorem sp_minus {a b : Int} {t u : Tok} {post : Value → Heap → Led → Prop} (h : ∀ tk, post (.int (a - b) tk) g N) : Sp w n (binaryOp .Sub (.int a t) (.int b u)) g N post :=
  fun A s Q hA hs k => sub_int (k _ g N s.heap _ (Le.refl g) hs (h _))
theorem sp_mul {a b : Int} {t u : Tok} {post : Value → Heap → Led → Prop} (hm : (-(2 ^ 64) < a ∧ a < 2 ^ 64) ∨ (-(2 ^ 64) < b ∧ b < 2 ^ 64)) (h : ∀ tk, post (.int (a * b) tk) g N) : Sp w n (binaryOp .Mult (.int a t) (.int b u)) g N post :=
  fun A s Q hA hs k => mul_int (k _ g N s.heap _ (Le.refl g) hs (h _)) (hm.elim (fun z => .of_left (intBits_le_64 z.1 z.2)) fun z => .of_right (intBits_le_64 z.1 z.2))
theorem sp_mod {a b : Int} {t u : Tok} {post : Value → Heap → Led → Prop} (hb : 0 < b) (h : ∀ tk, post (.int (a % b) tk) g N) : Sp w n (binaryOp .Mod (.int a t) (.int b u)) g N post :=
  fun A s Q hA hs k => mod_int' (by omega) (by rw [Int.fmod_eq_emod_of_nonneg _ (by omega)]; exact k _ g N s.heap _ (Le.refl g) hs (h _))
theorem sp_eq {a b : Int} {t u : Tok} {post : Value → Heap → Led → Prop} (h : post (.bool (decide (a = b))) g N) : Sp w n (compareOp .Eq (.int a t) (.int b u)) g N post :=
  fun A s Q hA hs k => eq_int (k _ g N s.heap s.toks (Le.refl g) hs (by rw [show (a == b) = decide (a = b) from by rw [Bool.eq_iff_iff]; simp]; exact h))
theorem sp_lt {a b : Int} {t u : Tok} {post : Value → Heap → Led → Prop} (h : post (.bool (decide (a < b))) g N) : Sp w n (compareOp .Lt (.int a t) (.int b u)) g N post :=
  fun A s Q hA hs k => lt_int (k _ g N s.heap s.toks (Le.refl g) hs h)
theorem sp_le {a b : Int} {t u : Tok} {post : Value → Heap → Led → Prop} (h : post (.bool (decide (a ≤ b))) g N) : Sp w n (compareOp .LtE (.int a t) (.int b u)) g N post :=
  fun A s Q hA hs k => le_int (k _ g N s.heap s.toks (Le.refl g) hs h)
theorem sp_gt {a b : Int} {t u : Tok} {post : Value → Heap → Led → Prop} (h : post (.bool (decide (a > b))) g N) : Sp w n (compareOp .Gt (.int a t) (.int b u)) g N post :=
  fun A s Q hA hs k => gt_int (k _ g N s.heap s.toks (Le.refl g) hs h)
theorem sp_ge {a b : Int} {t u : Tok} {post : Value → Heap → Led → Prop} (h : post (.bool (decide (a ≥ b))) g N) : Sp w n (compareOp .GtE (.int a t) (.int b u)) g N post :=
  fun A s Q hA hs k => ge_int (k _ g N s.heap s.toks (Le.refl g) hs h)

noncomputable def AtG (g : Heap) (a : Addr) (P : AP) : Prop := ∃ o, g.get? a = some o ∧ P o
theorem AtG.le {g g' : Heap} {a : Addr} {P : AP} (x : AtG g a P) (l : Le g g') : AtG g' a P := let ⟨o, e, p⟩ := x; ⟨o, l _ _ e, p⟩
theorem AtG.has {g : Heap} {N : Led} {a : Addr} {P : AP} (x : AtG g a P) : Has g N a P := .inl x
-- lists
theorem IsLst.isList {h : Heap} {a : Addr} {vs : List Value} (x : ∃ o, h.get? a = some o ∧ IsLst vs o) : h.IsList a vs.toArray := by
  obtain ⟨_, e, k, rfl⟩ := x
  exact ⟨_, e, rfl, k, rfl⟩
theorem sp_item {value slice : Expr} {l : Addr} {vs : List Value} {k : Int} {t : Tok} {x : Value} {post : Value → Heap → Led → Prop} (hl : Has g N l (IsLst vs)) (h0 : 0 ≤ k) (hx : vs[k.toNat]? = some x) (hhi : k < 2 ^ 63)
    (hs : subscripted slice false (.ref l) (.int k t) = operate [.ref l, .int k t] (getItem (.ref l) (.int k t))) (h : post x g N) : Sp w n (subscriptTail value slice (.ref l) (.int k t)) g N post :=
  fun A s Q hA hs' K => tail_any (IsLst.isList (hl.at hs')).typeIs slot_list_getitem.lookup (wpAny_getItem_list (IsLst.isList (hl.at hs')) h0 hhi (by simpa using hx) (K _ g N s.heap s.toks (Le.refl g) hs' h)) hs
theorem setItem_lst {A : Around} {E : Value → Shared → Prop} {s : Shared} {l : Addr} {items : Array Value} {n : Nat} {k : Int} {t : Tok} {v : Value} {Q : Unit → Shared → Prop} (ho : s.heap.get? l = some { cls := .type "list", data := .seq items n })
    (h0 : 0 ≤ k) (hfit : k < 2 ^ 63) (hn : k < items.size)
    (hQ : ∀ h', h'.get? l = some { cls := .type "list", data := .seq (items.setIfInBounds k.toNat v) n } → Heap.SameBut l s.heap h' → Q () { s with heap := h' }) :
    wpAny (model PR w) A (setItem (.ref l) (.int k t) v) Q E s := by
  have hl : s.heap.IsList l items := ⟨_, ho, rfl, n, rfl⟩
  unfold setItem
  try with_reducible refine wpAny_holding ?_
  first | refine wpAny_bind (wpAny_pure ?_) | skip
  refine wpAny_bind (wpAny_sequenceKey hl.typeIs (by decide) ?_)
  refine wpAny_bind (wpAny_callSpecial?_slot (name := Str.ofString "__setitem__") hl.typeIs slot_list_setitem
    (wpAny_call_entry slot_list_setitem hl.typeIs entry_list_setitem ?_ (args_list_setitem _ _ _)))
  show wpAny _ _ (Builtin.List.listSubscript? (.int k t) >>= _) _ _ s
  refine wpAny_bind (wpAny_listSubscript_int (fitsIndex_of h0 hfit) ?_)
  clear hfit
  obtain ⟨j, rfl⟩ := Int.eq_ofNat_of_zero_le h0
  have hj : j < items.size := by omega
  have hx' : items[j]? = some items[j] := Array.getElem?_eq_getElem hj
  show wpAny _ _ ((seqItemAt l j >>= fun r => pure (r.map (j, ·))) >>= _) _ _ s
  refine wpAny_bind (wpAny_bind (wpAny_seqItemAt ho rfl (wpAny_pure ?_)))
  rw [hx']
  show wpAny _ _ (setSeqItemAt l j v >>= _) _ _ s
  have hfin : (s.heap.update l (Obj.mapSeq (·.setIfInBounds j v))).get? l = some { cls := .type "list", data := .seq (items.setIfInBounds j v) n } := by
    rw [Heap.get?_update_self _ ho (by simp [Obj.mapSeq]; rfl)]
    simp [Obj.mapSeq]
  refine wpAny_bind (wpAny_setSeqItemAt ho rfl ?_)
  first
    | exact wpAny_bind (wpAny_pure (wpAny_pure ⟨.none, rfl, wpAny_pure (hQ _ hfin (Heap.SameBut.update ..))⟩))
    | exact wpAny_pure ⟨.none, rfl, wpAny_pure (hQ _ hfin (Heap.SameBut.update ..))⟩
inductive SetAt : Nat → List Value → Value → List Value → Prop where
  | here {x v : Value} {r : List Value} : SetAt 0 (x :: r) v (v :: r)
  | there {i : Nat} {x v : Value} {r r' : List Value} : SetAt i r v r' → SetAt (i + 1) (x :: r) v (x :: r')
theorem SetAt.eq {i : Nat} {vs vs' : List Value} {v : Value} (h : SetAt i vs v vs') : vs.set i v = vs' ∧ i < vs.length := by
  induction h with
  | here => exact ⟨rfl, by simp⟩
  | there _ ih => exact ⟨by rw [List.set_cons_succ, ih.1], by simpa using ih.2⟩
theorem sp_setItem {l : Addr} {vs vs' : List Value} {N' : Led} {k : Int} {i : Nat} {t : Tok} {v : Value} {post : Unit → Heap → Led → Prop} (hl : Chg l (IsLst vs) (IsLst vs') N N') (hk : k = Int.ofNat i) (hs : SetAt i vs v vs') (hhi : i < 2 ^ 63)
    (h : post () g N') : Sp w n (setItem (.ref l) (.int k t) v) g N post :=
  fun A s Q hA hs' K => by
    obtain ⟨_, ho, n', rfl⟩ := hs'.nw _ hl.mem
    subst hk
    obtain ⟨rfl, hlt⟩ := hs.eq
    refine setItem_lst ho (Int.ofNat_nonneg _) (by rw [Int.ofNat_eq_natCast]; omega) (by rw [List.size_toArray, Int.ofNat_eq_natCast]; omega) fun h' e sb => K () g N' h' s.toks (Le.refl g) (hs'.chg hl sb ⟨_, e, n', by simp⟩) h
theorem sp_len {l : Addr} {vs : List Value} {post : Value → Heap → Led → Prop} (hl : Has g N l (IsLst vs)) (hz : vs.length < 2 ^ 63) (h : ∀ tk, post (.int vs.length tk) g N) : Sp w n (call (.builtin "len") [.ref l]) g N post :=
  fun A s Q hA hs K => call_len_list (IsLst.isList (hl.at hs)) (by rw [List.size_toArray]; omega) (by rw [List.size_toArray]; exact K _ g N s.heap _ (Le.refl g) hs (h _))
end

theorem branch {p : Prop} [Decidable p] {X Y : Prop} (h1 : p → X) (h2 : ¬ p → Y) : (decide p = true → X) ∧ (decide p = false → Y) :=
  ⟨fun e => h1 (of_decide_eq_true e), fun e => h2 (of_decide_eq_false e)⟩
theorem branchT {X Y : Prop} (h : X) : (true = true → X) ∧ (true = false → Y) := ⟨fun _ => h, fun e => (nomatch e)⟩
theorem branchF {X Y : Prop} (h : Y) : (false = true → X) ∧ (false = false → Y) := ⟨fun e => (nomatch e), fun _ => h⟩
theorem boolEx {c : Value} {b : Bool} {P : Bool → Prop} (e : c = .bool b) (h : P b) : ∃ b, c = .bool b ∧ P b := ⟨b, e, h⟩
-- a name for each small search: membership, LocAt, StoAt, Chg, Take, Has, Cut
local macro_rules | `(tactic| kcf_m) => `(tactic| first | with_reducible assumption | exact List.Mem.head _ | (refine List.Mem.tail _ ?_; kcf_m))
local macro_rules | `(tactic| kat_tups) => `(tactic| first | with_reducible exact LocAt.here | ((with_reducible refine' LocAt.there ?la); (case la => kat_tups)))
local macro_rules | `(tactic| kct_strs) => `(tactic| first | with_reducible exact StoAt.here | ((with_reducible refine' StoAt.there ?sa); (case sa => kct_strs)))
local macro_rules | `(tactic| kbo_bools) => `(tactic| first | with_reducible assumption | exact Chg.here rfl | (refine' Chg.there ?ch; (case ch => kbo_bools)))
local macro_rules | `(tactic| kba_ints) => `(tactic| with_reducible first | assumption | exact Take.here | (refine' Take.there ?ta; (case ta => kba_ints)))
local macro_rules | `(tactic| kpc_g) => `(tactic| first | with_reducible assumption | (with_reducible refine' AtG.le ?kz ?kl; (case kl => with_reducible assumption); (case kz => kpc_g)))
local macro_rules | `(tactic| kmk_part) => `(tactic| first | with_reducible exact Has.head | (with_reducible refine' Has.tail ?ha; (case ha => kmk_part)))
local macro_rules | `(tactic| k_clsL) => `(tactic| with_reducible first | assumption | (refine' AtG.has ?ka; (case ka => kpc_g)) | kmk_part)
local macro_rules | `(tactic| k_subL) => `(tactic| with_reducible first | exact Cut.same | (refine' Cut.take ?ct ?cr; (case ct => kba_ints); (case cr => k_subL)) | (refine' Cut.drop ?cd; (case cd => k_subL)) | exact Cut.nil)
local macro_rules | `(tactic| kln_le) => `(tactic| first | exact SetAt.here | (refine' SetAt.there ?se; (case se => kln_le)))

/-- the pot: the cells, the place, the seed -/
structure Pot where
  cells : List Int
  at_ : Nat
  sd : Int
noncomputable def Pot.ok (p : Pot) : Prop := p.cells.length ≤ 48 ∧ 0 ≤ p.sd ∧ p.sd < 100000 ∧ ∀ x ∈ p.cells, 0 ≤ x
noncomputable def Pot.draw (p : Pot) (many : Int) : Int := match p.cells[p.at_]? with
  | some x => x % many
  | none => ((p.sd * 75 + 74) % 65537) % many
noncomputable def Pot.next (p : Pot) : Pot := match p.cells[p.at_]? with
  | some _ => ⟨p.cells, p.at_ + 1, p.sd⟩
  | none => ⟨p.cells, p.at_ + 1, (p.sd * 75 + 74) % 65537⟩
noncomputable abbrev PotO (c : Addr) (p : Pot) (t1 t2 : Tok) : AP := IsLst [.ref c, .int p.at_ t1, .int p.sd t2]
noncomputable def PotG (g : Heap) (c : Addr) (cells : List Int) : Prop := ∃ cs, AtG g c (IsLst cs) ∧ IntsAre cs cells
theorem ints_len {vs : List Value} {ns : List Int} (h : IntsAre vs ns) : vs.length = ns.length := by
  induction h with
  | nil => rfl
  | cons _ _ _ ih => simp [ih]
theorem ints_get {vs : List Value} {ns : List Int} (h : IntsAre vs ns) {i : Nat} {x : Int} (e : ns[i]? = some x) : ∃ t, vs[i]? = some (.int x t) := by
  induction h generalizing i with
  | nil => simp at e
  | cons n t _ ih =>
    cases i with
    | zero => simp at e; subst e; exact ⟨t, rfl⟩
    | succ i => simpa using ih (by simpa using e)
theorem Pot.next_ok {p : Pot} (h : p.ok) : p.next.ok := by
  obtain ⟨a, b, c, d⟩ := h
  unfold Pot.next
  split
  · exact ⟨a, b, c, d⟩
  · exact ⟨a, by show 0 ≤ _ % _; omega, by show _ % _ < (100000 : Int); omega, d⟩
theorem Pot.next_cells (p : Pot) : p.next.cells = p.cells := by unfold Pot.next; split <;> rfl
theorem Pot.draw_lt {p : Pot} {m : Int} (h : 0 < m) : 0 ≤ p.draw m ∧ p.draw m < m := by
  unfold Pot.draw
  split
  · exact ⟨Int.emod_nonneg _ (by omega), Int.emod_lt_of_pos _ h⟩
  · exact ⟨Int.emod_nonneg _ (by omega), Int.emod_lt_of_pos _ h⟩

-- instances
noncomputable def IsInst (C dx : Addr) : AP := fun o => o = instObj C dx
theorem lookIn_ns {o : Obj} {m : Str → Option Value} (x : NsO o m) (name : Str) : lookIn name o = some (m name) := by
  obtain ⟨es, ep, hd, sk, f⟩ := x
  have hf := f name
  unfold lookIn
  rw [hd]
  dsimp only
  unfold nsFind findBy at hf
  rw [← Array.find?_toList] at hf
  cases e : es.toList.find? (fun x => x.key.isStr name) with
  | some en =>
    have e' : es.toList.find? (fun e => e.key.isStr name) = some en := e
    simp only [e'] at hf ⊢
    rw [← hf]; rfl
  | none =>
    have e' : es.toList.find? (fun e => e.key.isStr name) = none := e
    simp only [e'] at hf ⊢
    have : es.toList.any (·.refKey) = false := by
      rw [List.any_eq_false]
      intro en hm
      obtain ⟨nn, t, hk⟩ := sk en (by simpa using hm)
      simp [DictEntry.refKey, hk]
    rw [this]
    simp only [Bool.false_eq_true, if_false]
    rw [← hf]; rfl
noncomputable def somes (vs : List (Option Value)) : Nat := (vs.filter (·.isSome)).length
/-- an object's own dict -/
noncomputable def Atr (ns : List Str) (vs : List (Option Value)) : AP := fun o => ns.Nodup ∧ vs.length ≤ 1000 ∧ ∃ es ep, o.data = .dict es ep ∧ StrKeys es ∧ (∀ x, nsFind es x = look ns vs x) ∧ es.size ≤ somes vs
theorem Atr.nso {ns : List Str} {vs : List (Option Value)} {o : Obj} (x : Atr ns vs o) : ns.Nodup ∧ NsO o (look ns vs) := let ⟨a, _, es, ep, b, c, d, _⟩ := x; ⟨a, es, ep, b, c, d⟩
theorem StoAt.count {ns : List Str} {vs vs' : List (Option Value)} {x : Str} {v : Value} (h : StoAt ns vs x v vs') (nd : ns.Nodup) : vs'.length = vs.length ∧ somes vs' = somes vs + (if (Mine.look ns vs x).isSome then 0 else 1) := by
  induction h with
  | here => rename_i o _ _; cases o <;> simp [somes, Mine.look]
  | there t ih =>
    rename_i o _ _ _
    rw [List.nodup_cons] at nd
    obtain ⟨a, b⟩ := ih nd.2
    refine ⟨by simp [a], ?_⟩
    have : ∀ (y x : Str) (nn : List Str) (o : Option Value) (vv : List (Option Value)), x ≠ y → Mine.look (y :: nn) (o :: vv) x = Mine.look nn vv x := by
      intro y x nn o vv hne
      simp only [Mine.look]
      exact if_neg hne
    rw [this _ _ _ _ _ (by intro e; subst e; exact nd.1 t.mem)]
    unfold somes at b ⊢
    cases o <;> simp [b] <;> omega
theorem look_notin : ∀ {ns : List Str} {vs : List (Option Value)} {x : Str}, x ∉ ns → look ns vs x = none
  | [], _, _, _ => by unfold look; rfl
  | _ :: _, [], _, _ => by unfold look; rfl
  | n :: ns, v :: vs, x, h => by
    simp only [look]
    rw [if_neg (by intro e; subst e; exact h List.mem_cons_self)]
    exact look_notin fun m => h (List.mem_cons_of_mem _ m)
section
variable {w : World} {n : Nat} {g : Heap} {N : Led}
theorem instAt {h : Heap} {x C dx : Addr} {P : AP} (hs : H w g N h) (hx : Has g N x (IsInst C dx)) (hd : Has g N dx P) : ∃ od, InstAt h x (instObj C dx) C (some od) ∧ P od ∧ h.get? dx = some od := by
  obtain ⟨_, e, rfl⟩ := hx.at hs
  obtain ⟨od, e', p⟩ := hd.at hs
  exact ⟨od, ⟨e, rfl, rfl, e'⟩, p, e'⟩
theorem sp_getattr {x C dx : Addr} {ns : List Str} {vs : List (Option Value)} {name : Str} {v : Value} {attr : Option Value} {ex : Bool} {post : Value → Heap → Led → Prop} (hx : Has g N x (IsInst C dx)) (hdd : Has g N dx (Atr ns vs)) (hl : LocAt ns vs name v)
    (hg : plainGet (hd0.heap_1 w.params) C name = true) (hh : hasDictIn (hd0.heap_1 w.params) C = true) (ha : findIn (hd0.heap_1 w.params) (.ref C) name = some attr) (hn : noGet (hd0.heap_1 w.params) attr = true) (hv : handedIn v = true)
    (h : post v g N) : Sp w n (getAttr (.ref x) name ex) g N post :=
  fun A s Q hA hs k => by
    obtain ⟨od, I, hat, _⟩ := instAt hs hx hdd
    obtain ⟨nd, hns⟩ := hat.nso
    exact get_value (hs.good.k.keeps hs.keep) I (plainGet_of hg).1 (findObj_own hh ha hn (by rw [lookIn_ns hns, hl.look nd])) hv (k v g N s.heap _ (Le.refl g) hs h)
theorem sp_method {x C dx f : Addr} {ns : List Str} {vs : List (Option Value)} {name : Str} {pl : Sem Bool} {post : Value × List Value → Heap → Led → Prop} (hx : Has g N x (IsInst C dx)) (hdd : Has g N dx (Atr ns vs))
    (hg : plainGet (hd0.heap_1 w.params) C name = true) (hf : findIn (hd0.heap_1 w.params) (.ref C) name = some (some (.ref f))) (ht : isFn (hd0.heap_1 w.params) (.ref f) = true) (hl : (ns.all fun y => y != name) = true)
    (h : post (.ref f, [.ref x]) g N) : Sp w n (getMethod (.ref x) name pl) g N post :=
  fun A s Q hA hs k => by
    obtain ⟨od, I, hat, _⟩ := instAt hs hx hdd
    obtain ⟨nd, hns⟩ := hat.nso
    refine method_fn (hs.good.k.keeps hs.keep) I (plainGet_of hg).1 (plainGet_of hg).2 hf (beq_iff_eq.mp ht) ?_ (k _ g N s.heap s.toks (Le.refl g) hs h)
    show (lookIn name od).map _ = _
    rw [lookIn_ns hns, look_notin]
    · rfl
    · intro hm
      have := List.all_eq_true.mp hl name hm
      simp at this
theorem sp_setattr {x C dx : Addr} {ns : List Str} {vs vs' : List (Option Value)} {N' : Led} {name : Str} {v : Value} {post : Unit → Heap → Led → Prop} (hx : Has g N x (IsInst C dx)) (hc : Chg dx (Atr ns vs) (Atr ns vs') N N') (hst : StoAt ns vs name v vs')
    (hs : findIn (hd0.heap_1 w.params) (.ref C) "__setattr__" = some (some (.builtin "object.__setattr__"))) (hp : plainOver (hd0.heap_1 w.params) C = true) (ht : takerIn (hd0.heap_1 w.params) C name = some none) (hh : hasDictIn (hd0.heap_1 w.params) C = true)
    (h : post () g N') : Sp w n (setAttr (.ref x) name v) g N post :=
  fun A s Q hA hs' k => by
    obtain ⟨od, I, hat, hdx⟩ := instAt hs' hx (.inr hc.mem)
    have X := hs'.good.k.keeps hs'.keep
    refine set_plain X I hs (osa_open (s := { s with toks := s.toks + 1 }) X I hp ht fun b => ?_)
    obtain ⟨cd, hcd, hd'⟩ := any_some hh
    obtain ⟨hx', -, -, -⟩ := I
    refine wpAny_bind (wpAny_pure (wpAny_bind (wpAny_bind (wpAny_loadPart hx' (wpAny_bind ((looks_clsIn X hcd) _ _ _ _ (fun _ _ e => e) ?_))))))
    rw [hd']
    refine wpAny_pure (a := some dx) (wpAny_bind (wpAny_pure (wpAny_bind ?_)))
    obtain ⟨nd, hlen, es, ep, hdat, sk, hf, hsz⟩ := hat
    obtain ⟨oc, odd, oda, osl⟩ := od
    dsimp only at hdat
    subst hdat
    unfold nsSet
    refine wpAny_bind (wpAny_bind (wpAny_askSetting (wpAny_pure (wpAny_bind (wpAny_mkText (wpAny_bind (wpAny_loadPart hdx ?_)))))))
    have hany : es.any (·.refKey) = false := by
      rw [Array.any_eq_false']; intro e he; obtain ⟨n, t, h⟩ := sk e he; simp [DictEntry.refKey, h]
    simp only [aRefKeyMayBeTheName_at, hany, Bool.and_false, Bool.false_eq_true, if_false]
    have cnt := hst.count nd
    have key : ∀ hsh tk, ∃ es' ep', Obj.putName name hsh (.str name tk) v ⟨oc, odd, .dict es ep, osl⟩ = ⟨oc, odd, .dict es' ep', osl⟩ ∧ StrKeys es' ∧ (∀ x, nsFind es' x = look ns vs' x) ∧ es'.size ≤ somes vs' := by
      intro hsh tk
      cases hi : es.findIdx? (·.key.isStr name) with
      | some i =>
        refine ⟨_, ep, by simp only [Obj.putName_eq, Obj.putNameByArray, hi]; rfl, sk.modify _ _, fun x => ?_, by rw [Array.size_modify]; omega⟩
        rw [hst.look nd, ← hf]; exact findBy_modify (fun n v => v.isStr n) Value.isStr_inj es name x v i hi
      | none =>
        have hfind : nsFind es name = none := by
          unfold nsFind findBy
          have : es.find? (fun e => e.key.isStr name) = none := by
            rw [Array.find?_eq_none]
            have := Array.findIdx?_eq_none_iff.mp hi
            intro x hx; simpa using this x hx
          rw [this]; rfl
        have hno : (look ns vs name).isSome = false := by rw [← hf, hfind]; rfl
        rw [hno] at cnt
        refine ⟨_, ep + 1, by simp only [Obj.putName_eq, Obj.putNameByArray, hi]; rfl, sk.push _ _ _ _, fun x => ?_, by rw [Array.size_push]; simp at cnt; omega⟩
        rw [hst.look nd, ← hf]
        exact findBy_push (fun n v => v.isStr n) es name x _ _ v (fun y => by
          show (name == y) = decide (y = name)
          by_cases h : y = name
          · subst h; simp
          · have : ¬ name = y := fun e => h e.symm
            simp [h, this]) hi
    obtain ⟨es', ep', hput, sk', hf', hsz'⟩ := key (PyData.keyHash w.params name) (s.toks + 1)
    have hlt : somes vs' ≤ 1000 := by
      have : somes vs' ≤ vs'.length := List.length_filter_le ..
      omega
    have D' : (s.heap.update dx (Obj.putName name (PyData.keyHash w.params name) (.str name (s.toks + 1)) v)).get? dx = some ⟨oc, odd, .dict es' ep', osl⟩ := by
      rw [Heap.get?_update_self _ hdx (by rw [hput]; rfl), hput]
    refine wpAny_updatePart hdx ?_
    refine wpAny_bind (wpAny_lookBehind D' (pastItsLine_dict (by rw [sizeLine_eq]; omega)) ?_)
    refine wpAny_pure ?_
    exact k () g N' _ _ (Le.refl g) (hs'.chg hc (Heap.SameBut.update ..) ⟨_, D', nd, by omega, es', ep', rfl, sk', hf', hsz'⟩) h
noncomputable abbrev sp_attribute_k1 (w : World) (n : Nat) (name : Str) (post : Value → Heap → Led → Prop) := fun ov (g : Heap) (N : Led) => Sp w n (getAttr ov name true) g N post
theorem sp_attribute {o : Expr} {name : Str} {p : Pos} {env : Env} {post : Value → Heap → Led → Prop} (hb : notCall o = true)
    (h : Sp w n (eval o env) g N (sp_attribute_k1 w n name post)) : Sp w n (eval (.Attribute o name p) env) g N post :=
  fun A s Q hA hs k => Attribute_any_ (h A s _ hA hs fun a g1 N1 h1 tk1 l1 hs1 p1 => p1 A _ _ hA hs1 fun b g2 N2 h2 tk2 l2 hs2 p2 => k _ g2 N2 h2 tk2 (l1.trans l2) hs2 p2)
    (by show (do let o' ← attributeBase o name env (eval o env); _) = _; rw [base_eq hb])
end

section
variable {w : World} {n : Nat} {g : Heap} {N : Led}
theorem H.ext {h h' : Heap} {E : Led} (x : H w g N h) (hk : ∀ b o, h.get? b = some o → h'.get? b = some o) (nw : ∀ p ∈ E, ∃ o, h'.get? p.1 = some o ∧ p.2 o) (nd : (E.map (·.1)).Nodup) (hi : ∀ p ∈ E, h.objs.size ≤ p.1) : H w g (E ++ N) h' := by
  have y := x.grown hk
  refine ⟨x.good, y.keep, fun p hp => (List.mem_append.mp hp).elim (nw p) (y.nw p), ?_, fun p hp => ?_⟩
  · rw [List.map_append, List.nodup_append]
    refine ⟨nd, x.nd, fun a ha b hb e => ?_⟩
    obtain ⟨p, hp, rfl⟩ := List.mem_map.mp ha
    obtain ⟨q, hq, rfl⟩ := List.mem_map.mp hb
    obtain ⟨o, ho, _⟩ := x.nw q hq
    exact Nat.lt_irrefl _ (Nat.lt_of_lt_of_le (Heap.lt_size ho) (e ▸ hi p hp))
  · rcases List.mem_append.mp hp with hp | hp
    · cases e : g.get? p.1 with
      | none => rfl
      | some o => exact absurd (Heap.lt_size (x.keep _ _ e)) (Nat.not_lt.mpr (hi p hp))
    · exact x.off p hp
inductive Bnds (k : Str → Option NameKind) (ns : List Str) : List (Str × Value) → List (Option Value) → List (Option Value) → Prop where
  | nil {vs : List (Option Value)} : Bnds k ns [] vs vs
  | loc {x : Str} {v : Value} {r : List (Str × Value)} {vs vs1 vs' : List (Option Value)} : k x = some .local → StoAt ns vs x v vs1 → Bnds k ns r vs1 vs' → Bnds k ns ((x, v) :: r) vs vs'
  | cel {x : Str} {v : Value} {r : List (Str × Value)} {vs vs' : List (Option Value)} : k x = some .cell → Bnds k ns r vs vs' → Bnds k ns ((x, v) :: r) vs vs'
theorem Bnds.look {k : Str → Option NameKind} {ns : List Str} {bs : List (Str × Value)} {vs vs' : List (Option Value)} (h : Bnds k ns bs vs vs') (nd : ns.Nodup) : ∀ m : Str → Option Value, (∀ y, m y = Mine.look ns vs y) → ∀ y, bindL k bs m y = Mine.look ns vs' y := by
  induction h with
  | nil => intro m e y; exact e y
  | loc hk st _ ih =>
    intro m e y
    show bindL k _ (if k _ = some .local then _ else m) y = _
    rw [if_pos hk]
    refine ih _ (fun z => ?_) y
    show (if z = _ then some _ else m z) = _
    rw [st.look nd, e]
  | cel hk _ ih =>
    intro m e y
    show bindL k _ (if k _ = some .local then _ else m) y = _
    rw [if_neg (by rw [hk]; decide)]
    exact ih m e y
theorem cd_fnC {f : Addr} {vs : List Value} {name qual : Str} {params : Arguments} {body : List Stmt} {scope : Scope} {dV kV doc pm cdv ct oc : Value} {an od : Option Addr} {osl : Array (Option Value)} {bs : List (Str × Value)} {fs : List Str} {os : List (Option Value)} {ce : Addr → Led}
    {post : Value → Heap → Led → Prop}
    (ho : (hd0.heap_1 w.params).lookup f = some ⟨oc, od, .func (fnOf name qual params body scope dV kV doc pm an cdv ct), osl⟩) (hcd : codeIn (hd0.heap_1 w.params) cdv qual = true)
    (hbind : bindArgs (fnOf name qual params body scope dV kV doc pm an cdv ct) ⟨vs, []⟩ = pure bs) (hnd : fs.Nodup)
    (hkind : (bs.all fun y => scope.names.lookup y.1 == some .local || scope.names.lookup y.1 == some .cell) = true) (hcn : ((cellsFrom 0 scope.names []).map (·.1)).Nodup)
    (hb : ∀ L, Bnds (envOfC qual scope L f cdv).kindOf fs bs (List.replicate fs.length none) os)
    (hce : ∀ L, ce L = (cellsFrom (L + 1) scope.names []).map fun p => (p.2, IsCel (bindC (envOfC qual scope L f cdv).kindOf bs (fun _ => none) p.1)))
    (hco : scope.isCoroutine = false) (hgen : scope.isGenerator = false) (hk : scope.kind = .function)
    (h : ∀ L, Sp w n (execs body (envOfC qual scope L f cdv)) g ((L, Frm fs os) :: (ce L ++ N)) (fun fl g' N' => ∃ N'', Cut N' N'' ∧ post (retOf fl) g' N'')) :
    Cd w (n + 1) (.ref f) vs g N post :=
  fun A s R hA hs k => by
    obtain ⟨_, _, _, _, _, T⟩ := (hs.good.le hs.keep).top
    refine codeAny_call_cells hA.depth (hs.keep _ _ (hs.good.k _ _ ho)) rfl T.nolimit (codeRec_of (hs.good.k.keeps hs.keep) hcd) rfl hbind rfl (kindsX hkind _) (fun s₁ X => ?_) hco hgen hk
    obtain ⟨h₁, tk, rfl, hkeep⟩ := X.done
    have hs1 : H w g (((s.heap.objs.size, Frm fs os) :: ce s.heap.objs.size) ++ N) h₁ := by
      refine hs.ext hkeep (fun p hp => ?_) ?_ (fun p hp => ?_)
      · rcases List.mem_cons.mp hp with rfl | hp
        · exact frm_of_ns hnd (ns_congr X.toInCall.ns ((hb _).look hnd _ fun y => (look_nones fs _ y).symm))
        · rw [hce] at hp
          obtain ⟨q, hq, rfl⟩ := List.mem_map.mp hp
          obtain ⟨o, ho', hd'⟩ := X.cell q.1 q.2 (lookup_of_mem_nodup (cellsFrom_names scope.names 0 (s.heap.objs.size + 1) [] [] rfl ▸ hcn) hq)
          exact ⟨o, ho', hd'⟩
      · rw [List.map_cons, List.nodup_cons, hce, List.map_map]
        refine ⟨fun hm => ?_, ?_⟩
        · obtain ⟨q, hq, e⟩ := List.mem_map.mp hm
          exact Nat.lt_irrefl _ (Nat.lt_of_lt_of_le (X.above q.1 q.2 hq) (Nat.le_of_eq e))
        · exact List.pairwise_map.mpr (X.apart.imp fun z => z)
      · rcases List.mem_cons.mp hp with rfl | hp
        · exact Nat.le_refl _
        · rw [hce] at hp
          obtain ⟨q, hq, rfl⟩ := List.mem_map.mp hp
          exact Nat.le_of_lt (X.above q.1 q.2 hq)
    have hA' : Room (A.deeper (envOfC qual scope s.heap.objs.size f cdv)) n := by
      obtain ⟨hh, a, b⟩ := hA
      refine ⟨hh, ?_, ?_⟩
      · show A.depth + 1 + 4 * n < _; omega
      · show A.units + 3 + 16 * n < _; omega
    exact wpAny_mono (h _ _ { s with heap := h₁, toks := tk } (fun fl s' => R (.ok (.ret (retOf fl))) s') hA' hs1 fun fl g' N' h' tk' l hs' ⟨N'', c, p⟩ => k _ g' N'' h' tk' l (hs'.cutN c) p)
      (fun fl s' z => by cases fl <;> exact z) (fun _ _ z => z.elim)
/-- an object of a class of the text's -/
theorem cd_new {C fI : Addr} {vs : List Value} {post : Value → Heap → Led → Prop} {ns : List Str} (hm : makesIn (hd0.heap_1 w.params) C = true) (hi : findIn (hd0.heap_1 w.params) (.ref C) "__init__" = some (some (.ref fI)))
    (hf : isFn (hd0.heap_1 w.params) (.ref fI) = true) (hnd : ns.Nodup) (hlen : ns.length ≤ 1000)
    (h : ∀ x dx, Cd w n (.ref fI) (.ref x :: vs) g ((x, IsInst C dx) :: (dx, Atr ns (List.replicate ns.length none)) :: N) (fun v g' N' => v = .none ∧ post (.ref x) g' N')) : Cd w (n + 1) (.ref C) vs g N post :=
  fun A s R hA hs k => by
    obtain ⟨hh, gs, d, t, os⟩ := s
    have X := hs.good.k.keeps hs.keep
    refine make_core (makes_of X hm) (looks_findIn X hi) (fun self => bind_fn X self (beq_iff_eq.mp hf)) (.inl rfl) ?_
    have z1 : H w g ((hh.objs.size, Atr ns (List.replicate ns.length none)) :: N) (hh.push emptyDict) :=
      hs.push ⟨hnd, by simpa using hlen, #[], 0, rfl, (fun e he => by simp at he), fun x => by rw [look_nones]; rfl, by simp⟩
    have z2 := z1.push (P := IsInst C hh.objs.size) (o := instObj C hh.objs.size) rfl
    rw [Heap.size_push] at z2
    have hA' : Room (A.under (.builtin "type.__call__" ⟨.ref C :: vs, []⟩)) n := by
      obtain ⟨e, a, b⟩ := hA
      refine ⟨e, ?_, ?_⟩
      · show A.depth + 1 + 4 * n < _; omega
      · have : (A.under (.builtin "type.__call__" ⟨.ref C :: vs, []⟩)).units ≤ A.units + 4 := by
          show A.units + Code.cUnits _ ≤ _
          have : Code.cUnits (.builtin "type.__call__" ⟨.ref C :: vs, []⟩) = 1 := by kernel_rfl
          omega
        omega
    exact h _ _ _ _ (InitBack (hh.objs.size + 1) R) hA' z2 fun r g' N' h' tk' l hs' p => ⟨p.1, k _ g' N' h' tk' l hs' p.2⟩
end

-- control: conditional expressions, and/or/not, loops
inductive WhI (w : World) (J : Nat → Heap → Led → Prop) (g : Heap) (s : Shared) (m : Nat) (s' : Shared) : Prop where
  | mk (g' : Heap) (N' : Led) (h' : Heap) (tk' : Nat) (e : s' = { s with heap := h', toks := tk' }) (l : Le g g') (hs : H w g' N' h') (hJ : J m g' N')
inductive ForI (w : World) (k : Nat) (S : Nat → Led) (R : Led) (J : Nat → Heap → Led → Prop) (g : Heap) (s : Shared) (m : Nat) (s' : Shared) : Prop where
  | mk (i : Nat) (g' : Heap) (C' : Led) (h' : Heap) (tk' : Nat) (e1 : m = k - i) (hik : i ≤ k) (e2 : s' = { s with heap := h', toks := tk' }) (l : Le g g') (hs : H w g' (S i ++ (C' ++ R)) h') (hJ : J i g' C')
inductive CompI (w : World) (k : Nat) (S : Nat → Led) (ns : List Str) (L D : Addr) (R : Led) (J : Nat → List Value → Heap → Led → Prop) (g : Heap) (s : Shared) (m : Nat) (s' : Shared) : Prop where
  | mk (i : Nat) (ys : List Value) (os : List (Option Value)) (g' : Heap) (C' : Led) (h' : Heap) (tk' : Nat) (e1 : m = k - i) (hik : i ≤ k) (hys : ys.length = i) (hos : os.length = ns.length) (e2 : s' = { s with heap := h', toks := tk' }) (l : Le g g') (hs : H w g' (S i ++ ((L, Frm ns os) :: (D, IsLst ys) :: (C' ++ R))) h') (hJ : J i ys g' C')
inductive NxI (w : World) (V : Led → Prop) (T : Led) (g' : Heap) (s s' : Shared) : Prop where
  | mk (h1 : Heap) (tk1 : Nat) (X : Led) (g1 : Heap) (N1 : Led) (e : s' = { s with heap := h1, toks := tk1 }) (l : Le g' g1) (hs : H w g1 N1 h1) (hV : V X) (eg : g1 = g') (eN : N1 = X ++ T)
section
variable {w : World} {n : Nat} {g : Heap} {N : Led} {env : Env}
noncomputable abbrev sp_ifexp_k1 (w : World) (n : Nat) (b : Expr) (env : Env) (post : Value → Heap → Led → Prop) (o : Expr) := fun c (g : Heap) (N : Led) => (c = true → Sp w n (eval b env) g N post) ∧ (c = false → Sp w n (eval o env) g N post)
theorem sp_ifexp {t b o : Expr} {p : Pos} {post : Value → Heap → Led → Prop}
    (h : Sp w n (isTrue t env (eval t env)) g N (sp_ifexp_k1 w n b env post o)) : Sp w n (eval (.IfExp t b o p) env) g N post :=
  fun A s Q hA hs k => wpAny_IfExp (h A s _ hA hs fun c g1 N1 h1 tk1 l1 hs1 p1 => by
    cases c with
    | true => exact p1.1 rfl A _ Q hA hs1 fun a g2 N2 h2 tk2 l2 hs2 p2 => k a g2 N2 h2 tk2 (l1.trans l2) hs2 p2
    | false => exact p1.2 rfl A _ Q hA hs1 fun a g2 N2 h2 tk2 l2 hs2 p2 => k a g2 N2 h2 tk2 (l1.trans l2) hs2 p2)
noncomputable abbrev sp_tand_k1 (w : World) (n : Nat) (rest : List Expr) (p : Pos) (env : Env) (whole : Sem Value) (post : Bool → Heap → Led → Prop) := fun c (g : Heap) (N : Led) => (c = true → Sp w n (isTrue (.BoolOp .And rest p) env whole) g N post) ∧ (c = false → post false g N)
theorem sp_tand {x : Expr} {rest : List Expr} {p : Pos} {whole : Sem Value} {post : Bool → Heap → Led → Prop}
    (h : Sp w n (isTrue x env (eval x env)) g N (sp_tand_k1 w n rest p env whole post)) : Sp w n (isTrue (.BoolOp .And (x :: rest) p) env whole) g N post :=
  fun A s Q hA hs k => isTrue_and (h A s _ hA hs fun c g1 N1 h1 tk1 l1 hs1 p1 => by
    cases c with
    | true => exact p1.1 rfl A _ Q hA hs1 fun a g2 N2 h2 tk2 l2 hs2 p2 => k a g2 N2 h2 tk2 (l1.trans l2) hs2 p2
    | false => exact k _ g1 N1 h1 tk1 l1 hs1 (p1.2 rfl))
theorem sp_tand0 {p : Pos} {whole : Sem Value} {post : Bool → Heap → Led → Prop} (h : post true g N) : Sp w n (isTrue (.BoolOp .And [] p) env whole) g N post :=
  fun A s Q hA hs k => isTrue_and_nil (k _ g N s.heap s.toks (Le.refl g) hs h)
noncomputable abbrev sp_tor_k1 (post : Bool → Heap → Led → Prop) (w : World) (n : Nat) (rest : List Expr) (p : Pos) (env : Env) (whole : Sem Value) := fun c (g : Heap) (N : Led) => (c = true → post true g N) ∧ (c = false → Sp w n (isTrue (.BoolOp .Or rest p) env whole) g N post)
theorem sp_tor {x : Expr} {rest : List Expr} {p : Pos} {whole : Sem Value} {post : Bool → Heap → Led → Prop}
    (h : Sp w n (isTrue x env (eval x env)) g N (sp_tor_k1 post w n rest p env whole)) : Sp w n (isTrue (.BoolOp .Or (x :: rest) p) env whole) g N post :=
  fun A s Q hA hs k => isTrue_or (h A s _ hA hs fun c g1 N1 h1 tk1 l1 hs1 p1 => by
    cases c with
    | true => exact k _ g1 N1 h1 tk1 l1 hs1 (p1.1 rfl)
    | false => exact p1.2 rfl A _ Q hA hs1 fun a g2 N2 h2 tk2 l2 hs2 p2 => k a g2 N2 h2 tk2 (l1.trans l2) hs2 p2)
theorem sp_tor0 {p : Pos} {whole : Sem Value} {post : Bool → Heap → Led → Prop} (h : post false g N) : Sp w n (isTrue (.BoolOp .Or [] p) env whole) g N post :=
  fun A s Q hA hs k => isTrue_or_nil (k _ g N s.heap s.toks (Le.refl g) hs h)
/-- a test whose value is a bool -/
noncomputable abbrev sp_tplain_k1 (w : World) (n : Nat) (post : Bool → Heap → Led → Prop) := fun v (g : Heap) (N : Led) => Sp w n (truthy v) g N post
theorem sp_tplain {e : Expr} {whole : Sem Value} {post : Bool → Heap → Led → Prop} (he : PySem.isTrue e env whole = (do let v ← whole; standAt e.pos; holding [v] (truthy v)))
    (h : Sp w n whole g N (sp_tplain_k1 w n post)) : Sp w n (isTrue e env whole) g N post :=
  fun A s Q hA hs k => isTrue_plain (h A s _ hA hs fun v g1 N1 h1 tk1 l1 hs1 p1 => p1 A _ _ hA hs1 fun b g2 N2 h2 tk2 l2 hs2 p2 => k _ g2 N2 h2 tk2 (l1.trans l2) hs2 p2) he
theorem sp_truthB {b : Bool} {post : Bool → Heap → Led → Prop} (h : post b g N) : Sp w n (truthy (.bool b)) g N post :=
  fun A s Q hA hs k => wpAny_truthy_bool (k _ g N s.heap s.toks (Le.refl g) hs h)
noncomputable abbrev sp_and_k1 (w : World) (n : Nat) (e2 : Expr) (rest : List Expr) (p : Pos) (env : Env) (post : Value → Heap → Led → Prop) (v) := fun c (g : Heap) (N : Led) => (c = true → Sp w n (eval (.BoolOp .And (e2 :: rest) p) env) g N post) ∧ (c = false → post v g N)
noncomputable abbrev sp_and_k2 (w : World) (n : Nat) (e2 : Expr) (rest : List Expr) (p : Pos) (env : Env) (post : Value → Heap → Led → Prop) := fun v (g : Heap) (N : Led) => Sp w n (truthy v) g N (sp_and_k1 w n e2 rest p env post v)
theorem sp_and {e1 e2 : Expr} {rest : List Expr} {p : Pos} {post : Value → Heap → Led → Prop}
    (h : Sp w n (eval e1 env) g N (sp_and_k2 w n e2 rest p env post)) : Sp w n (eval (.BoolOp .And (e1 :: e2 :: rest) p) env) g N post :=
  fun A s Q hA hs k => BoolOp_and (h A s _ hA hs fun v g1 N1 h1 tk1 l1 hs1 p1 => p1 A _ _ hA hs1 fun c g2 N2 h2 tk2 l2 hs2 p2 => by
    cases c with
    | true => exact p2.1 rfl A _ Q hA hs2 fun a g3 N3 h3 tk3 l3 hs3 p3 => k a g3 N3 h3 tk3 (l1.trans (l2.trans l3)) hs3 p3
    | false => exact k _ g2 N2 h2 tk2 (l1.trans l2) hs2 (p2.2 rfl))
theorem sp_bool1 {op : BoolOp} {e : Expr} {p : Pos} {post : Value → Heap → Led → Prop} (h : Sp w n (eval e env) g N post) : Sp w n (eval (.BoolOp op [e] p) env) g N post :=
  fun A s Q hA hs k => BoolOp_one (h A s _ hA hs k)
noncomputable abbrev sp_unary_k1 (w : World) (n : Nat) (op : UnaryOp) (post : Value → Heap → Led → Prop) := fun v (g : Heap) (N : Led) => Sp w n (unaryOp op v) g N post
theorem sp_unary {op : UnaryOp} {e : Expr} {p : Pos} {post : Value → Heap → Led → Prop} (h : Sp w n (eval e env) g N (sp_unary_k1 w n op post))
    : Sp w n (eval (.UnaryOp op e p) env) g N post :=
  fun A s Q hA hs k => wpAny_UnaryOp (h A s _ hA hs fun v g1 N1 h1 tk1 l1 hs1 p1 => p1 A _ _ hA hs1 fun b g2 N2 h2 tk2 l2 hs2 p2 => k _ g2 N2 h2 tk2 (l1.trans l2) hs2 p2)
theorem sp_notB {b : Bool} {post : Value → Heap → Led → Prop} (h : post (.bool !b) g N) : Sp w n (unaryOp .Not (.bool b)) g N post :=
  fun A s Q hA hs k => not_of (wpAny_truthy_bool (k _ g N s.heap s.toks (Le.refl g) hs h))

/-- a piece of the machine's own code, as the machine sees it -/
noncomputable def CdL (w : World) (n : Nat) (c : Code) (g : Heap) (N : Led) (post : Flow → Heap → Led → Prop) : Prop :=
  ∀ (A : Around) (s : Shared) (R : Result → Shared → Prop), Room A n → H w g N s.heap →
    (∀ f g' N' h' tk', Le g g' → H w g' N' h' → post f g' N' → R (.ok f) { s with heap := h', toks := tk' }) → codeAny (model PR w) A c R s
theorem cdl_cut {c : Code} {N' : Led} {post : Flow → Heap → Led → Prop} (x : Cut N N') (h : CdL w n c g N' post) : CdL w n c g N post := fun A s R hA hs k => h A s R hA (hs.cutN x) k
theorem cdl_mono {c : Code} {post post' : Flow → Heap → Led → Prop} (h : CdL w n c g N post') (hp : ∀ f g' N', Le g g' → post' f g' N' → post f g' N') : CdL w n c g N post :=
  fun A s R hA hs k => h A s R hA hs fun f g' N' h' tk' l hs' p => k f g' N' h' tk' l hs' (hp f g' N' l p)

-- while
noncomputable def whlK (K : Heap → Led → Prop) : Flow → Heap → Led → Prop
  | .next => K
  | .cont => K
  | _ => fun _ _ => False
theorem whlK_next {K : Heap → Led → Prop} (h : K g N) : whlK K .next g N := h
theorem whlK_cont {K : Heap → Led → Prop} (h : K g N) : whlK K .cont g N := h
theorem sp_while {test : Expr} {body : List Stmt} {p : Pos} {post : Flow → Heap → Led → Prop} (J : Nat → Heap → Led → Prop) (m : Nat) (h0 : J m g N)
    (step : ∀ m g' N', Le g g' → J m g' N' → Sp w n (isTrue test env (eval test env)) g' N' (fun b g1 N1 =>
      (b = true → Sp w n (execs body env) g1 N1 (whlK fun g2 N2 => ∃ m' N3, m' < m ∧ Cut N2 N3 ∧ J m' g2 N3)) ∧ (b = false → post .next g1 N1))) :
    Sp w n (exec (.While test body [] p) env) g N post :=
  fun A s Q hA hs k => wpAny_While (by
    refine codeAny_whileLoop (WhI w J g s) ?_ m ⟨g, N, s.heap, s.toks, rfl, Le.refl g, hs, h0⟩
    rintro m _ ⟨g', N', h', tk', rfl, l, hs', hJ⟩
    refine wpAny_mono (step m g' N' l hJ A { s with heap := h', toks := tk' } _ hA hs' fun b g1 N1 h1 tk1 l1 hs1 p1 => ?_) (fun _ _ z => z) (fun _ _ z => z.elim)
    cases b with
    | true =>
      rw [if_pos rfl]
      refine wpAny_mono (p1.1 rfl A { s with heap := h1, toks := tk1 } (fun f s3 => (f = .next ∨ f = .cont) ∧ ∃ m', m' < m ∧ WhI w J g s m' s3) hA hs1 fun f g2 N2 h2 tk2 l2 hs2 p2 => ?_) (fun f s3 z => ?_) (fun _ _ z => z.elim)
      · cases f with
        | next => obtain ⟨m', N3, hm, c, hJ'⟩ := p2; exact ⟨.inl rfl, m', hm, g2, N3, h2, tk2, rfl, l.trans (l1.trans l2), hs2.cutN c, hJ'⟩
        | cont => obtain ⟨m', N3, hm, c, hJ'⟩ := p2; exact ⟨.inr rfl, m', hm, g2, N3, h2, tk2, rfl, l.trans (l1.trans l2), hs2.cutN c, hJ'⟩
        | brk => exact p2.elim
        | ret v => exact p2.elim
      · obtain ⟨rfl | rfl, z⟩ := z <;> exact z
    | false =>
      rw [if_neg (by decide)]
      rw [show execs [] env = pure .next from rfl]
      exact wpAny_pure (k .next g1 N1 h1 tk1 (l.trans l1) hs1 (p1.2 rfl)))
end

-- assigning to a loop's target
section
variable {w : World} {n : Nat} {g : Heap} {N : Led} {env : Env}
theorem sp_asName {x : Str} {p : Pos} {v : Value} {post : Unit → Heap → Led → Prop} (h : Sp w n (storeName env x v) g N post) : Sp w n (assign (.Name x p) env v) g N post :=
  fun A s Q hA hs k => assign_Name (h A s Q hA hs k)
noncomputable abbrev sp_asCons_k1 (w : World) (n : Nat) (fs : List (Value → Sem Unit)) (xs : List Value) (post : Unit → Heap → Led → Prop) := fun (_ : Unit) (g : Heap) (N : Led) => Sp w n (assignInOrder fs xs) g N post
theorem sp_asCons {f : Value → Sem Unit} {fs : List (Value → Sem Unit)} {x : Value} {xs : List Value} {post : Unit → Heap → Led → Prop} (h : Sp w n (f x) g N (sp_asCons_k1 w n fs xs post)) : Sp w n (assignInOrder (f :: fs) (x :: xs)) g N post :=
  fun A s Q hA hs k => assignInOrder_cons (h A s _ hA hs fun a g1 N1 h1 tk1 l1 hs1 p1 => p1 A _ _ hA hs1 fun b g2 N2 h2 tk2 l2 hs2 p2 => k _ g2 N2 h2 tk2 (l1.trans l2) hs2 p2)
theorem sp_asNil {xs : List Value} {post : Unit → Heap → Led → Prop} (h : post () g N) : Sp w n (assignInOrder [] xs) g N post :=
  fun A s Q hA hs k => assignInOrder_nil (k _ g N s.heap s.toks (Le.refl g) hs h)
theorem IsTupl.isTup {h : Heap} {a : Addr} {vs : List Value} (x : ∃ o, h.get? a = some o ∧ IsTupl vs o) : IsTup h a vs.toArray := by
  obtain ⟨_, e, rfl⟩ := x
  exact ⟨_, e, rfl, 0, rfl⟩
theorem ext_all {h h' : Heap} (x : Heap.ExtBut h.objs.size h h') : ∀ b o, h.get? b = some o → h'.get? b = some o := fun b o e => x b o (Nat.ne_of_lt (Heap.lt_size e)) e
theorem sp_asTuple {elts : List Expr} {k : Nat} {p : Pos} {t : Addr} {vs : List Value} {post : Unit → Heap → Led → Prop} (ht : Has g N t (IsTupl vs)) (hn : (assignEach elts env).length = vs.length) (hst : (assignEach elts env).findIdx? (·.1) = none)
    (h : Sp w n (assignInOrder ((assignEach elts env).map (·.2)) vs) g N post) : Sp w n (assign (.Tuple elts k p) env (.ref t)) g N post :=
  fun A s Q hA hs K => assign_Tuple_tuple hA.1 (IsTupl.isTup (ht.at hs)) (by simpa using hn) hst fun h' he => by
    simpa using h A { s with heap := h' } Q hA (hs.grown (ext_all he)) K
noncomputable abbrev sp_assignT_k1 (post : Flow → Heap → Led → Prop) := fun (_ : Unit) (g : Heap) (N : Led) => post .next g N
noncomputable abbrev sp_assignT_k2 (w : World) (n : Nat) (elts : List Expr) (k : Nat) (tp : Pos) (env : Env) (post : Flow → Heap → Led → Prop) := fun v (g : Heap) (N : Led) => Sp w n (assign (.Tuple elts k tp) env v) g N (sp_assignT_k1 post)
theorem sp_assignT {elts : List Expr} {k : Nat} {tp p : Pos} {value : Expr} {post : Flow → Heap → Led → Prop} (hs : swapsWithSole [.Tuple elts k tp] value p.line env = pure false) (hw : swappedStores [.Tuple elts k tp] value env = pure none)
    (h : Sp w n (eval value env) g N (sp_assignT_k2 w n elts k tp env post)) : Sp w n (exec (.Assign [.Tuple elts k tp] value p) env) g N post :=
  fun A s Q hA hs' K => Assign_Tuple (h A s _ hA hs' fun a g1 N1 h1 tk1 l1 hs1 p1 => p1 A _ _ hA hs1 fun b g2 N2 h2 tk2 l2 hs2 p2 => K _ g2 N2 h2 tk2 (l1.trans l2) hs2 p2) hs hw
/-- two or three names on one line: the machine stores them from the right -/
noncomputable abbrev sp_assignS_k1 (post : Flow → Heap → Led → Prop) := fun (_ : Unit) (g : Heap) (N : Led) => post .next g N
noncomputable abbrev sp_assignS_k2 (names : List Str) (w : World) (n : Nat) (env : Env) (post : Flow → Heap → Led → Prop) := fun (v : Value) (g : Heap) (N : Led) => ∃ t vs, v = .ref t ∧ Has g N t (IsTupl vs) ∧ names.length = vs.length ∧ Sp w n (assignInOrder (names.reverse.map fun x => bindName env x) vs.reverse) g N (sp_assignS_k1 post)
theorem sp_assignS {elts : List Expr} {k : Nat} {tp p : Pos} {value : Expr} {names : List Str} {post : Flow → Heap → Led → Prop} (hs : swapsWithSole [.Tuple elts k tp] value p.line env = pure false) (hw : swappedStores [.Tuple elts k tp] value env = pure (some names))
    (h : Sp w n (eval value env) g N (sp_assignS_k2 names w n env post)) :
    Sp w n (exec (.Assign [.Tuple elts k tp] value p) env) g N post :=
  fun A s Q hA hs' K => Assign_Tuple_swapped (h A s _ hA hs' fun a g1 N1 h1 tk1 l1 hs1 ⟨t, vs, e, ht, hl, p1⟩ => by
    subst e
    rw [hl, show vs.length = vs.toArray.size by simp]
    refine unpackItems_tuple hA.1 (IsTupl.isTup (ht.at hs1)) fun h' he => ?_
    simpa using p1 A { s with heap := h', toks := tk1 } (fun _ => Q .next) hA (hs1.grown (ext_all he)) fun b g2 N2 h2 tk2 l2 hs2 p2 => K _ g2 N2 h2 tk2 (l1.trans l2) hs2 p2) hs hw
theorem sp_bind1 {x : Str} {v : Value} {post : Unit → Heap → Led → Prop} (h : Sp w n (storeName env x v) g N post) : Sp w n (bindName env x v) g N post :=
  fun A s Q hA hs k => bindName_ (h A s Q hA hs k)

-- iterators
noncomputable def isTupE : Expr → Bool
  | .Tuple .. => true
  | _ => false
noncomputable def nxtK (w : World) (tgt : Expr) (it : Value) (post : Option Value → Heap → Led → Prop) (r : Option Value) (g : Heap) (N : Led) : Prop := match r with
  | none => post none g N
  | some v => if isTupE tgt = true then Sp w 0 (letOwnedTupleGo tgt it v) g N (fun _ g N => post (some v) g N) else post (some v) g N
noncomputable def Nxt (w : World) (tgt : Expr) (it : Value) (g : Heap) (N : Led) (post : Option Value → Heap → Led → Prop) : Prop := Sp w 0 (pyNext it) g N (nxtK w tgt it post)
structure Itr (w : World) (tgt : Expr) (g : Heap) (it : Value) (k : Nat) (V : Nat → Value → Led → Prop) (S : Nat → Led) : Prop where
  item : ∀ i g' N post, i < k → Le g g' → (∀ v X, V i v X → post (some v) g' (X ++ (S (i + 1) ++ N))) → Nxt w tgt it g' (S i ++ N) post
  done : ∀ g' N (post : Heap → Led → Prop), Le g g' → post g' N → Sp w 0 (pyNext it) g' (S k ++ N) (fun r g N => r = none ∧ post g N)
  self : ∀ g' N post, Le g g' → post it g' (S 0 ++ N) → Sp w 0 (pyIter it) g' (S 0 ++ N) post
theorem Itr.le {tgt : Expr} {g g' : Heap} {it : Value} {k : Nat} {V : Nat → Value → Led → Prop} {S : Nat → Led} (x : Itr w tgt g it k V S) (l : Le g g') : Itr w tgt g' it k V S :=
  ⟨fun i g2 N post hi l2 => x.item i g2 N post hi (l.trans l2), fun g2 N post l2 => x.done g2 N post (l.trans l2), fun g2 N post l2 => x.self g2 N post (l.trans l2)⟩

/-- the end of a loop's turn: what is left stands as some C and the rest -/
noncomputable def turnK (K : Heap → Led → Prop) (Kr : Value → Heap → Led → Prop) (R : Led) (f : Flow) (g : Heap) (N : Led) : Prop := match f with
  | .next => ∃ C, Cut N (C ++ R) ∧ K g C
  | .cont => ∃ C, Cut N (C ++ R) ∧ K g C
  | .brk => False
  | .ret v => ∃ C, Cut N (C ++ R) ∧ Kr v g C
theorem turnK_next {K : Heap → Led → Prop} {Kr : Value → Heap → Led → Prop} {R : Led} (C : Led) (c : Cut N (C ++ R)) (h : K g C) : turnK K Kr R .next g N := ⟨C, c, h⟩
theorem mid_perm {S C R : Led} : (S ++ (C ++ R)).Perm (C ++ (S ++ R)) := by
  rw [← List.append_assoc, ← List.append_assoc]
  exact List.Perm.append_right R List.perm_append_comm
theorem cd_for {tgt : Expr} {it : Value} {body : List Stmt} {k : Nat} {V : Nat → Value → Led → Prop} {S : Nat → Led} {J : Nat → Heap → Led → Prop} {Jr : Value → Heap → Led → Prop} {C R : Led} {post : Flow → Heap → Led → Prop}
    (hI : Itr w tgt g it k V S) (htg : isTupE tgt = false → ∀ v, letOwnedTupleGo tgt it v = pure ()) (h0 : J 0 g C)
    (step : ∀ i g' C' R' v X, Le g g' → i < k → V i v X → J i g' C' → Sp w n (assign tgt env v) g' (X ++ (C' ++ R')) (fun _ g3 N3 => Sp w n (execs body env) g3 N3 (turnK (J (i + 1)) Jr R')))
    (fin : ∀ g' C', Le g g' → J k g' C' → post .next g' (C' ++ R))
    (ret : ∀ v g' C', Le g g' → Jr v g' C' → post (.ret v) g' (C' ++ R)) : CdL w n (.forLoop tgt it body [] env) g (S 0 ++ (C ++ R)) post :=
  fun A s RR hA hs K => by
    refine codeAny_forLoop_any (ForI w k S R J g s) ?_ k ⟨0, g, C, s.heap, s.toks, rfl, Nat.zero_le _, rfl, Le.refl g, hs, h0⟩
    rintro m _ ⟨i, g', C', h', tk', rfl, hik, rfl, l, hs', hJ⟩
    rcases Nat.lt_or_ge i k with hlt | hge
    · -- one more item
      have hn := (hI.le l).item i g' (C' ++ R) (fun r g1 N1 => ∃ v, r = some v ∧ ∃ X, V i v X ∧ g1 = g' ∧ N1 = X ++ (S (i + 1) ++ (C' ++ R))) hlt (Le.refl _) fun v X hV => ⟨v, rfl, X, hV, rfl, rfl⟩
      have body : ∀ v h1 tk1 X g1 N1, Le g' g1 → H w g1 N1 h1 → V i v X → g1 = g' → N1 = X ++ (S (i + 1) ++ (C' ++ R)) → wpAny (model PR w) A (assign tgt env v) (fun x s₂ => wpAny (model PR w) A (execs body env) (fun f s₃ => match f with
          | Flow.next => ∃ m, m < k - i ∧ ForI w k S R J g s m s₃
          | Flow.cont => ∃ m, m < k - i ∧ ForI w k S R J g s m s₃
          | Flow.brk => RR (Except.ok Flow.next) s₃
          | Flow.ret v => RR (Except.ok (Flow.ret v)) s₃) (notedBy (model PR w) A env fun e s' => RR (Except.error e) s') s₂) (notedBy (model PR w) A env fun e s' => RR (Except.error e) s') { s with heap := h1, toks := tk1 } := by
        rintro v h1 tk1 X g1 N1 l1 hs1 hV rfl rfl
        have hs1' : H w g1 (X ++ (C' ++ (S (i + 1) ++ R))) h1 := hs1.perm (List.Perm.append_left X mid_perm)
        refine wpAny_mono (step i g1 C' (S (i + 1) ++ R) v X l hlt hV hJ A { s with heap := h1, toks := tk1 } _ hA hs1' fun _ g2 N2 h2 tk2 l2 hs2 p2 => p2 A { s with heap := h2, toks := tk2 } (fun f s₃ => match f with
          | Flow.next => ∃ m, m < k - i ∧ ForI w k S R J g s m s₃
          | Flow.cont => ∃ m, m < k - i ∧ ForI w k S R J g s m s₃
          | Flow.brk => RR (Except.ok Flow.next) s₃
          | Flow.ret v => RR (Except.ok (Flow.ret v)) s₃) hA hs2 fun f g3 N3 h3 tk3 l3 hs3 p3 => ?_) (fun _ _ z => wpAny_mono z (fun _ _ q => q) fun _ _ z => z.elim) (fun _ _ z => z.elim)
        cases f with
        | next => obtain ⟨C4, c, hJ'⟩ := p3; exact ⟨k - (i + 1), Nat.sub_lt_sub_left hlt (Nat.lt_succ_self i), i + 1, g3, C4, h3, tk3, rfl, hlt, rfl, l.trans (l2.trans l3), (hs3.cutN c).perm mid_perm.symm, hJ'⟩
        | cont => obtain ⟨C4, c, hJ'⟩ := p3; exact ⟨k - (i + 1), Nat.sub_lt_sub_left hlt (Nat.lt_succ_self i), i + 1, g3, C4, h3, tk3, rfl, hlt, rfl, l.trans (l2.trans l3), (hs3.cutN c).perm mid_perm.symm, hJ'⟩
        | brk => exact p3.elim
        | ret v =>
          obtain ⟨C4, c, hJ'⟩ := p3
          have l' := l.trans (l2.trans l3)
          exact K (.ret v) g3 (C4 ++ R) h3 tk3 l' ((hs3.cutN c).cut (N' := C4 ++ R) (J := S (i + 1)) (by rw [List.append_assoc]; exact List.Perm.append_left C4 List.perm_append_comm)) (ret v g3 C4 l' hJ')
      refine wpAny_mono (hn A { s with heap := h', toks := tk' } (fun r s₁ => ∃ v, r = some v ∧ wpAny (model PR w) A (letOwnedTupleGo tgt it v) (fun _ s₁' => NxI w (V i v) (S (i + 1) ++ (C' ++ R)) g' s s₁') (fun _ _ => False) s₁) ⟨hA.1, by have := hA.2.1; omega, by have := hA.2.2; omega⟩ hs' fun r g1 N1 h1 tk1 l1 hs1 p1 => ?_) (fun r s₁ z => ?_) (fun _ _ z => z.elim)
      · cases r with
        | none => obtain ⟨v, e, _⟩ := p1; cases e
        | some v =>
          refine ⟨v, rfl, ?_⟩
          unfold nxtK at p1
          dsimp only at p1
          cases ht : isTupE tgt with
          | true =>
            rw [if_pos ht] at p1
            refine p1 A { s with heap := h1, toks := tk1 } _ ⟨hA.1, by have := hA.2.1; omega, by have := hA.2.2; omega⟩ hs1 fun _ g2 N2 h2 tk2 l2 hs2 ⟨v', e, X, hV, e2, e3⟩ => ?_
            cases e
            exact ⟨h2, tk2, X, g2, N2, rfl, l1.trans l2, hs2, hV, e2, e3⟩
          | false =>
            rw [if_neg (by rw [ht]; decide)] at p1
            obtain ⟨v', e, X, hV, e2, e3⟩ := p1
            cases e
            rw [htg ht v]
            exact wpAny_pure ⟨h1, tk1, X, g1, N1, rfl, l1, hs1, hV, e2, e3⟩
      · obtain ⟨v, rfl, z⟩ := z
        refine wpAny_mono z (fun _ s₁' z => ?_) (fun _ _ z => z.elim)
        obtain ⟨h1, tk1, X, g1, N1, rfl, l1, hs1, hV, e2, e3⟩ := z
        exact body v h1 tk1 X g1 N1 l1 hs1 hV e2 e3
    · -- the end
      have hik' : i = k := by omega
      subst hik'
      have hd := (hI.le l).done g' (C' ++ R) (fun g1 N1 => g1 = g' ∧ N1 = C' ++ R) (Le.refl _) ⟨rfl, rfl⟩
      refine wpAny_mono (hd A { s with heap := h', toks := tk' } (fun r s₁ => r = none ∧ ∃ h1 tk1, s₁ = { s with heap := h1, toks := tk1 } ∧ H w g' (C' ++ R) h1) ⟨hA.1, by have := hA.2.1; omega, by have := hA.2.2; omega⟩ hs' fun r g1 N1 h1 tk1 l1 hs1 p1 => ?_) (fun r s₁ z => ?_) (fun _ _ z => z.elim)
      · obtain ⟨e, rfl, rfl⟩ := p1; exact ⟨e, h1, tk1, rfl, hs1⟩
      · obtain ⟨rfl, h1, tk1, rfl, hs1⟩ := z
        rw [show execs [] env = pure .next from rfl]
        exact wpAny_pure (K .next g' (C' ++ R) h1 tk1 l hs1 (fin g' C' l hJ))
noncomputable abbrev sp_for_k1 (w : World) (n : Nat) (tgt : Expr) (body : List Stmt) (env : Env) (post : Flow → Heap → Led → Prop) := fun it (g : Heap) (N : Led) => CdL w n (.forLoop tgt it body [] env) g N post
noncomputable abbrev sp_for_k2 (w : World) (n : Nat) (tgt : Expr) (body : List Stmt) (env : Env) (post : Flow → Heap → Led → Prop) := fun x (g : Heap) (N : Led) => Sp w n (pyIter x) g N (sp_for_k1 w n tgt body env post)
theorem sp_for {tgt iter : Expr} {body : List Stmt} {p : Pos} {post : Flow → Heap → Led → Prop} (hs : ∀ x, foldedSetIterable iter env x = pure x)
    (h : Sp w n (eval iter env) g N (sp_for_k2 w n tgt body env post)) : Sp w n (exec (.For tgt iter body [] p) env) g N post :=
  fun A s Q hA hs' K => wpAny_For (h A s _ hA hs' fun x g1 N1 h1 tk1 l1 hs1 p1 => p1 A _ _ hA hs1 fun it g2 N2 h2 tk2 l2 hs2 p2 => p2 A _ _ hA hs2 fun f g3 N3 h3 tk3 l3 hs3 p3 => K _ g3 N3 h3 tk3 (l1.trans (l2.trans l3)) hs3 p3) hs

-- list comprehensions
theorem compLoop_any {A : Around} {s : Shared} {elt iter tgt : Expr} {scope : Scope} {pos : Pos} {it acc : Value} {R : Result → Shared → Prop} (I : Nat → Shared → Prop)
    (turn : ∀ n s, I n s → wpAny (model PR w) A (pyNext it) (fun r s₁ => match r with
      | none => R (.ok .next) s₁
      | some v => wpAny (model PR w) A (letOwnedTupleGo tgt it v) (fun _ s₁' => wpAny (model PR w) A (assign tgt env v) (fun _ s₂ =>
          wpAny (model PR w) A (eval elt env) (fun x s₄ =>
              wpAny (model PR w) A (call (.builtin "list.append") [acc, x]) (fun _ s₅ => ∃ m, m < n ∧ I m s₅) (notedBy (model PR w) A env fun e s' => R (.error e) s') s₄) (notedBy (model PR w) A env fun e s' => R (.error e) s') s₂)
          (notedBy (model PR w) A env fun e s' => R (.error e) s') s₁') (notedBy (model PR w) A env fun e s' => R (.error e) s') s₁) (notedBy (model PR w) A env fun e s' => R (.error e) s') s)
    (n : Nat) (h : I n s) : codeAny (model PR w) A (.compLoop (.ListComp elt [⟨tgt, iter, [], 0⟩] scope pos) 0 it acc env) R s := by
  refine codeAny_loop rfl I (fun n s hI => ?_) n h
  show wpAny _ A ((compTurn (.ListComp elt [⟨tgt, iter, [], 0⟩] scope pos) 0 it acc env).onRaise (fun x => do noteFrame x env; theTreesLotGoes x)) _ _ s
  refine wpAny_noted ?_
  rw [compTurn_list]
  refine wpAny_bind (wpAny_standAt (wpAny_bind (wpAny_mono (turn n s hI) (fun r s₁ h₁ => ?_) fun _ _ h' => h')))
  cases r with
  | none => exact wpAny_pure h₁
  | some v =>
    refine wpAny_bind (wpAny_mono h₁ (fun _ s₁' h₁' => ?_) fun _ _ h' => h')
    refine wpAny_bind (wpAny_mono h₁' (fun _ s₂ h₂ => wpAny_bind (wpAny_mono (wpAny_tests_nil (Q := fun ok s₃ => ok = true ∧ s₃ = s₂) ⟨rfl, rfl⟩) (fun ok s₃ h₃ => ?_) fun _ _ h' => h')) fun _ _ h' => h')
    obtain ⟨rfl, rfl⟩ := h₃
    exact wpAny_bind (wpAny_bind (wpAny_mono h₂ (fun x s₄ h₄ => wpAny_bind (wpAny_mono h₄ (fun _ s₅ h₅ => wpAny_pure (wpAny_pure ⟨rfl, h₅⟩)) fun _ _ h' => h')) fun _ _ h' => h'))
theorem cd_comp {tgt iter elt : Expr} {scope : Scope} {pos : Pos} {it : Value} {k : Nat} {V : Nat → Value → Led → Prop} {S : Nat → Led} {ns : List Str} {os0 : List (Option Value)} {D : Addr} {J : Nat → List Value → Heap → Led → Prop} {C R : Led} {post : Flow → Heap → Led → Prop}
    (hI : Itr w tgt g it k V S) (hk : k ≤ sizeLine) (htg : isTupE tgt = false → ∀ v, letOwnedTupleGo tgt it v = pure ()) (h0 : J 0 [] g C) (hos0 : os0.length = ns.length)
    (step : ∀ i ys os g' C' R' v X, Le g g' → i < k → V i v X → ys.length = i → os.length = ns.length → J i ys g' C' → Sp w n (assign tgt env v) g' (X ++ ((env.locals, Frm ns os) :: (C' ++ R'))) (fun _ g3 N3 => Sp w n (eval elt env) g3 N3 (fun y g4 N4 =>
      ∃ os' C4, os'.length = ns.length ∧ Cut N4 ((env.locals, Frm ns os') :: (C4 ++ R')) ∧ J (i + 1) (ys ++ [y]) g4 C4)))
    (fin : ∀ ys os' g' C', Le g g' → ys.length = k → J k ys g' C' → post .next g' ((env.locals, Frm ns os') :: (D, IsLst ys) :: (C' ++ R))) :
    CdL w n (.compLoop (.ListComp elt [⟨tgt, iter, [], 0⟩] scope pos) 0 it (.ref D) env) g (S 0 ++ ((env.locals, Frm ns os0) :: (D, IsLst []) :: (C ++ R))) post :=
  fun A s RR hA hs K => by
    have hI0 : CompI w k S ns env.locals D R J g s k s := ⟨0, [], os0, g, C, s.heap, s.toks, rfl, Nat.zero_le _, rfl, hos0, rfl, Le.refl g, hs, h0⟩
    have lowA : Room A 0 := ⟨hA.1, by have := hA.2.1; omega, by have := hA.2.2; omega⟩
    have body : ∀ i ys os g' C', i < k → ys.length = i → os.length = ns.length → Le g g' → J i ys g' C' → ∀ v h1 tk1 X g1 N1, Le g' g1 → H w g1 N1 h1 → V i v X → g1 = g' → N1 = X ++ (S (i + 1) ++ ((env.locals, Frm ns os) :: (D, IsLst ys) :: (C' ++ R))) →
        wpAny (model PR w) A (assign tgt env v) (fun _ s₂ => wpAny (model PR w) A (eval elt env) (fun x s₄ => wpAny (model PR w) A (call (.builtin "list.append") [.ref D, x]) (fun _ s₅ => ∃ m, m < k - i ∧ CompI w k S ns env.locals D R J g s m s₅) (notedBy (model PR w) A env fun e s' => RR (.error e) s') s₄)
          (notedBy (model PR w) A env fun e s' => RR (.error e) s') s₂) (notedBy (model PR w) A env fun e s' => RR (.error e) s') { s with heap := h1, toks := tk1 } := by
      rintro i ys os g' C' hlt hys hos l hJ v h1 tk1 X g1 N1 l1 hs1 hV rfl rfl
      have hs1' : H w g1 (X ++ ((env.locals, Frm ns os) :: (C' ++ ((D, IsLst ys) :: (S (i + 1) ++ R))))) h1 := by
        refine hs1.perm (List.Perm.append_left X ?_)
        have e1 : ((env.locals, Frm ns os) :: (C' ++ ((D, IsLst ys) :: (S (i + 1) ++ R)))) = [(env.locals, Frm ns os)] ++ (C' ++ (((D, IsLst ys) :: S (i + 1)) ++ R)) := rfl
        have e2 : (S (i + 1) ++ ((env.locals, Frm ns os) :: (D, IsLst ys) :: (C' ++ R))) = S (i + 1) ++ ([(env.locals, Frm ns os), (D, IsLst ys)] ++ (C' ++ R)) := rfl
        rw [e1, e2]
        refine (mid_perm (S := S (i + 1)) (C := [(env.locals, Frm ns os), (D, IsLst ys)])).trans ?_
        show List.Perm ((env.locals, Frm ns os) :: (D, IsLst ys) :: (S (i + 1) ++ (C' ++ R))) ((env.locals, Frm ns os) :: (C' ++ ((D, IsLst ys) :: (S (i + 1) ++ R))))
        refine List.Perm.cons _ ?_
        show List.Perm (((D, IsLst ys) :: S (i + 1)) ++ (C' ++ R)) (C' ++ (((D, IsLst ys) :: S (i + 1)) ++ R))
        exact mid_perm
      refine wpAny_mono (step i ys os g1 C' ((D, IsLst ys) :: (S (i + 1) ++ R)) v X l hlt hV hys hos hJ A { s with heap := h1, toks := tk1 } _ hA hs1' fun _ g2 N2 h2 tk2 l2 hs2 p2 => p2 A { s with heap := h2, toks := tk2 } (fun x s₄ =>
        wpAny (model PR w) A (call (.builtin "list.append") [.ref D, x]) (fun _ s₅ => ∃ m, m < k - i ∧ CompI w k S ns env.locals D R J g s m s₅) (fun _ _ => False) s₄) hA hs2 fun y g3 N3 h3 tk3 l3 hs3 p3 => ?_) (fun _ _ z => wpAny_mono z (fun _ _ q => wpAny_mono q (fun _ _ q => q) fun _ _ z => z.elim) fun _ _ z => z.elim) (fun _ _ z => z.elim)
      obtain ⟨os', C4, hos', c, hJ'⟩ := p3
      have hs3' : H w g3 ((D, IsLst ys) :: ((env.locals, Frm ns os') :: (C4 ++ (S (i + 1) ++ R)))) h3 := by
        refine (hs3.cutN c).perm ?_
        show List.Perm (((env.locals, Frm ns os') :: C4) ++ ([(D, IsLst ys)] ++ (S (i + 1) ++ R))) ([(D, IsLst ys)] ++ (((env.locals, Frm ns os') :: C4) ++ (S (i + 1) ++ R)))
        exact mid_perm
      obtain ⟨_, hD, nn, rfl⟩ := hs3'.nw _ List.mem_cons_self
      refine PyProof.Rows.append_at hD (fun h4 sb e => ?_) (by rw [List.size_toArray]; omega)
      have hs4 : H w g3 ((D, IsLst (ys ++ [y])) :: ((env.locals, Frm ns os') :: (C4 ++ (S (i + 1) ++ R)))) h4 := hs3'.set sb ⟨_, e, nn + 1, by rw [List.push_toArray]⟩
      refine ⟨k - (i + 1), Nat.sub_lt_sub_left hlt (Nat.lt_succ_self i), i + 1, ys ++ [y], os', g3, C4, h4, tk3, rfl, hlt, by simp [hys], hos', rfl, l.trans (l2.trans l3), hs4.perm ?_, hJ'⟩
      show List.Perm ([(D, IsLst (ys ++ [y])), (env.locals, Frm ns os')] ++ (C4 ++ (S (i + 1) ++ R))) (S (i + 1) ++ ([(env.locals, Frm ns os'), (D, IsLst (ys ++ [y]))] ++ (C4 ++ R)))
      refine List.Perm.trans ?_ mid_perm.symm
      exact List.Perm.append (List.Perm.swap _ _ _) mid_perm.symm
    have turn : ∀ m s', CompI w k S ns env.locals D R J g s m s' → ∃ i, i ≤ k ∧ m = k - i ∧ wpAny (model PR w) A (pyNext it) (fun r s₁ => match r with
        | none => RR (.ok .next) s₁
        | some v => wpAny (model PR w) A (letOwnedTupleGo tgt it v) (fun _ s₁' => wpAny (model PR w) A (assign tgt env v) (fun _ s₂ => wpAny (model PR w) A (eval elt env) (fun x s₄ => wpAny (model PR w) A (call (.builtin "list.append") [.ref D, x]) (fun _ s₅ => ∃ m', m' < m ∧ CompI w k S ns env.locals D R J g s m' s₅) (notedBy (model PR w) A env fun e s' => RR (.error e) s') s₄)
          (notedBy (model PR w) A env fun e s' => RR (.error e) s') s₂) (notedBy (model PR w) A env fun e s' => RR (.error e) s') s₁') (notedBy (model PR w) A env fun e s' => RR (.error e) s') s₁) (notedBy (model PR w) A env fun e s' => RR (.error e) s') s' := by
      rintro m _ ⟨i, ys, os, g', C', h', tk', rfl, hik, hys, hos, rfl, l, hs', hJ⟩
      refine ⟨i, hik, rfl, ?_⟩
      rcases Nat.lt_or_ge i k with hlt | hge
      · have hn := (hI.le l).item i g' ((env.locals, Frm ns os) :: (D, IsLst ys) :: (C' ++ R)) (fun r g1 N1 => ∃ v, r = some v ∧ ∃ X, V i v X ∧ g1 = g' ∧ N1 = X ++ (S (i + 1) ++ ((env.locals, Frm ns os) :: (D, IsLst ys) :: (C' ++ R)))) hlt (Le.refl _) fun v X hV => ⟨v, rfl, X, hV, rfl, rfl⟩
        refine wpAny_mono (hn A { s with heap := h', toks := tk' } (fun r s₁ => ∃ v, r = some v ∧ wpAny (model PR w) A (letOwnedTupleGo tgt it v) (fun _ s₁' => NxI w (V i v) (S (i + 1) ++ ((env.locals, Frm ns os) :: (D, IsLst ys) :: (C' ++ R))) g' s s₁') (fun _ _ => False) s₁) lowA hs' fun r g1 N1 h1 tk1 l1 hs1 p1 => ?_) (fun r s₁ z => ?_) (fun _ _ z => z.elim)
        · cases r with
          | none => obtain ⟨v, e, _⟩ := p1; cases e
          | some v =>
            refine ⟨v, rfl, ?_⟩
            unfold nxtK at p1
            dsimp only at p1
            cases ht : isTupE tgt with
            | false =>
              rw [if_neg (by rw [ht]; decide)] at p1
              obtain ⟨v', e, X, hV, e2, e3⟩ := p1
              cases e
              rw [htg ht v]
              exact wpAny_pure ⟨h1, tk1, X, g1, N1, rfl, l1, hs1, hV, e2, e3⟩
            | true =>
              rw [if_pos ht] at p1
              refine p1 A { s with heap := h1, toks := tk1 } _ lowA hs1 fun _ g2 N2 h2 tk2 l2 hs2 ⟨v', e, X, hV, e2, e3⟩ => ?_
              cases e
              exact ⟨h2, tk2, X, g2, N2, rfl, l1.trans l2, hs2, hV, e2, e3⟩
        · obtain ⟨v, rfl, z⟩ := z
          refine wpAny_mono z (fun _ s₁' z => ?_) (fun _ _ z => z.elim)
          obtain ⟨h1, tk1, X, g1, N1, rfl, l1, hs1, hV, e2, e3⟩ := z
          exact body i ys os g' C' hlt hys hos l hJ v h1 tk1 X g1 N1 l1 hs1 hV e2 e3
      · have hik' : i = k := by omega
        subst hik'
        have hd := (hI.le l).done g' ((env.locals, Frm ns os) :: (D, IsLst ys) :: (C' ++ R)) (fun g1 N1 => g1 = g' ∧ N1 = ((env.locals, Frm ns os) :: (D, IsLst ys) :: (C' ++ R))) (Le.refl _) ⟨rfl, rfl⟩
        refine wpAny_mono (hd A { s with heap := h', toks := tk' } (fun r s₁ => r = none ∧ ∃ h1 tk1, s₁ = { s with heap := h1, toks := tk1 } ∧ H w g' ((env.locals, Frm ns os) :: (D, IsLst ys) :: (C' ++ R)) h1) lowA hs' fun r g1 N1 h1 tk1 l1 hs1 p1 => ?_) (fun r s₁ z => ?_) (fun _ _ z => z.elim)
        · obtain ⟨e, rfl, rfl⟩ := p1; exact ⟨e, h1, tk1, rfl, hs1⟩
        · obtain ⟨rfl, h1, tk1, rfl, hs1⟩ := z
          exact K .next g' _ h1 tk1 l hs1 (fin ys os g' C' l hys hJ)
    refine compLoop_any (CompI w k S ns env.locals D R J g s) (fun m s' hm => ?_) k hI0
    obtain ⟨i, _, rfl, z⟩ := turn m s' hm
    exact z

theorem H.dropBut {h h' : Heap} {a : Addr} {P : AP} {R : Led} (x : H w g ((a, P) :: R) h) (sb : Heap.SameBut a h h') : H w g R h' := by
  have nd := x.nd
  rw [List.map_cons, List.nodup_cons] at nd
  have off := x.off _ (List.mem_cons_self)
  refine ⟨x.good, fun b o eb => ?_, fun q hq => ?_, nd.2, fun q hq => x.off q (.tail _ hq)⟩
  · exact (sb.2 b fun z => by subst z; rw [off] at eb; cases eb).trans (x.keep b o eb)
  · obtain ⟨o, ho, hp⟩ := x.nw q (.tail _ hq)
    exact ⟨o, (sb.2 q.1 fun z => nd.1 (List.mem_map.mpr ⟨q, hq, z⟩)).trans ho, hp⟩
noncomputable def CompK (w : World) (n : Nat) (e : Expr) (scope : Scope) (cl : List (Str × Addr)) (ns : List Str) (env : Env) (it : Value) (g : Heap) (N : Led) (K : Addr → Addr → Heap → Led → Prop) : Prop :=
  (∀ post : Value → Heap → Led → Prop, ∀ X, post it g (X ++ N) → Sp w 0 (pyIter it) g (X ++ N) post) ∧
  ∀ D L, CdL w n (.compLoop e 0 it (.ref D) (compEnvC scope cl L env)) g ((L, Frm ns (List.replicate ns.length none)) :: (D, IsLst []) :: N) (fun f g' N' => f = .next ∧ K D L g' N')
theorem sp_compG {use : Option (Value → Sem Unit)} {tgt iter elt : Expr} {scope : Scope} {pos pos' : Pos} {cl : List (Str × Addr)} {ns : List Str} {post : Value → Heap → Led → Prop}
    (hs : ∀ x, foldedSetIterable iter env x = pure x) (hcl : closureFor scope env = pure cl) (hk : scope.kind = .function) (hnames : (scope.names.all fun x => x.2 != .local || scope.names.lookup x.1 == some .local) = true) (hcell : (scope.names.all fun x => x.2 != .cell) = true) (hnd : ns.Nodup)
    (h : Sp w n (eval iter env) g N (fun x g N => Sp w n (pyIter x) g N (fun it g N => CompK w n (.ListComp elt [⟨tgt, iter, [], 0⟩] scope pos) scope cl ns env it g N (fun D L g' N' =>
      match use with
      | none => ∃ ns' os' N'', Cut N' ((L, Frm ns' os') :: N'') ∧ post (.ref D) g' N''
      | some u => Sp w n (u (.ref D)) g' N' (fun _ g' N' => ∃ ns' os' N'', Cut N' ((L, Frm ns' os') :: N'') ∧ post .none g' N''))))) :
    Sp w n (comprehension (.ListComp elt [⟨tgt, iter, [], 0⟩] scope pos) scope env pos' (newList []) false (eval iter env) use) g N post :=
  fun A s Q hA hs' K => by
    have lowA : Room A 0 := ⟨hA.1, by have := hA.2.1; omega, by have := hA.2.2; omega⟩
    refine wpAny_comprehension_free (cl := cl) (g := ⟨tgt, iter, [], 0⟩) (gs := []) rfl hs hcl hk (fun x hx hl => by
      have := List.all_eq_true.mp hnames x hx
      rw [hl] at this; simpa using this) ?_
    refine h A s _ hA hs' fun x g1 N1 h1 tk1 l1 hs1 p1 => p1 A { s with heap := h1, toks := tk1 } _ hA hs1 fun it g2 N2 h2 tk2 l2 hs2 p2 => ?_
    refine wpAny_newObj_type (T := "list") ?_ (by size_fits)
    refine wpAny_newFunctionEnv (by intro x hx; have := List.all_eq_true.mp hcell x hx; simpa using this) (by intro y hy; simp at hy) (fun h3 hns hsb => ?_) hk
    have z1 : H w g2 ((h2.objs.size, IsLst []) :: N2) (h2.push { cls := .type "list", data := .seq ([] : List Value).toArray }) := hs2.push (P := IsLst []) ⟨0, rfl⟩
    have z2 : H w g2 (((h2.push { cls := .type "list", data := .seq ([] : List Value).toArray }).objs.size, fun _ => True) :: (h2.objs.size, IsLst []) :: N2) _ := z1.push (o := { cls := .type (if (some env).isSome = true then "dict" else "frame"), data := .dict #[] }) trivial
    have z3 : H w g2 (((h2.push { cls := .type "list", data := .seq ([] : List Value).toArray }).objs.size, Frm ns (List.replicate ns.length none)) :: (h2.objs.size, IsLst []) :: N2) h3 :=
      z2.set hsb (frm_of_ns hnd (ns_congr hns fun y => by rw [look_nones]; rfl))
    dsimp only at hns hsb z3 ⊢
    generalize (h2.push { cls := .type "list", data := .seq ([] : List Value).toArray }).objs.size = L at z3 ⊢
    generalize h2.objs.size = D at z3 ⊢
    have core : ∀ h4 tk4, H w g2 ((L, Frm ns (List.replicate ns.length none)) :: (D, IsLst []) :: N2) h4 → codeAny (model PR w) A (.compLoop (.ListComp elt [⟨tgt, iter, [], 0⟩] scope pos) 0 it (.ref D) (compEnvC scope cl L env))
        (compPost (model PR w) A (fun _ _ => False) use Q (.ref D) L) { s with heap := h4, toks := tk4 } := fun h4 tk4 hs4 => by
      refine p2.2 D L A { s with heap := h4, toks := tk4 } _ hA hs4 fun f g5 N5 h5 tk5 l5 hs5 ⟨_, p5⟩ => ?_
      cases use with
      | none =>
        obtain ⟨ns', os', N'', c, p⟩ := p5
        have y := hs5.cutN c
        obtain ⟨nd, hn⟩ := y.ns (L := L) List.mem_cons_self
        refine ⟨_, hn, fun h' sb => K _ g5 N'' h' tk5 (l1.trans (l2.trans l5)) ?_ p⟩
        exact y.dropBut sb
      | some u =>
        dsimp only at p5
        refine p5 A { s with heap := h5, toks := tk5 } _ hA hs5 fun _ g6 N6 h6 tk6 l6 hs6 ⟨ns', os', N'', c, p⟩ => ?_
        have y := hs6.cutN c
        obtain ⟨nd, hn⟩ := y.ns (L := L) List.mem_cons_self
        exact ⟨_, hn, fun h' sb => K _ g6 N'' h' tk6 (l1.trans (l2.trans (l5.trans l6))) (y.dropBut sb) p⟩
    refine codeAny_compStart_list (core h3 _ z3) ?_
    refine wpAny_mono (p2.1 (fun it' g' N' => it' = it ∧ g' = g2 ∧ N' = [(L, Frm ns (List.replicate ns.length none)), (D, IsLst [])] ++ N2) [(L, Frm ns (List.replicate ns.length none)), (D, IsLst [])] ⟨rfl, rfl, rfl⟩ A
      { s with heap := h3, toks := _ } (fun it' s' => it' = it ∧ ∃ h4 tk4, s' = { s with heap := h4, toks := tk4 } ∧ H w g2 ((L, Frm ns (List.replicate ns.length none)) :: (D, IsLst []) :: N2) h4) lowA z3 fun it' g' N' h' tk' l' hs' ⟨e1, e2, e3⟩ => ?_)
      (fun it' s' z => ?_) (fun _ _ z => z.elim)
    · subst e1 e2 e3
      exact ⟨rfl, h', tk', rfl, hs'⟩
    · obtain ⟨rfl, h4, tk4, rfl, hs4⟩ := z
      exact core h4 tk4 hs4
theorem sp_comp {tgt iter elt : Expr} {scope : Scope} {pos : Pos} {cl : List (Str × Addr)} {ns : List Str} {post : Value → Heap → Led → Prop}
    (hs : ∀ x, foldedSetIterable iter env x = pure x) (hcl : closureFor scope env = pure cl) (hk : scope.kind = .function) (hnames : (scope.names.all fun x => x.2 != .local || scope.names.lookup x.1 == some .local) = true) (hcell : (scope.names.all fun x => x.2 != .cell) = true) (hnd : ns.Nodup)
    (h : Sp w n (eval iter env) g N (fun x g N => Sp w n (pyIter x) g N (fun it g N => CompK w n (.ListComp elt [⟨tgt, iter, [], 0⟩] scope pos) scope cl ns env it g N (fun D L g' N' =>
      ∃ ns' os' N'', Cut N' ((L, Frm ns' os') :: N'') ∧ post (.ref D) g' N'')))) :
    Sp w n (eval (.ListComp elt [⟨tgt, iter, [], 0⟩] scope pos) env) g N post := by
  rw [eval_ListComp]
  exact sp_compG (use := none) hs hcl hk hnames hcell hnd h
theorem sp_assignComp {x : Str} {px p : Pos} {tgt iter elt : Expr} {scope : Scope} {pos : Pos} {cl : List (Str × Addr)} {ns : List Str} {post : Flow → Heap → Led → Prop} (hsw : swapsWith (.ListComp elt [⟨tgt, iter, [], 0⟩] scope pos) (some (.Name x px)) p.line env = pure true)
    (hs : ∀ x, foldedSetIterable iter env x = pure x) (hcl : closureFor scope env = pure cl) (hk : scope.kind = .function) (hnames : (scope.names.all fun x => x.2 != .local || scope.names.lookup x.1 == some .local) = true) (hcell : (scope.names.all fun x => x.2 != .cell) = true) (hnd : ns.Nodup)
    (h : Sp w n (eval iter env) g N (fun y g N => Sp w n (pyIter y) g N (fun it g N => CompK w n (.ListComp elt [⟨tgt, iter, [], 0⟩] scope pos) scope cl ns env it g N (fun D L g' N' =>
      Sp w n (storeName env x (.ref D)) g' N' (fun _ g' N' => ∃ ns' os' N'', Cut N' ((L, Frm ns' os') :: N'') ∧ post .next g' N''))))) :
    Sp w n (exec (.Assign [.Name x px] (.ListComp elt [⟨tgt, iter, [], 0⟩] scope pos) p) env) g N post := by
  rw [exec_Assign_Name_used x px _ p hsw, arm_evalThenUse_ListComp]
  have z := sp_compG (use := some (assign (.Name x px) env)) (post := fun _ g N => post .next g N) (pos' := firstIterPos [⟨tgt, iter, [], 0⟩] pos) hs hcl hk hnames hcell hnd (sp_mono h fun y g' N' _ h => sp_mono h fun it g' N' _ h => ⟨h.1, fun D L => cdl_mono (h.2 D L) fun f g' N' _ h => ⟨h.1, sp_asName h.2⟩⟩)
  intro A s Q hA hs' K
  exact wpAny_bind (wpAny_standAt (wpAny_bind (wpAny_bind (z A s _ hA hs' fun _ g1 N1 h1 tk1 l1 hs1 p1 => wpAny_pure (wpAny_pure (K _ g1 N1 h1 tk1 l1 hs1 p1))))))
end

-- what a loop may go through
section
variable {w : World} {n : Nat} {g : Heap} {N : Led} {env : Env}
theorem H.dropExt {h h' : Heap} {a : Addr} {P : AP} {R : Led} (x : H w g ((a, P) :: R) h) (sb : Heap.ExtBut a h h') : H w g R h' := by
  have nd := x.nd
  rw [List.map_cons, List.nodup_cons] at nd
  have off := x.off _ (List.mem_cons_self)
  refine ⟨x.good, fun b o eb => ?_, fun q hq => ?_, nd.2, fun q hq => x.off q (.tail _ hq)⟩
  · exact sb b o (fun z => by subst z; rw [off] at eb; cases eb) (x.keep b o eb)
  · obtain ⟨o, ho, hp⟩ := x.nw q (.tail _ hq)
    exact ⟨o, sb q.1 o (fun z => nd.1 (List.mem_map.mpr ⟨q, hq, z⟩)) ho, hp⟩
noncomputable def plainIt (ty : String) : Bool := !(["enumerate", "zip", "dict_itemiterator", "dict_reverseitemiterator", "odict_iterator", "itertools.zip_longest", "itertools.pairwise"].contains ty)
theorem letgo_off {A : Around} {E : Value → Shared → Prop} {s : Shared} {tgt : Expr} {it : Addr} {v : Value} {o : Obj} {ty : String} {fs : Array Value} {Q : Unit → Shared → Prop} (ho : s.heap.get? it = some o) (hc : o.cls = .type ty) (hd : o.data = .fields fs) (ht : plainIt ty = true) (h : Q () s) :
    wpAny (model PR w) A (letOwnedTupleGo tgt (.ref it) v) Q E s := by
  have hcon : (["enumerate", "zip", "dict_itemiterator", "dict_reverseitemiterator", "odict_iterator", "itertools.zip_longest", "itertools.pairwise"].contains ty) = false := by
    unfold plainIt at ht; simpa using ht
  unfold letOwnedTupleGo
  cases tgt <;> try exact wpAny_pure h
  all_goals
    cases v <;> try exact wpAny_pure h
    refine wpAny_bind (wpAny_load ho ?_)
    rw [hc, hd]
    dsimp only
    rw [hcon, Bool.false_and, if_neg Bool.false_ne_true]
    exact wpAny_pure h
theorem nxtK_tup {elts : List Expr} {kk : Nat} {pp : Pos} {it v : Value} {post : Option Value → Heap → Led → Prop} (h : Sp w 0 (letOwnedTupleGo (.Tuple elts kk pp) it v) g N (fun _ g N => post (some v) g N)) : nxtK w (.Tuple elts kk pp) it post (some v) g N := by
  unfold nxtK
  dsimp only
  rw [if_pos (show isTupE (.Tuple elts kk pp) = true from rfl)]
  exact h
theorem nxtK_off {tgt : Expr} {it : Addr} {v : Value} {P : AP} {ty : String} {post : Option Value → Heap → Led → Prop} (hP : ∀ o, P o → o.cls = .type ty ∧ ∃ fs, o.data = .fields fs) (ht : plainIt ty = true) (h : post (some v) g ((it, P) :: N)) : nxtK w tgt (.ref it) post (some v) g ((it, P) :: N) := by
  unfold nxtK
  dsimp only
  split
  · intro A s Q hA hs k
    obtain ⟨o, ho, hp⟩ := hs.nw _ List.mem_cons_self
    obtain ⟨hc, fs, hd⟩ := hP o hp
    exact letgo_off ho hc hd ht (k () g _ s.heap s.toks (Le.refl g) hs h)
  · exact h

noncomputable def LIt (ty : String) (l : Addr) (i : Nat) : AP := fun o => o.cls = .type ty ∧ o.data = .fields #[.ref l, .int (i : Int) 0]
theorem AtG.lst {h : Heap} {l : Addr} {vs : List Value} (hl : AtG g l (IsLst vs)) (hs : Le g h) : h.IsList l vs.toArray := IsLst.isList (hl.le hs)
theorem itr_list {tgt : Expr} {l it : Addr} {vs : List Value} (hl : AtG g l (IsLst vs)) : Itr w tgt g (.ref it) vs.length (fun i v X => X = [] ∧ vs[i]? = some v) (fun i => [(it, LIt "list_iterator" l i)]) where
  item := fun i g' N post hi le h => fun A s Q hA hs k => by
    obtain ⟨o, ho, hp⟩ := hs.nw _ List.mem_cons_self
    refine wpAny_pyNext_list_item (x := vs[i]) ⟨o, ho, hp⟩ ((hl.le le).lst hs.keep) (by simp [hi]) fun h' hit' sb => ?_
    exact k _ g' ((it, LIt "list_iterator" l (i + 1)) :: N) h' s.toks (Le.refl _) (hs.set sb hit') (nxtK_off (fun o hp => ⟨hp.1, _, hp.2⟩) (by decide) (h vs[i] [] ⟨rfl, by simp [hi]⟩))
  done := fun g' N post le h => fun A s Q hA hs k => by
    obtain ⟨o, ho, hp⟩ := hs.nw _ List.mem_cons_self
    exact wpAny_pyNext_list_end hA.1 ⟨o, ho, hp⟩ ((hl.le le).lst hs.keep) (by simp) fun h' he => k none g' N h' s.toks (Le.refl _) (hs.dropExt he) ⟨rfl, h⟩
  self := fun g' N post le h => fun A s Q hA hs k => by
    obtain ⟨o, ho, hp⟩ := hs.nw _ List.mem_cons_self
    exact wpAny_pyIter_listiter ⟨o, ho, hp⟩ (k _ g' _ s.heap s.toks (Le.refl _) hs h)
theorem sp_iterL {l : Addr} {vs : List Value} {post : Value → Heap → Led → Prop} (hl : AtG g l (IsLst vs)) (h : ∀ it, post (.ref it) g ((it, LIt "list_iterator" l 0) :: N)) : Sp w n (pyIter (.ref l)) g N post :=
  fun A s Q hA hs k => wpAny_pyIter_list (hl.lst hs.keep) (k _ g _ _ s.toks (Le.refl _) (hs.push (P := LIt "list_iterator" l 0) ⟨rfl, rfl⟩) (h _))
theorem IsTupl.isTuple {h : Heap} {a : Addr} {vs : List Value} (x : ∃ o, h.get? a = some o ∧ IsTupl vs o) : h.IsTuple a vs.toArray := by
  obtain ⟨_, e, rfl⟩ := x
  exact ⟨_, e, rfl, 0, rfl⟩
theorem AtG.tup {h : Heap} {l : Addr} {vs : List Value} (hl : AtG g l (IsTupl vs)) (hs : Le g h) : h.IsTuple l vs.toArray := IsTupl.isTuple (hl.le hs)
theorem itr_tuple {tgt : Expr} {l it : Addr} {vs : List Value} (hl : AtG g l (IsTupl vs)) : Itr w tgt g (.ref it) vs.length (fun i v X => X = [] ∧ vs[i]? = some v) (fun i => [(it, LIt "tuple_iterator" l i)]) where
  item := fun i g' N post hi le h => fun A s Q hA hs k => by
    obtain ⟨o, ho, hp⟩ := hs.nw _ List.mem_cons_self
    refine wpAny_pyNext_tuple_item (x := vs[i]) ⟨o, ho, hp⟩ ((hl.le le).tup hs.keep) (by simp [hi]) fun h' hit' sb => ?_
    exact k _ g' ((it, LIt "tuple_iterator" l (i + 1)) :: N) h' s.toks (Le.refl _) (hs.set sb hit') (nxtK_off (fun o hp => ⟨hp.1, _, hp.2⟩) (by decide) (h vs[i] [] ⟨rfl, by simp [hi]⟩))
  done := fun g' N post le h => fun A s Q hA hs k => by
    obtain ⟨o, ho, hp⟩ := hs.nw _ List.mem_cons_self
    exact wpAny_pyNext_tuple_end hA.1 ⟨o, ho, hp⟩ ((hl.le le).tup hs.keep) (by simp) fun h' he => k none g' N h' s.toks (Le.refl _) (hs.dropExt he) ⟨rfl, h⟩
  self := fun g' N post le h => fun A s Q hA hs k => by
    obtain ⟨o, ho, hp⟩ := hs.nw _ List.mem_cons_self
    exact wpAny_pyIter_tupleiter ⟨o, ho, hp⟩ (k _ g' _ s.heap s.toks (Le.refl _) hs h)
theorem sp_iterT {l : Addr} {vs : List Value} {post : Value → Heap → Led → Prop} (hl : AtG g l (IsTupl vs)) (h : ∀ it, post (.ref it) g ((it, LIt "tuple_iterator" l 0) :: N)) : Sp w n (pyIter (.ref l)) g N post :=
  fun A s Q hA hs k => wpAny_pyIter_tuple (hl.tup hs.keep) (k _ g _ _ s.toks (Le.refl _) (hs.push (P := LIt "tuple_iterator" l 0) ⟨rfl, rfl⟩) (h _))

-- ranges
noncomputable def RngO (m : Int) : AP := fun o => ∃ t u v, o = { cls := .type "range", data := .fields #[.int 0 t, .int m u, .int 1 v] }
noncomputable def RIt (m i : Nat) : AP := fun o => o = { cls := .type "range_iterator", data := .fields #[rawInt (i : Int), rawInt ((m : Int) - (i : Int)), rawInt 1] }
theorem sp_range {m : Int} {t : Tok} {post : Value → Heap → Led → Prop} (h : ∀ r, post (.ref r) g ((r, RngO m) :: N)) : Sp w n (call (.type "range") [.int m t]) g N post :=
  fun A s Q hA hs k => call_range_1 (k _ g _ _ _ (Le.refl _) (hs.push (P := RngO m) ⟨_, _, _, rfl⟩) (h _))
theorem itr_range {tgt : Expr} {it : Addr} {m : Nat} : Itr w tgt g (.ref it) m (fun i v X => X = [] ∧ ∃ t, v = .int (i : Int) t) (fun i => [(it, RIt m i)]) where
  item := fun i g' N post hi le h => fun A s Q hA hs k => by
    obtain ⟨o, ho, rfl⟩ := hs.nw _ List.mem_cons_self
    refine wpAny_pyNext_range_item ho (by omega) fun h' hit' sb => ?_
    refine k _ g' ((it, RIt m (i + 1)) :: N) h' _ (Le.refl _) (hs.set sb ⟨_, hit', ?_⟩) (nxtK_off (ty := "range_iterator") (fun o hp => by subst hp; exact ⟨rfl, _, rfl⟩) (by decide) (h _ [] ⟨rfl, _, rfl⟩))
    show _ = _
    rw [show ((i + 1 : Nat) : Int) = (i : Int) + 1 by omega, show (m : Int) - ((i : Int) + 1) = (m : Int) - i - 1 by omega]
  done := fun g' N post le h => fun A s Q hA hs k => by
    obtain ⟨o, ho, rfl⟩ := hs.nw _ List.mem_cons_self
    exact wpAny_pyNext_range_end hA.1 ho (by omega) fun h' he => k none g' N h' s.toks (Le.refl _) (hs.dropExt he) ⟨rfl, h⟩
  self := fun g' N post le h => fun A s Q hA hs k => by
    obtain ⟨o, ho, rfl⟩ := hs.nw _ List.mem_cons_self
    exact wpAny_pyIter_rangeiter ho (k _ g' _ s.heap s.toks (Le.refl _) hs h)
theorem rangeSize_nat (m : Nat) : Builtin.Range.rangeSize 0 m 1 = m := by
  unfold Builtin.Range.rangeSize
  rw [if_pos (by decide)]
  split
  · omega
  · omega
theorem sp_iterR {r : Addr} {m : Nat} {post : Value → Heap → Led → Prop} (hr : Has g N r (RngO m)) (hm : m < 2 ^ 30) (h : ∀ it, post (.ref it) g ((it, RIt m 0) :: N)) : Sp w n (pyIter (.ref r)) g N post :=
  fun A s Q hA hs k => by
    obtain ⟨_, e, t, u, v, rfl⟩ := hr.at hs
    have sm : Builtin.Range.small 0 m 1 = true := by
      unfold Builtin.Range.small
      rw [rangeSize_nat]
      simp [Builtin.Range.rangeFitsLong]
      omega
    refine wpAny_pyIter_range e sm ?_
    rw [rangeSize_nat]
    exact k _ g _ _ s.toks (Le.refl _) (hs.push (P := RIt m 0) (by show _ = _; simp [rawInt])) (h _)

-- text
noncomputable def SIt (x : Str) (i : Nat) : AP := fun o => ∃ t, o.cls = .type (strIterType x) ∧ o.data = .fields #[.str x t, .int (i : Int) 0]
theorem strIt_plain (x : Str) : plainIt (strIterType x) = true := by unfold strIterType; split <;> decide
theorem itr_str {tgt : Expr} {it : Addr} {x : Str} : Itr w tgt g (.ref it) x.cps.size (fun i v X => X = [] ∧ ∃ c t, x.cps[i]? = some c ∧ v = .str ⟨#[c]⟩ t) (fun i => [(it, SIt x i)]) where
  item := fun i g' N post hi le h => fun A s Q hA hs k => by
    obtain ⟨o, ho, t, hp⟩ := hs.nw _ List.mem_cons_self
    have fin : ∀ h' tk tt, (h'.IsStrIter it (strIterType x) x t (i + 1)) → Heap.SameBut it s.heap h' → Q (some (.str ⟨#[x.cps[i]]⟩ tt)) { s with heap := h', toks := tk } := fun h' tk tt ⟨o', e', p'⟩ sb =>
      k _ g' ((it, SIt x (i + 1)) :: N) h' tk (Le.refl _) (hs.set sb ⟨o', e', t, p'⟩) (nxtK_off (fun o hp => let ⟨_, a, b⟩ := hp; ⟨a, _, b⟩) (strIt_plain x) (h _ [] ⟨rfl, x.cps[i], tt, by simp [hi], rfl⟩))
    cases ha : x.cps.all (fun x => decide (x < 128)) with
    | true =>
      have e : strIterType x = "str_ascii_iterator" := by unfold strIterType; rw [if_pos ha]
      rw [e] at hp fin
      exact wpAny_pyNext_ascii_item ⟨o, ho, hp⟩ (by simp [hi]) fun h' hit' sb => fin h' _ _ hit' sb
    | false =>
      have e : strIterType x = "str_iterator" := by unfold strIterType; rw [ha]; rfl
      rw [e] at hp fin
      exact wpAny_pyNext_wide_item ⟨o, ho, hp⟩ (by simp [hi]) fun h' hit' sb => fin h' _ _ hit' sb
  done := fun g' N post le h => fun A s Q hA hs k => by
    obtain ⟨o, ho, t, hp⟩ := hs.nw _ List.mem_cons_self
    cases ha : x.cps.all (fun x => decide (x < 128)) with
    | true =>
      have e : strIterType x = "str_ascii_iterator" := by unfold strIterType; rw [if_pos ha]
      rw [e] at hp
      exact wpAny_pyNext_ascii_end hA.1 ⟨o, ho, hp⟩ (by simp) fun h' he => k none g' N h' s.toks (Le.refl _) (hs.dropExt he) ⟨rfl, h⟩
    | false =>
      have e : strIterType x = "str_iterator" := by unfold strIterType; rw [ha]; rfl
      rw [e] at hp
      exact wpAny_pyNext_wide_end hA.1 ⟨o, ho, hp⟩ (by simp) fun h' he => k none g' N h' s.toks (Le.refl _) (hs.dropExt he) ⟨rfl, h⟩
  self := fun g' N post le h => fun A s Q hA hs k => by
    obtain ⟨o, ho, t, hp⟩ := hs.nw _ List.mem_cons_self
    cases ha : x.cps.all (fun x => decide (x < 128)) with
    | true =>
      have e : strIterType x = "str_ascii_iterator" := by unfold strIterType; rw [if_pos ha]
      rw [e] at hp
      exact wpAny_pyIter_striter_ascii ⟨o, ho, hp⟩ (k _ g' _ s.heap s.toks (Le.refl _) hs h)
    | false =>
      have e : strIterType x = "str_iterator" := by unfold strIterType; rw [ha]; rfl
      rw [e] at hp
      exact wpAny_pyIter_striter_wide ⟨o, ho, hp⟩ (k _ g' _ s.heap s.toks (Le.refl _) hs h)
theorem sp_iterS {x : Str} {t : Tok} {post : Value → Heap → Led → Prop} (h : ∀ it, post (.ref it) g ((it, SIt x 0) :: N)) : Sp w n (pyIter (.str x t)) g N post :=
  fun A s Q hA hs k => wpAny_pyIter_strU (k _ g _ _ s.toks (Le.refl _) (hs.push (P := SIt x 0) ⟨t, rfl, rfl⟩) (h _))

-- enumerate
noncomputable def EnO (it : Addr) (i : Nat) : AP := fun o => ∃ old, o = { cls := .type "enumerate", dict := none, data := .fields #[.none, .bool false, .ref it, rawInt (i : Int), .none, old], slots := #[] }
noncomputable def EnX (it : Addr) (i : Nat) (a : Addr) : AP := fun o => ∃ old, o = { cls := .type "enumerate", dict := none, data := .fields #[rawInt (a : Int), .bool false, .ref it, rawInt (i : Int), .none, old], slots := #[] }
theorem H.two {h h' : Heap} {a b : Addr} {P P' Q Q' : AP} {R : Led} (x : H w g ((a, P) :: (b, Q) :: R) h) (hk : ∀ c o, c ≠ a → c ≠ b → h.get? c = some o → h'.get? c = some o) (ea : ∃ o, h'.get? a = some o ∧ P' o) (eb : ∃ o, h'.get? b = some o ∧ Q' o) : H w g ((a, P') :: (b, Q') :: R) h' := by
  have nd := x.nd
  have offa := x.off _ (List.mem_cons_self)
  have offb := x.off _ (List.mem_cons_of_mem _ (List.mem_cons_self))
  rw [List.map_cons, List.map_cons, List.nodup_cons, List.nodup_cons] at nd
  refine ⟨x.good, fun c o ec => hk c o (fun z => by subst z; rw [offa] at ec; cases ec) (fun z => by subst z; rw [offb] at ec; cases ec) (x.keep c o ec), fun q hq => ?_, by rw [List.map_cons, List.map_cons, List.nodup_cons, List.nodup_cons]; exact nd, fun q hq => ?_⟩
  · rcases List.mem_cons.mp hq with rfl | hq
    · exact ea
    · rcases List.mem_cons.mp hq with rfl | hq
      · exact eb
      · obtain ⟨o, ho, hp⟩ := x.nw q (.tail _ (.tail _ hq))
        exact ⟨o, hk q.1 o (fun z => nd.1 (by rw [← z]; exact List.mem_cons_of_mem _ (List.mem_map.mpr ⟨q, hq, rfl⟩))) (fun z => nd.2.1 (List.mem_map.mpr ⟨q, hq, z⟩)) ho, hp⟩
  · rcases List.mem_cons.mp hq with rfl | hq
    · exact offa
    · rcases List.mem_cons.mp hq with rfl | hq
      · exact offb
      · exact x.off q (.tail _ (.tail _ hq))
theorem itr_enum {elts : List Expr} {kk : Nat} {pp : Pos} {l e it : Addr} {vs : List Value} (hl : AtG g l (IsLst vs)) : Itr w (.Tuple elts kk pp) g (.ref e) vs.length (fun i v X => ∃ T t x, v = .ref T ∧ vs[i]? = some x ∧ X = [(T, IsTupl [.int (i : Int) t, x])]) (fun i => [(e, EnO it i), (it, LIt "list_iterator" l i)]) where
  item := fun i g' N post hi le h => fun A s Q hA hs k => by
    obtain ⟨_, he, old, rfl⟩ := hs.nw _ List.mem_cons_self
    obtain ⟨o, ho, hp⟩ := hs.nw (it, LIt "list_iterator" l i) (List.mem_cons_of_mem _ List.mem_cons_self)
    have hne : e ≠ it := by
      have nd := hs.nd
      rw [show ((fun i => [(e, EnO it i), (it, LIt "list_iterator" l i)]) i ++ N) = (e, EnO it i) :: (it, LIt "list_iterator" l i) :: N from rfl, List.map_cons, List.map_cons, List.nodup_cons] at nd
      intro z; exact nd.1 (by rw [show (e, EnO it i).1 = it from z]; exact List.mem_cons_self)
    refine wpAny_pyNext_enum_item (x := vs[i]) he ⟨o, ho, hp⟩ ((hl.le le).lst hs.keep) (by simp [hi]) hne fun h' a1 a2 a3 a4 a5 => ?_
    have y : H w g' ((e, EnX it (i + 1) s.heap.objs.size) :: (it, LIt "list_iterator" l (i + 1)) :: N) h' := H.two hs a5 ⟨_, a1, _, rfl⟩ a2
    have z : H w g' ((s.heap.objs.size, IsTupl [.int (i : Int) s.toks, vs[i]]) :: (e, EnX it (i + 1) s.heap.objs.size) :: (it, LIt "list_iterator" l (i + 1)) :: N) h' := by
      refine ⟨y.good, y.keep, fun q hq => ?_, ?_, fun q hq => ?_⟩
      · rcases List.mem_cons.mp hq with rfl | hq
        · exact ⟨_, a3, rfl⟩
        · exact y.nw q hq
      · rw [List.map_cons, List.nodup_cons]
        refine ⟨fun hm => ?_, y.nd⟩
        have : s.heap.objs.size ∈ (((e, EnO it i) :: (it, LIt "list_iterator" l i) :: N).map (·.1)) := hm
        obtain ⟨q, hq, e'⟩ := List.mem_map.mp this
        obtain ⟨o', eo, _⟩ := hs.nw q hq
        exact absurd (Heap.lt_size eo) (by rw [e']; exact Nat.lt_irrefl _)
      · rcases List.mem_cons.mp hq with rfl | hq
        · cases e' : g'.get? s.heap.objs.size with
          | none => rfl
          | some o' => exact absurd (Heap.lt_size (hs.keep _ _ e')) (Nat.lt_irrefl _)
        · exact y.off q hq
    refine k _ g' _ h' _ (Le.refl _) z (nxtK_tup ?_)
    intro A' s' Q' hA' hs' k'
    have hs'' := hs'.perm (List.Perm.swap _ _ _)
    obtain ⟨_, he', old', rfl⟩ := hs''.nw _ List.mem_cons_self
    refine wpAny_letOwnedTupleGo_enum he' fun h2 b1 sb => k' () g' _ h2 s'.toks (Le.refl _) ((hs''.set sb ⟨_, b1, _, rfl⟩).perm (List.Perm.swap _ _ _)) (h _ _ ⟨_, _, vs[i], rfl, by simp [hi], rfl⟩)
  done := fun g' N post le h => fun A s Q hA hs k => by
    obtain ⟨_, he, old, rfl⟩ := hs.nw _ List.mem_cons_self
    obtain ⟨o, ho, hp⟩ := hs.nw (it, LIt "list_iterator" l vs.length) (List.mem_cons_of_mem _ List.mem_cons_self)
    exact wpAny_pyNext_enum_end hA.1 he ⟨o, ho, hp⟩ ((hl.le le).lst hs.keep) (by simp) fun h' he => k none g' N h' s.toks (Le.refl _) ((hs.perm (List.Perm.swap _ _ _)).dropExt he |>.cutN (.drop .same)) ⟨rfl, h⟩
  self := fun g' N post le h => fun A s Q hA hs k => by
    obtain ⟨_, he, old, rfl⟩ := hs.nw _ List.mem_cons_self
    exact wpAny_pyIter_enum he (k _ g' _ s.heap s.toks (Le.refl _) hs h)
theorem sp_enum {l : Addr} {vs : List Value} {post : Value → Heap → Led → Prop} (hl : AtG g l (IsLst vs)) (h : ∀ e it, post (.ref e) g ((e, EnO it 0) :: (it, LIt "list_iterator" l 0) :: N)) : Sp w n (call (.type "enumerate") [.ref l]) g N post :=
  fun A s Q hA hs k => call_enumerate_list (hl.lst hs.keep) fun h' a1 a2 a3 a4 => k _ g _ h' s.toks (Le.refl _) (hs.ext (E := [(s.heap.objs.size + 1, EnO s.heap.objs.size 0), (s.heap.objs.size, LIt "list_iterator" l 0)]) a4 (fun p hp => by
    simp only [List.mem_cons, List.not_mem_nil, or_false] at hp
    rcases hp with rfl | rfl
    · exact ⟨_, a1, _, rfl⟩
    · exact a2) (by simp) (fun p hp => by
    simp only [List.mem_cons, List.not_mem_nil, or_false] at hp
    rcases hp with rfl | rfl
    · exact Nat.le_succ _
    · exact Nat.le_refl _)) (h _ _)
theorem sp_iterE {e it : Addr} {i : Nat} {post : Value → Heap → Led → Prop} (he : Has g N e (EnO it i)) (h : post (.ref e) g N) : Sp w n (pyIter (.ref e)) g N post :=
  fun A s Q hA hs k => by
    obtain ⟨_, he, old, rfl⟩ := he.at hs
    exact wpAny_pyIter_enum he (k _ g _ s.heap s.toks (Le.refl _) hs h)
end

-- text values, and the small builtins
section
variable {w : World} {n : Nat} {g : Heap} {N : Led} {env : Env}
theorem sp_addS {x y : Str} {t u : Tok} {post : Value → Heap → Led → Prop} (hz : x.length + y.length ≤ sizeLine) (h : ∀ tk, post (.str (x ++ y) tk) g N) : Sp w n (binaryOp .Add (.str x t) (.str y u)) g N post :=
  fun A s Q hA hs k => PySem.SB.add (fun t' k' => k _ g N s.heap k' (Le.refl g) hs (h t')) hz
theorem mulOk_of {x : Str} {i : Int} (h1 : x.length ≤ 1000) (h2 : i ≤ 10000) (h3 : -(2 ^ 60) ≤ i) : MulOk x i := by
  refine ⟨by simp only [Bool.or_eq_false_iff, decide_eq_false_iff_not]; constructor <;> omega, fun hn _ => ?_, fun hn _ => ?_⟩
  · intro hc
    have : (2 ^ 63 - 1 : Int) / i ≥ 1000 := by
      rw [ge_iff_le, Int.le_ediv_iff_mul_le (by omega)]; omega
    omega
  · unfold Builtin.Str.tooLong
    have : x.length * i.toNat ≤ 1000 * 10000 := Nat.mul_le_mul h1 (by omega)
    simp only [decide_eq_false_iff_not]
    rw [sizeLine_eq]
    omega
theorem sp_mulS {x : Str} {i : Int} {t u : Tok} {post : Value → Heap → Led → Prop} (h1 : x.length ≤ 1000) (h2 : i ≤ 10000) (h3 : -(2 ^ 60) ≤ i) (h : ∀ tk, post (.str (Txt.mul x i) tk) g N) : Sp w n (binaryOp .Mult (.str x t) (.int i u)) g N post :=
  fun A s Q hA hs k => PySem.SB.mul (mulOk_of h1 h2 h3) fun t' k' => k _ g N s.heap k' (Le.refl g) hs (h t')
theorem beq_cps {x y : Str} : (x.cps.toList == y.cps.toList) = decide (x = y) := by
  rw [Bool.eq_iff_iff]
  simp only [beq_iff_eq, decide_eq_true_eq]
  constructor
  · intro h
    obtain ⟨a⟩ := x
    obtain ⟨b⟩ := y
    congr 1
    exact Array.toList_inj.mp h
  · rintro rfl; rfl
theorem sp_eqS {x y : Str} {t u : Tok} {post : Value → Heap → Led → Prop} (h : post (.bool (decide (x = y))) g N) : Sp w n (compareOp .Eq (.str x t) (.str y u)) g N post :=
  fun A s Q hA hs k => PySem.P.eq_str (k _ g N s.heap s.toks (Le.refl g) hs (by rw [beq_cps]; exact h))
theorem sp_neS {x y : Str} {t u : Tok} {post : Value → Heap → Led → Prop} (h : post (.bool (!decide (x = y))) g N) : Sp w n (compareOp .NotEq (.str x t) (.str y u)) g N post :=
  fun A s Q hA hs k => PySem.P.ne_str (k _ g N s.heap s.toks (Le.refl g) hs (by rw [bne, beq_cps]; exact h))
theorem sp_inS {x y : Str} {t u : Tok} {post : Value → Heap → Led → Prop} (h : post (.bool (Txt.contains x y)) g N) : Sp w n (compareOp .In (.str y u) (.str x t)) g N post :=
  fun A s Q hA hs k => PySem.SB.contains (k _ g N s.heap s.toks (Le.refl g) hs h)
theorem sp_lenS {x : Str} {t : Tok} {post : Value → Heap → Led → Prop} (hz : x.length ≤ sizeLine) (h : ∀ tk, post (.int x.length tk) g N) : Sp w n (call (.builtin "len") [.str x t]) g N post :=
  fun A s Q hA hs k => PySem.P.len_str (by rw [sizeLine_eq] at hz; omega) (k _ g N s.heap _ (Le.refl g) hs (h _))
theorem sp_itemS {value slice : Expr} {x : Str} {i : Int} {c : Nat} {t u : Tok} {post : Value → Heap → Led → Prop} (h0 : 0 ≤ i) (hhi : i < 2 ^ 63) (hc : x.cps[i.toNat]? = some c)
    (hs : subscripted slice false (.str x t) (.int i u) = operate [.str x t, .int i u] (getItem (.str x t) (.int i u))) (h : ∀ tk, post (.str ⟨#[c]⟩ tk) g N) : Sp w n (subscriptTail value slice (.str x t) (.int i u)) g N post :=
  fun A s Q hA hs' K => tail_any (typeIs_str s x t) F.slot_str_getitem.lookup (PyProof.Rows.getItem_str (by simp only [Bool.or_eq_false_iff, decide_eq_false_iff_not]; constructor <;> omega)
    (by
      have hlt : i.toNat < x.length := by
        have := (Array.getElem?_eq_some_iff.mp hc).1
        exact this
      rw [show seqIndex? i x.length = some i.toNat by
        unfold seqIndex?
        simp only [if_neg (show ¬ i < 0 by omega)]
        rw [if_pos (by simp only [Bool.and_eq_true, decide_eq_true_eq]; omega)]]
      exact hc) (K _ g N s.heap _ (Le.refl g) hs' (h _))) hs
theorem sp_strI {i : Int} {t : Tok} {post : Value → Heap → Led → Prop} (hz : i.natAbs < 2 ^ 62) (h : ∀ tk, post (.str (Str.ofString (toString i)) tk) g N) : Sp w n (call (.type "str") [.int i t]) g N post :=
  fun A s Q hA hs k => PySem.P.str_of_int (by
    rcases Nat.eq_zero_or_pos i.natAbs with e | e
    · rw [e]; decide
    · exact Nat.lt_trans ((Nat.log2_lt (by omega)).mpr hz) (by decide)) (k _ g N s.heap _ (Le.refl g) hs (h _))
theorem sp_intS {x : Str} {i : Int} {t : Tok} {post : Value → Heap → Led → Prop} (hx : PySem.intText? x = some i) (hz : x.length ≤ 640) (h : ∀ tk, post (.int i tk) g N) : Sp w n (call (.type "int") [.str x t]) g N post :=
  fun A s Q hA hs k => PySem.W.KIN.call_text hx hz (k _ g N s.heap _ (Le.refl g) hs (h _))
theorem sp_ord {c : Nat} {t : Tok} {post : Value → Heap → Led → Prop} (h : ∀ tk, post (.int c tk) g N) : Sp w n (call (.builtin "ord") [.str ⟨#[c]⟩ t]) g N post :=
  fun A s Q hA hs k => PyProof.Rows.ord_of_one (by rfl) (k _ g N s.heap _ (Le.refl g) hs (h _))
theorem sp_abs {i : Int} {t : Tok} {post : Value → Heap → Led → Prop} (h : ∀ tk, post (.int (if i < 0 then -i else i) tk) g N) : Sp w n (call (.builtin "abs") [.int i t]) g N post :=
  fun A s Q hA hs k => PyProof.Rows.call_abs_int fun u tk => k _ g N s.heap tk (Le.refl g) hs (h u)
theorem sp_max {i j : Int} {t u : Tok} {post : Value → Heap → Led → Prop} (h : ∀ tk, post (.int (max i j) tk) g N) : Sp w n (call (.builtin "max") [.int i t, .int j u]) g N post :=
  fun A s Q hA hs k => PySem.max_two_ints hA.1 fun h' tk hk => by
    have e : (if j > i then Value.int j u else Value.int i t) = .int (max i j) (if j > i then u else t) := by split <;> congr <;> omega
    rw [e]; exact k _ g N h' tk (Le.refl g) (hs.grown hk) (h _)
theorem sp_min {i j : Int} {t u : Tok} {post : Value → Heap → Led → Prop} (h : ∀ tk, post (.int (min i j) tk) g N) : Sp w n (call (.builtin "min") [.int i t, .int j u]) g N post :=
  fun A s Q hA hs k => PySem.min_two_ints hA.1 fun h' tk hk => by
    have e : (if j < i then Value.int j u else Value.int i t) = .int (min i j) (if j < i then u else t) := by split <;> congr <;> omega
    rw [e]; exact k _ g N h' tk (Le.refl g) (hs.grown hk) (h _)
theorem sp_fdiv {a b : Int} {t u : Tok} {post : Value → Heap → Led → Prop} (hb : 0 < b) (hd : b < 1073741824) (h : ∀ tk, post (.int (a / b) tk) g N) : Sp w n (binaryOp .FloorDiv (.int a t) (.int b u)) g N post :=
  fun A s Q hA hs k => PyProof.Rows.floordiv_int (by omega) (by rw [Int.fdiv_eq_ediv_of_nonneg _ (by omega)]; exact k _ g N s.heap _ (Le.refl g) hs (h _)) (.inl (PyProof.noPylong_small (by omega)))
theorem sp_isnotN {v : Value} {post : Value → Heap → Led → Prop} (h : post (.bool !(v == .none)) g N) : Sp w n (compareOp .IsNot v .none) g N post :=
  fun A s Q hA hs k => PySem.isNot_none (k _ g N s.heap s.toks (Le.refl g) hs h)
theorem sp_negI {a : Int} {t : Tok} {post : Value → Heap → Led → Prop} (h : ∀ tk, post (.int (-a) tk) g N) : Sp w n (unaryOp .USub (.int a t)) g N post :=
  fun A s Q hA hs k => PyProof.Rows.neg_int (k _ g N s.heap _ (Le.refl g) hs (h _))
-- slices
noncomputable def IsSl (a b c : Value) : AP := fun o => o = { cls := .type "slice", data := .fields #[a, b, c] }
noncomputable abbrev sp_slice_k1 (post : Value → Heap → Led → Prop) (a) (b) := fun c (g : Heap) (N : Led) => ∀ sl, post (.ref sl) g ((sl, IsSl a b c) :: N)
noncomputable abbrev sp_slice_k2 (w : World) (n : Nat) (st : Option Expr) (env : Env) (post : Value → Heap → Led → Prop) (a) := fun b (g : Heap) (N : Led) => Sp w n (evalPart st env) g N (sp_slice_k1 post a b)
noncomputable abbrev sp_slice_k3 (w : World) (n : Nat) (hi : Option Expr) (env : Env) (st : Option Expr) (post : Value → Heap → Led → Prop) := fun a (g : Heap) (N : Led) => Sp w n (evalPart hi env) g N (sp_slice_k2 w n st env post a)
theorem sp_slice {lo hi st : Option Expr} {p : Pos} {post : Value → Heap → Led → Prop}
    (h : Sp w n (evalPart lo env) g N (sp_slice_k3 w n hi env st post)) : Sp w n (eval (.Slice lo hi st p) env) g N post :=
  fun A s Q hA hs k => PySem.wpAny_Slice (h A s _ hA hs fun a g1 N1 h1 tk1 l1 hs1 p1 => p1 A _ _ hA hs1 fun b g2 N2 h2 tk2 l2 hs2 p2 => p2 A _ _ hA hs2 fun c g3 N3 h3 tk3 l3 hs3 p3 =>
    k _ g3 _ _ tk3 (l1.trans (l2.trans l3)) (hs3.push (P := IsSl a b c) rfl) (p3 _))
theorem sp_partN {post : Value → Heap → Led → Prop} (h : post .none g N) : Sp w n (evalPart none env) g N post := by
  rw [evalPart_none]; exact sp_pure h
theorem sp_partS {e : Expr} {post : Value → Heap → Led → Prop} (h : Sp w n (eval e env) g N post) : Sp w n (evalPart (some e) env) g N post := by
  rw [evalPart_some]; exact h
theorem IsSl.isSliceOf {h : Heap} {sl : Addr} {a b c : Value} (x : ∃ o, h.get? sl = some o ∧ IsSl a b c o) : h.IsSliceOf sl a b c := by
  obtain ⟨_, e, rfl⟩ := x
  exact ⟨_, e, rfl, rfl⟩
/-- a slice of a list is a new list -/
theorem sp_sliceL {value slice : Expr} {l sl : Addr} {vs ws : List Value} {a b c : Value} {lo hi st : Option Int} {post : Value → Heap → Led → Prop} (hl : Has g N l (IsLst vs)) (hsl : Has g N sl (IsSl a b c)) (ha : IsPart a lo) (hb : IsPart b hi) (hc : IsPart c st) (h0 : st ≠ some 0)
    (hz : vs.length ≤ sizeLine) (hw : (slicePick vs.toArray lo hi st).toList = ws)
    (hs : subscripted slice false (.ref l) (.ref sl) = operate [.ref sl, .ref l] (getItem (.ref l) (.ref sl))) (h : ∀ d, post (.ref d) g ((d, IsLst ws) :: N)) : Sp w n (subscriptTail value slice (.ref l) (.ref sl)) g N post :=
  fun A s Q hA hs' K => tail_any (IsLst.isList (hl.at hs')).typeIs slot_list_getitem.lookup (PySem.wpAny_getItem_list_slice (IsLst.isList (hl.at hs')) (IsSl.isSliceOf (hsl.at hs')) ha hb hc h0
    (K _ g _ _ _ (Le.refl g) (hs'.push (P := IsLst ws) ⟨0, by rw [← hw, Array.toArray_toList]⟩) (h _)) (by rw [List.size_toArray]; exact hz)) hs
theorem sp_sliceS {value slice : Expr} {x : Str} {t : Tok} {sl : Addr} {a b : Value} {lo hi : Option (Int × Tok)} {post : Value → Heap → Led → Prop} (hsl : Has g N sl (IsSl a b .none)) (ha : a = partValue lo) (hb : b = partValue hi)
    (hs : subscripted slice false (.str x t) (.ref sl) = operate [.ref sl, .str x t] (getItem (.str x t) (.ref sl))) (hz : x.length ≤ sizeLine) (h : ∀ tk, post (.str (Txt.slice x (lo.map (·.1)) (hi.map (·.1))) tk) g N) : Sp w n (subscriptTail value slice (.str x t) (.ref sl)) g N post :=
  fun A s Q hA hs' K => tail_any (typeIs_str s x t) F.slot_str_getitem.lookup (PySem.wpAny_getItem_str_slice (l := lo) (u := hi) (st := none) (by
      obtain ⟨_, e, rfl⟩ := hsl.at hs'
      subst ha hb
      exact ⟨_, e, rfl, rfl⟩) rfl (by
    exact post_val_or_str ⟨Nat.le_trans (Txt.slice_le x _ _) hz, fun t' k' => K _ g N s.heap k' (Le.refl g) hs' (h t')⟩)) hs
theorem ints_items {vs : List Value} {ns : List Int} (h : IntsAre vs ns) : ∃ xs : List (Int × Tok), vs = xs.map (fun p => .int p.1 p.2) ∧ xs.map (·.1) = ns := by
  induction h with
  | nil => exact ⟨[], rfl, rfl⟩
  | cons n t _ ih => obtain ⟨xs, e, e'⟩ := ih; exact ⟨(n, t) :: xs, by simp [e], by simp [e']⟩
theorem preSum_take (xs : List (Int × Tok)) : ∀ k, k ≤ xs.length → preSum (numAt xs.toArray) k = ((xs.map (·.1)).take k).sum
  | 0, _ => rfl
  | k + 1, h => by
    show preSum _ k + numAt _ k = _
    rw [preSum_take xs k (by omega), List.take_add_one]
    have : numAt xs.toArray k = xs[k].1 := by simp [numAt, List.getElem?_eq_getElem (show k < xs.length by omega)]
    rw [this]
    simp [List.getElem?_eq_getElem (show k < xs.length by omega)]
theorem sum_bnd : ∀ (ns : List Int), (∀ x ∈ ns, 0 ≤ x ∧ x < 2 ^ 40) → 0 ≤ ns.sum ∧ ns.sum ≤ ns.length * 2 ^ 40
  | [], _ => by simp
  | x :: r, h => by
    have := sum_bnd r fun y hy => h y (.tail _ hy)
    have hx := h x (.head _)
    simp only [List.sum_cons, List.length_cons]
    omega
theorem sp_sum {l : Addr} {vs : List Value} {ns : List Int} {post : Value → Heap → Led → Prop} (hl : Has g N l (IsLst vs)) (hi : IntsAre vs ns) (hb : ∀ x ∈ ns, 0 ≤ x ∧ x < 2 ^ 40) (hn : ns.length ≤ 10000) (h : ∀ tk, post (.int ns.sum tk) g N) : Sp w n (call (.builtin "sum") [.ref l]) g N post :=
  fun A s Q hA hs K => by
    obtain ⟨xs, rfl, rfl⟩ := ints_items hi
    have hlen : xs.length ≤ 10000 := by simpa using hn
    refine PySem.sum_intList (xs := xs.toArray) hA.1 (by
      have := IsLst.isList (hl.at hs)
      simpa [intItems] using this) (fun j hj => ?_) fun h' tk t' hk => ?_
    · have hj' : j < xs.length := by simpa using hj
      constructor
      · have : numAt xs.toArray j = xs[j].1 := by simp [numAt, List.getElem?_eq_getElem hj']
        rw [this]
        have := hb xs[j].1 (List.mem_map.mpr ⟨xs[j], List.getElem_mem hj', rfl⟩)
        unfold InLong; omega
      · rw [preSum_take xs (j + 1) hj']
        have := sum_bnd ((xs.map (·.1)).take (j + 1)) fun x hx => hb x (List.mem_of_mem_take hx)
        have hl2 : ((xs.map (·.1)).take (j + 1)).length ≤ 10000 := by rw [List.length_take]; simp; omega
        unfold InLong; omega
    · have e : preSum (numAt xs.toArray) xs.toArray.size = (xs.map (·.1)).sum := by
        rw [List.size_toArray, preSum_take xs _ (Nat.le_refl _), List.take_of_length_le (by simp)]
      rw [e]
      exact K _ g N h' tk (Le.refl g) (hs.grown hk) (h _)
end

-- tuples: what is made is frozen at once
section
variable {w : World} {n : Nat} {g : Heap} {N : Led} {env : Env}
theorem H.newF {h : Heap} {P : AP} {o : Obj} (x : H w g N h) (p : P o) (hf : o.isFreed = false := by rfl) : ∃ g', Le g g' ∧ H w g' N (h.push o) ∧ AtG g' h.objs.size P := by
  obtain ⟨g', l, y, f⟩ := H.freeze [(h.objs.size, P)] (x.push p hf)
  exact ⟨g', l, y, f _ (List.mem_singleton.mpr rfl)⟩
/-- what may follow when a frozen object of this kind is handed on -/
noncomputable def Frz (P : AP) (g : Heap) (N : Led) (post : Value → Heap → Led → Prop) : Prop := ∀ g' d, Le g g' → AtG g' d P → post (.ref d) g' N
theorem Frz.use {P : AP} {post : Value → Heap → Led → Prop} {s : Shared} {Q : Value → Shared → Prop} {h' : Heap} {o : Obj} {tk : Nat} (z : Frz P g N post) (p : P o) (hs : H w g N h')
    (k : ∀ a g' N' h' tk', Le g g' → H w g' N' h' → post a g' N' → Q a { s with heap := h', toks := tk' }) (hf : o.isFreed = false := by rfl) : Q (.ref h'.objs.size) { s with heap := h'.push o, toks := tk } := by
  obtain ⟨g', l, y, f⟩ := hs.newF p hf
  exact k _ g' N _ tk l y (z g' _ l f)
noncomputable abbrev sp_tupleF_k1 (post : Value → Heap → Led → Prop) := fun vs (g : Heap) (N : Led) => vs.length ≤ sizeLine ∧ Frz (IsTupl vs) g N post
theorem sp_tupleF {es : List Expr} {c : Nat} {p : Pos} {post : Value → Heap → Led → Prop}
    (h : Sp w n (spliced (backTo p (starEach es env))) g N (sp_tupleF_k1 post)) : Sp w n (eval (.Tuple es c p) env) g N post :=
  fun A s Q hA hs k => Tuple_ (h A s _ hA hs fun vs g1 N1 h1 tk1 l1 hs1 p1 => wpAny_newObj_type (by
    obtain ⟨g', l, y, f⟩ := hs1.newF (P := IsTupl vs) (o := { cls := .type "tuple", data := .seq vs.toArray }) rfl
    exact k _ g' N1 _ tk1 (l1.trans l) y (p1.2 g' _ l f)) (by show vs.toArray.size ≤ sizeLine; rw [List.size_toArray]; exact p1.1))
theorem AtG.at {h : Heap} {a : Addr} {P : AP} (x : AtG g a P) (hs : H w g N h) : ∃ o, h.get? a = some o ∧ P o := (AtG.has (N := N) x).at hs
theorem sp_itemT {value slice : Expr} {l : Addr} {vs : List Value} {k : Int} {t : Tok} {x : Value} {post : Value → Heap → Led → Prop} (hl : AtG g l (IsTupl vs)) (h0 : 0 ≤ k) (hx : vs[k.toNat]? = some x) (hhi : k < 2 ^ 63)
    (hs : subscripted slice false (.ref l) (.int k t) = operate [.ref l, .int k t] (getItem (.ref l) (.int k t))) (h : post x g N) : Sp w n (subscriptTail value slice (.ref l) (.int k t)) g N post :=
  fun A s Q hA hs' K => by
    obtain ⟨_, e, rfl⟩ := hl.at hs'
    refine tail_any ⟨_, e, rfl⟩ slot_tuple_getitem.lookup (PySem.P.getItem_tuple (k := k.toNat) e (by omega) hhi ?_ (by simpa using hx) (K _ g N s.heap s.toks (Le.refl g) hs' h)) hs
    have := (List.getElem?_eq_some_iff.mp hx).1
    unfold seqIndex?
    simp only [if_neg (show ¬ k < 0 by omega)]
    rw [if_pos (by simp only [Bool.and_eq_true, decide_eq_true_eq, List.size_toArray]; omega)]
theorem sp_sliceT {value slice : Expr} {l sl : Addr} {vs : List Value} {a : Nat} {i : Int} {t : Tok} {post : Value → Heap → Led → Prop} (hl : AtG g l (IsTupl vs)) (hsl : Has g N sl (IsSl (.int i t) .none .none)) (hi : i = (a : Int)) (h1 : 1 ≤ a) (ha : a ≤ vs.length) (hz : vs.length ≤ sizeLine)
    (hs : subscripted slice false (.ref l) (.ref sl) = operate [.ref sl, .ref l] (getItem (.ref l) (.ref sl))) (h : Frz (IsTupl (vs.drop a)) g N post) : Sp w n (subscriptTail value slice (.ref l) (.ref sl)) g N post :=
  fun A s Q hA hs' K => by
    subst hi
    have ht : IsTup s.heap l vs.toArray := IsTupl.isTup (hl.at hs')
    refine tail_any ht.typeIs slot_tuple_getitem.lookup (PyProof.Rows.getItem_tuple_from ht (IsSl.isSliceOf (hsl.at hs')) h1 (by simpa using ha) ?_ (by simpa using hz)) hs
    have := h.use (s := s) (Q := Q) (o := { cls := .type "tuple", data := .seq (vs.drop a).toArray }) (tk := s.toks) rfl hs' K
    simpa using this
theorem sp_addT {a b : Addr} {vs ws : List Value} {post : Value → Heap → Led → Prop} (ha : AtG g a (IsTupl vs)) (hb : AtG g b (IsTupl ws)) (hz : vs.length + ws.length ≤ sizeLine) (h : Frz (IsTupl (vs ++ ws)) g N post) : Sp w n (binaryOp .Add (.ref a) (.ref b)) g N post :=
  fun A s Q hA hs K => by
    obtain ⟨_, ho, rfl⟩ := ha.at hs
    obtain ⟨_, ho2, rfl⟩ := hb.at hs
    have e : vs.toArray ++ ws.toArray = (vs ++ ws).toArray := by simp
    by_cases hv : vs = []
    · subst hv
      exact concat_meets ⟨_, ho, rfl⟩ ⟨_, ho2, rfl⟩ noFill_tuple_add seq_tuple_add PySem.F.slot_tuple_add PySem.F.entry_tuple_add (PySem.F.args_tuple_add_2 _ _)
        (tuple_addW0 a b _ ws.toArray 0 0 none none #[] #[] (by simp)) ⟨ho, ho2, K _ g N s.heap s.toks (Le.refl g) hs (h g b (Le.refl g) hb)⟩
    · by_cases hw : ws = []
      · subst hw
        exact concat_meets ⟨_, ho, rfl⟩ ⟨_, ho2, rfl⟩ noFill_tuple_add seq_tuple_add PySem.F.slot_tuple_add PySem.F.entry_tuple_add (PySem.F.args_tuple_add_2 _ _)
          (tuple_addW1 a b vs.toArray _ 0 0 none none #[] #[] (by simpa using hv) (by simp)) ⟨ho, ho2, K _ g N s.heap s.toks (Le.refl g) hs (h g a (Le.refl g) (by simpa using ha))⟩
      · refine concat_meets ⟨_, ho, rfl⟩ ⟨_, ho2, rfl⟩ noFill_tuple_add seq_tuple_add PySem.F.slot_tuple_add PySem.F.entry_tuple_add (PySem.F.args_tuple_add_2 _ _)
          (tuple_addW2 a b vs.toArray ws.toArray 0 0 none none #[] #[] (by simpa using hv) (by simpa using hw) (by rw [List.size_toArray, List.size_toArray]; exact hz)) ⟨ho, ho2, ?_⟩
        rw [e]
        exact h.use (s := s) (Q := Q) (o := { cls := .type "tuple", data := .seq (vs ++ ws).toArray }) (tk := s.toks) rfl hs K
theorem noFill_tuple_mul : fillsNumberSlot (.type "tuple") "mul" = pure false :=
  PySem.fillsNumberSlot_seq (id := "tuple.__mul__") (r := some (.builtin "tuple.__rmul__")) F.slot_tuple_mul.lookup (by decide +kernel) F.slot_tuple_rmul.lookup (by decide +kernel)
theorem repeat_tuple : seqRepeat? (.type "tuple") = pure (some (.builtin "tuple.__mul__")) := by
  unfold seqRepeat?
  rw [PySem.seqSlot_of (T := "tuple") (name := "__mul__") (id := "tuple.__mul__") F.slot_tuple_mul.lookup (by decide +kernel), PySem.seqSlot_of (T := "tuple") (name := "__rmul__") (id := "tuple.__rmul__") F.slot_tuple_rmul.lookup (by decide +kernel)]
  rfl
theorem rmul_tuple (a : Int) (t : Tok) (l : Addr) (items : Array Value) (n : Nat) :
    Meets (Builtin.«int.__rmul__» ⟨[.int a t, .ref l], []⟩) (fun _ R s => s.heap.get? l = some { cls := .type "tuple", dict := none, data := .seq items n, slots := #[] } ∧ R (.ok (.ret Value.notImplemented)) s) :=
  .of_wp fun prog w A R s h => by obtain ⟨hp, g, d, tk, os⟩ := s; obtain ⟨hl, h⟩ := h; wp_walk; exact ⟨_, rfl, h⟩
theorem mul_tuple0 (l : Addr) (v : Value) (n : Nat) (u : Tok) :
    Meets (Builtin.«tuple.__mul__» ⟨[.ref l, .int 0 u], []⟩) (fun _ R s => s.heap.get? l = some { cls := .type "tuple", dict := none, data := .seq #[v] n, slots := #[] } ∧ R (.ok (.ret (Value.ref s.heap.objs.size))) { s with heap := s.heap.push { cls := Value.type "tuple", data := Data.seq #[] }, toks := s.toks }) :=
  .of_wp fun prog w A R s h => by
    obtain ⟨hp, g, d, tk, os⟩ := s; obtain ⟨hl, h⟩ := h
    have f1 := AutoSeq1.idx_int
    have hc1 : (#[v] : Array Value).isEmpty = false := rfl
    wp_walk using wpAny_loadPart' hl; exact ⟨_, rfl, h⟩
theorem mul_tuple1 (l : Addr) (v : Value) (n : Nat) (u : Tok) :
    Meets (Builtin.«tuple.__mul__» ⟨[.ref l, .int 1 u], []⟩) (fun _ R s => s.heap.get? l = some { cls := .type "tuple", dict := none, data := .seq #[v] n, slots := #[] } ∧ R (.ok (.ret (Value.ref l))) { s with heap := s.heap, toks := s.toks }) :=
  .of_wp fun prog w A R s h => by
    obtain ⟨hp, g, d, tk, os⟩ := s; obtain ⟨hl, h⟩ := h
    have f1 := AutoSeq1.idx_int
    have hc1 : (#[v] : Array Value).isEmpty = false := rfl
    wp_walk using wpAny_loadPart' hl; exact ⟨_, rfl, h⟩
theorem rep_foldl (v : Value) (m : Nat) (acc : Array Value) : List.foldl (fun x1 x2 => x1 ++ x2) acc (List.replicate m #[v]) = acc ++ (List.replicate m v).toArray := by
  induction m generalizing acc with
  | zero => simp
  | succ m ih => rw [List.replicate_succ, List.foldl_cons, ih, List.replicate_succ]; apply Array.ext'; simp
theorem mul_tupleN (l : Addr) (v : Value) (n : Nat) (x : Int) (u : Tok) (h2 : 2 ≤ x) (h3 : x ≤ 5) :
    Meets (Builtin.«tuple.__mul__» ⟨[.ref l, .int x u], []⟩) (fun _ R s => s.heap.get? l = some { cls := .type "tuple", dict := none, data := .seq #[v] n, slots := #[] } ∧ R (.ok (.ret (Value.ref s.heap.objs.size))) { s with heap := s.heap.push { cls := Value.type "tuple", data := Data.seq (List.replicate x.toNat v).toArray }, toks := s.toks }) :=
  .of_wp fun prog w A R s h => by
    obtain ⟨hp, g, d, tk, os⟩ := s; obtain ⟨hl, h⟩ := h
    have f1 := AutoSeq1.idx_int
    have hc1 : (#[v] : Array Value).isEmpty = false := rfl
    have e : List.foldl (fun x1 x2 => x1 ++ x2) #[] (List.replicate x.toNat #[v]) = (List.replicate x.toNat v).toArray := by rw [rep_foldl]; simp
    have hs : (List.replicate x.toNat v).toArray.size ≤ sizeLine := by rw [List.size_toArray, List.length_replicate, sizeLine_eq]; omega
    wp_walk using wpAny_loadPart' hl
    refine wpAny_ite_false (by simp; omega) ?_
    wp_walk using wpAny_loadPart' hl
    refine wpAny_ite_false (by simp; omega) ?_
    wp_walk using wpAny_loadPart' hl
    refine wpAny_ite_false (by simp; omega) ?_
    wp_walk using wpAny_loadPart' hl
    refine wpAny_ite_false (by simp; omega) ?_
    wp_walk using wpAny_loadPart' hl
    refine wpAny_ite_false (by simp [Builtin.Tuple.tupleTooMany, sizeLine]; omega) ?_
    rw [e]
    wp_walk using wpAny_loadPart' hl
    refine wpAny_ite_false (decide_eq_false (Nat.not_lt.mpr hs)) ?_
    wp_walk
    exact ⟨_, rfl, h⟩
/-- (v,) * k -/
theorem sp_mulT {l : Addr} {v : Value} {x : Int} {u : Tok} {post : Value → Heap → Led → Prop} (hl : AtG g l (IsTupl [v])) (h0 : 0 ≤ x) (h5 : x ≤ 5) (h : Frz (IsTupl (List.replicate x.toNat v)) g N post) : Sp w n (binaryOp .Mult (.ref l) (.int x u)) g N post :=
  fun A s Q hA hs K => by
    obtain ⟨_, ho, rfl⟩ := hl.at hs
    refine wpAny_binaryOp_repeat_ref (T := "tuple") (U := "int") (by decide) ⟨_, ho, rfl⟩ (fun s' => typeIs_int s' x u) noFill_tuple_mul F.fills_int_mul F.slot_int_rmul repeat_tuple F.slot_int_index.lookup
      (call_meets F.slot_int_rmul (typeIs_int s x u) F.entry_int_rmul (F.args_int_rmul_2 _ _) (rmul_tuple x u l [v].toArray 0) ⟨ho, rfl, ⟨_, ho, rfl⟩, ?_⟩)
    have hx : x = 0 ∨ x = 1 ∨ 2 ≤ x := by omega
    rcases hx with rfl | rfl | h2
    · refine call_meets F.slot_tuple_mul ⟨_, ho, rfl⟩ F.entry_tuple_mul (F.args_tuple_mul_2 _ _) (mul_tuple0 l v 0 u) ⟨ho, ?_⟩
      exact h.use (s := s) (Q := Q) (o := { cls := .type "tuple", data := .seq #[] }) (tk := s.toks) rfl hs K
    · refine call_meets F.slot_tuple_mul ⟨_, ho, rfl⟩ F.entry_tuple_mul (F.args_tuple_mul_2 _ _) (mul_tuple1 l v 0 u) ⟨ho, ?_⟩
      exact K _ g N s.heap s.toks (Le.refl g) hs (h g l (Le.refl g) hl)
    · refine call_meets F.slot_tuple_mul ⟨_, ho, rfl⟩ F.entry_tuple_mul (F.args_tuple_mul_2 _ _) (mul_tupleN l v 0 x u h2 h5) ⟨ho, ?_⟩
      exact h.use (s := s) (Q := Q) (o := { cls := .type "tuple", data := .seq (List.replicate x.toNat v).toArray }) (tk := s.toks) rfl hs K
theorem sp_lenT {l : Addr} {vs : List Value} {post : Value → Heap → Led → Prop} (hl : AtG g l (IsTupl vs)) (hz : vs.length < 2 ^ 60) (h : ∀ tk, post (.int vs.length tk) g N) : Sp w n (call (.builtin "len") [.ref l]) g N post :=
  fun A s Q hA hs K => PyProof.Rows.len_tuple (IsTupl.isTup (hl.at hs)) (by rw [List.size_toArray]; omega) (by rw [List.size_toArray]; exact K _ g N s.heap _ (Le.refl g) hs (h _))
theorem sp_tupleL {l : Addr} {vs : List Value} {post : Value → Heap → Led → Prop} (hl : Has g N l (IsLst vs)) (hz : vs.length ≤ sizeLine) (h : Frz (IsTupl vs) g N post) : Sp w n (call (.type "tuple") [.ref l]) g N post :=
  fun A s Q hA hs K => PySem.call_tuple_list (IsLst.isList (hl.at hs)) (fun h' hk => h.use (s := s) (Q := Q) (o := { cls := .type "tuple", data := .seq vs.toArray }) (tk := s.toks) rfl (hs.grown hk) K) (by rw [List.size_toArray]; exact hz)
/-- comparing with () -/
theorem sp_eqT0 {a b : Addr} {vs : List Value} {post : Value → Heap → Led → Prop} (ha : AtG g a (IsTupl vs)) (hb : AtG g b (IsTupl [])) (h : post (.bool (decide (vs = []))) g N) : Sp w n (compareOp .Eq (.ref a) (.ref b)) g N post :=
  fun A s Q hA hs K => by
    refine PySem.SeqAt.eq_tupleAt (e := fun _ => true) (IsTupl.isTuple (ha.at hs)) (IsTupl.isTuple (hb.at hs)) hA.units (fun j h1 h2 => absurd h2 (by simp)) ?_
    have e : ((List.range (min vs.toArray.size ([] : List Value).toArray.size)).all (fun _ => true) && vs.toArray.size == ([] : List Value).toArray.size) = decide (vs = []) := by
      cases vs <;> simp
    rw [e]
    exact K _ g N s.heap s.toks (Le.refl g) hs h
-- lists
theorem IsLst.get {h : Heap} {l : Addr} {vs : List Value} (x : ∃ o, h.get? l = some o ∧ IsLst vs o) : ∃ k, h.get? l = some { cls := .type "list", data := .seq vs.toArray k } := by
  obtain ⟨_, e, k, rfl⟩ := x
  exact ⟨k, e⟩
theorem sp_listT {l : Addr} {vs : List Value} {post : Value → Heap → Led → Prop} (hl : AtG g l (IsTupl vs)) (hz : vs.length ≤ sizeLine) (h : ∀ d, post (.ref d) g ((d, IsLst vs) :: N)) : Sp w n (call (.type "list") [.ref l]) g N post :=
  fun A s Q hA hs K => by
    obtain ⟨_, ho, rfl⟩ := hl.at hs
    refine PySem.call_list_seq (hsz := by rw [List.size_toArray]; exact hz) l (.inr rfl) ho rfl rfl fun h' c' hk hD => K _ g ([(_, IsLst vs)] ++ N) h' s.toks (Le.refl g) (hs.ext hk (fun p hp => ?_) (by simp) (fun p hp => ?_)) (h _)
    · rw [List.mem_singleton.mp hp]; exact ⟨_, hD, c', rfl⟩
    · rw [List.mem_singleton.mp hp]; exact Nat.le_refl _
theorem sp_addL {a b : Addr} {vs ws : List Value} {post : Value → Heap → Led → Prop} (ha : Has g N a (IsLst vs)) (hb : Has g N b (IsLst ws)) (hz : vs.length + ws.length ≤ sizeLine) (h : ∀ d, post (.ref d) g ((d, IsLst (vs ++ ws)) :: N)) : Sp w n (binaryOp .Add (.ref a) (.ref b)) g N post :=
  fun A s Q hA hs K => by
    obtain ⟨k1, e1⟩ := IsLst.get (ha.at hs)
    obtain ⟨k2, e2⟩ := IsLst.get (hb.at hs)
    exact PySem.P.add_list e1 e2 (K _ g _ _ s.toks (Le.refl g) (hs.push (P := IsLst (vs ++ ws)) (o := { cls := .type "list", data := .seq (vs.toArray ++ ws.toArray) }) ⟨0, by simp⟩) (h _)) (by simpa using hz)
theorem sp_mulL {a : Addr} {v : Value} {x : Int} {u : Tok} {post : Value → Heap → Led → Prop} (ha : Has g N a (IsLst [v])) (h0 : -(2 ^ 60) ≤ x) (h5 : x ≤ 10000) (h : ∀ d, post (.ref d) g ((d, IsLst (List.replicate x.toNat v)) :: N)) : Sp w n (binaryOp .Mult (.ref a) (.int x u)) g N post :=
  fun A s Q hA hs K => by
    obtain ⟨k, hl⟩ := IsLst.get (ha.at hs)
    have e : (List.foldl (fun x1 x2 => x1 ++ x2) #[] (List.replicate x.toNat [v].toArray)) = (List.replicate x.toNat v).toArray := (rep_foldl v x.toNat #[]).trans (by simp)
    exact wpAny_binaryOp_repeat_ref (T := "list") (U := "int") (by decide) ⟨_, hl, rfl⟩ (fun s' => typeIs_int s' x u) noFill_list_mul F.fills_int_mul F.slot_int_rmul repeat_list F.slot_int_index.lookup
      (call_meets F.slot_int_rmul (typeIs_int s x u) F.entry_int_rmul (F.args_int_rmul_2 _ _) (int___rmul___int_list x u a _ k)
        ⟨hl, rfl, ⟨_, hl, rfl⟩, call_meets F.slot_list_mul ⟨_, hl, rfl⟩ F.entry_list_mul (F.args_list_mul_2 _ _)
          (AutoListH.list___mul___list_int_3 a _ k x u (by simp [Builtin.List.listFitsIndex]; omega) (by simp; omega) (by simp [Builtin.List.listTooLong, sizeLine]; omega))
          ⟨hl, K _ g _ _ s.toks (Le.refl g) (hs.push (P := IsLst (List.replicate x.toNat v)) ⟨0, by rw [if_neg (by simp), e]⟩) (h _)⟩⟩)
theorem sp_pop {l : Addr} {vs : List Value} {v : Value} {N' : Led} {p : Pos} {post : Value → Heap → Led → Prop} (hl : Chg l (IsLst (vs ++ [v])) (IsLst vs) N N') (hz : vs.length < 10000) (h : post v g N') : Sp w n (callWith p (.builtin "list.pop") [.ref l] (backTo p (starEach [] env)) []) g N post :=
  fun A s Q hA hs K => by
    obtain ⟨k, ho⟩ := IsLst.get (hs.nw _ hl.mem)
    have e : Array.eraseIdxIfInBounds (vs ++ [v]).toArray ((vs ++ [v]).toArray.size - 1) = vs.toArray := by
      apply Array.ext'
      simp [Array.eraseIdxIfInBounds]
      rw [List.eraseIdx_append_of_length_le (Nat.le_refl _)]
      simp
    obtain ⟨k', ho'⟩ : ∃ k', (s.heap.update l (Obj.mapSeq fun xs => xs.eraseIdxIfInBounds ((vs ++ [v]).toArray.size - 1))).get? l = some { cls := .type "list", data := .seq vs.toArray k' } := by
      rw [Heap.get?_update_self _ ho rfl]
      exact ⟨_, congrArg (fun z => some ({ cls := .type "list", data := .seq z _ } : Obj)) e⟩
    exact PySem.P.pop_list (items := (vs ++ [v]).toArray) (n := k) (y := v) ho (by simp) (K _ g N' _ s.toks (Le.refl g) (hs.chg hl (Heap.SameBut.update ..) ⟨_, ho', _, rfl⟩) h) (by rw [List.size_toArray, List.length_append, sizeLine_eq]; simp; omega)
theorem sp_append {l : Addr} {vs : List Value} {v : Value} {N' : Led} {post : Value → Heap → Led → Prop} (hl : Chg l (IsLst vs) (IsLst (vs ++ [v])) N N') (hz : vs.length < 10000) (h : post .none g N') : Sp w n (call (.builtin "list.append") [.ref l, v]) g N post :=
  fun A s Q hA hs K => by
    obtain ⟨k, ho⟩ := IsLst.get (hs.nw _ hl.mem)
    exact PyProof.Rows.append_at ho (fun h' sb e => K _ g N' h' s.toks (Le.refl g) (hs.chg hl sb ⟨_, e, k + 1, by rw [List.push_toArray]⟩) h) (by rw [List.size_toArray, sizeLine_eq]; omega)
/-- l != [] -/
theorem sp_neNil {l b : Addr} {vs : List Value} {post : Value → Heap → Led → Prop} (hl : Has g N l (IsLst vs)) (hb : Has g N b (IsLst [])) (h : post (.bool (!decide (vs = []))) g N) : Sp w n (compareOp .NotEq (.ref l) (.ref b)) g N post :=
  fun A s Q hA hs K => by
    have k := K _ g N s.heap s.toks (Le.refl g) hs h
    by_cases hv : vs = []
    · subst hv
      refine PySem.SeqAt.RcNeAt.lists (e := fun _ => true) (IsLst.isList (hl.at hs)) (IsLst.isList (hb.at hs)) rfl hA.units (fun j h1 h2 => absurd h2 (by simp)) PR w _ _ ?_
      simpa using k
    · refine PySem.SeqAt.RcNeAt.lists_lengths (IsLst.isList (hl.at hs)) (IsLst.isList (hb.at hs)) (by simp [hv]) hA.units PR w _ _ ?_
      simpa [hv] using k
end

-- dicts
section
variable {w : World} {n : Nat} {g : Heap} {N : Led} {env : Env}
noncomputable def Dic (w : World) (kvs : List (Str × Value)) : AP := fun o => Obj.IsDictOf (PySem.strKind PR w) o kvs
noncomputable def DicI (w : World) (kvs : List (Int × Value)) : AP := fun o => Obj.IsDictOf (PySem.intKind PR w) o kvs
theorem dic_of {K : Type} [DecidableEq K] {knd : PySem.KeyKind PR w K} {h : Heap} {d : Addr} {kvs : List (K × Value)} (x : ∃ o, h.get? d = some o ∧ Obj.IsDictOf knd o kvs) : h.DictOf knd d kvs := Heap.dictOf_iff.mpr x
theorem not_mods {h : Heap} (hs : H w g N h) : 285 < h.objs.size := by
  have e := hs.keep _ _ (hs.good.k 285 _ (by k_is))
  exact Heap.lt_size e
theorem new_mods {h : Heap} (hs : H w g N h) : (h.objs.size == sysModules) = false := by
  have := not_mods hs
  rw [beq_eq_false_iff_ne]
  show h.objs.size ≠ 1
  omega
theorem sp_pairs0 {p : Pos} {post : List (Value × Value) → Heap → Led → Prop} (h : post [] g N) : Sp w n (evalPairs (pairTrees [] [] env p)) g N post :=
  fun A s Q hA hs k => PySem.pairTrees_nil_walk (k _ g N s.heap s.toks (Le.refl g) hs h)
noncomputable abbrev sp_pairs_k1 (post : List (Value × Value) → Heap → Led → Prop) (a) (b) := fun r (g : Heap) (N : Led) => post ((a, b) :: r) g N
noncomputable abbrev sp_pairs_k2 (w : World) (n : Nat) (ks : List (Option Expr)) (vs : List Expr) (env : Env) (p : Pos) (post : List (Value × Value) → Heap → Led → Prop) (a) := fun b (g : Heap) (N : Led) => Sp w n (evalPairs (pairTrees ks vs env p)) g N (sp_pairs_k1 post a b)
noncomputable abbrev sp_pairs_k3 (w : World) (n : Nat) (v : Expr) (env : Env) (ks : List (Option Expr)) (vs : List Expr) (p : Pos) (post : List (Value × Value) → Heap → Led → Prop) := fun a (g : Heap) (N : Led) => Sp w n (eval v env) g N (sp_pairs_k2 w n ks vs env p post a)
theorem sp_pairs {kx v : Expr} {ks : List (Option Expr)} {vs : List Expr} {p : Pos} {post : List (Value × Value) → Heap → Led → Prop}
    (h : Sp w n (eval kx env) g N (sp_pairs_k3 w n v env ks vs p post)) : Sp w n (evalPairs (pairTrees (some kx :: ks) (v :: vs) env p)) g N post :=
  fun A s Q hA hs k => PySem.pairTrees_cons_walk (h A s _ hA hs fun a g1 N1 h1 tk1 l1 hs1 p1 => p1 A _ _ hA hs1 fun b g2 N2 h2 tk2 l2 hs2 p2 => p2 A _ _ hA hs2 fun c g3 N3 h3 tk3 l3 hs3 p3 => k _ g3 N3 h3 tk3 (l1.trans (l2.trans l3)) hs3 p3)
/-- the display of a dict whose keys are texts -/
theorem sp_dict {keys : List (Option Expr)} {values : List Expr} {pos : Pos} {post : Value → Heap → Led → Prop} (hall : keys.all (·.isSome) = true) (hl : keys.length = values.length) (h0 : keys ≠ []) (hlen : keys.length ≤ 15)
    (h : ∀ d, (d == sysModules) = false → Sp w n (evalPairs (pairTrees keys values env pos)) g ((d, Dic w []) :: N) (fun vs g' N' => ∃ kvs N'', Carries (PySem.strKind PR w) vs kvs ∧ Chg d (Dic w []) (Dic w (PySem.merged [] kvs)) N' N'' ∧ post (.ref d) g' N'')) : Sp w n (eval (.Dict keys values pos) env) g N post :=
  fun A s Q hA hs k => by
    have z : H w g ((s.heap.objs.size, Dic w []) :: N) (s.heap.push { cls := .type "dict", data := .dict #[] }) := hs.push (P := Dic w []) (by
      obtain ⟨o, ho, hd⟩ := Heap.dictOf_iff.mp (Heap.DictOf.new (knd := PySem.strKind PR w) s.heap)
      rw [Heap.get?_push_size _ rfl] at ho
      exact (Option.some.inj ho) ▸ hd)
    refine PySem.wpAny_Dict_walk (knd := PySem.strKind PR w) hall hl h0 hlen (h _ (new_mods hs) A { s with heap := s.heap.push { cls := .type "dict", data := .dict #[] } } _ hA z fun vs g1 N1 h1 tk1 l1 hs1 ⟨kvs, N'', hc, hch, hp⟩ => ⟨kvs, hc, dic_of (hs1.nw _ hch.mem), fun h' hd sb => k _ g1 N'' h' _ l1 (hs1.chg hch sb (Heap.dictOf_iff.mp hd)) hp⟩)
theorem sp_dictI {keys : List (Option Expr)} {values : List Expr} {pos : Pos} {post : Value → Heap → Led → Prop} (hall : keys.all (·.isSome) = true) (hl : keys.length = values.length) (h0 : keys ≠ []) (hlen : keys.length ≤ 15)
    (h : ∀ d, (d == sysModules) = false → Sp w n (evalPairs (pairTrees keys values env pos)) g ((d, DicI w []) :: N) (fun vs g' N' => ∃ kvs N'', Carries (PySem.intKind PR w) vs kvs ∧ Chg d (DicI w []) (DicI w (PySem.merged [] kvs)) N' N'' ∧ post (.ref d) g' N'')) : Sp w n (eval (.Dict keys values pos) env) g N post :=
  fun A s Q hA hs k => by
    have z : H w g ((s.heap.objs.size, DicI w []) :: N) (s.heap.push { cls := .type "dict", data := .dict #[] }) := hs.push (P := DicI w []) (by
      obtain ⟨o, ho, hd⟩ := Heap.dictOf_iff.mp (Heap.DictOf.new (knd := PySem.intKind PR w) s.heap)
      rw [Heap.get?_push_size _ rfl] at ho
      exact (Option.some.inj ho) ▸ hd)
    refine PySem.wpAny_Dict_walk (knd := PySem.intKind PR w) hall hl h0 hlen (h _ (new_mods hs) A { s with heap := s.heap.push { cls := .type "dict", data := .dict #[] } } _ hA z fun vs g1 N1 h1 tk1 l1 hs1 ⟨kvs, N'', hc, hch, hp⟩ => ⟨kvs, hc, dic_of (hs1.nw _ hch.mem), fun h' hd sb => k _ g1 N'' h' _ l1 (hs1.chg hch sb (Heap.dictOf_iff.mp hd)) hp⟩)
theorem sp_dict0 {pos : Pos} {post : Value → Heap → Led → Prop} (h : ∀ d, (d == sysModules) = false → post (.ref d) g ((d, Dic w []) :: N)) : Sp w n (eval (.Dict [] [] pos) env) g N post :=
  fun A s Q hA hs k => by
    rw [eval_Dict_empty]
    refine wpAny_bind (wpAny_standAt ?_)
    unfold newDict
    refine wpAny_newObj_type ?_ (by size_fits)
    refine k _ g ((s.heap.objs.size, Dic w []) :: N) _ _ (Le.refl g) (hs.push (P := Dic w []) ?_) (h _ (new_mods hs))
    obtain ⟨o, ho, hd⟩ := Heap.dictOf_iff.mp (Heap.DictOf.new (knd := PySem.strKind PR w) s.heap)
    rw [Heap.get?_push_size _ rfl] at ho
    exact (Option.some.inj ho) ▸ hd
theorem isS (x : Str) (t : Tok) : (PySem.strKind PR w).is x (.str x t) = true := by show (x == x) = true; simp
theorem isI (x : Int) (t : Tok) : (PySem.intKind PR w).is x (.int x t) = true := by show Value.isInt x (.int x t) = true; simp [Value.isInt]
theorem sp_getD {value slice : Expr} {d : Addr} {kvs : List (Str × Value)} {x : Str} {t : Tok} {v : Value} {post : Value → Heap → Led → Prop} (hd : Has g N d (Dic w kvs)) (hv : valueAt kvs x = some v)
    (hs : subscripted slice false (.ref d) (.str x t) = operate [.ref d, .str x t] (getItem (.ref d) (.str x t))) (h : post v g N) : Sp w n (subscriptTail value slice (.ref d) (.str x t)) g N post :=
  fun A s Q hA hs' K => tail_any (dic_of (hd.at hs')).mapOf.typeIs F.slot_dict_getitem.lookup (wpAny_getItem_of (isS x t) (dic_of (hd.at hs')).mapOf hv (K v g N s.heap _ (Le.refl g) hs' h)) hs
theorem sp_getDI {value slice : Expr} {d : Addr} {kvs : List (Int × Value)} {x : Int} {t : Tok} {v : Value} {post : Value → Heap → Led → Prop} (hd : Has g N d (DicI w kvs)) (hv : valueAt kvs x = some v)
    (hs : subscripted slice false (.ref d) (.int x t) = operate [.ref d, .int x t] (getItem (.ref d) (.int x t))) (h : post v g N) : Sp w n (subscriptTail value slice (.ref d) (.int x t)) g N post :=
  fun A s Q hA hs' K => tail_any (dic_of (hd.at hs')).mapOf.typeIs F.slot_dict_getitem.lookup (wpAny_getItem_of (isI x t) (dic_of (hd.at hs')).mapOf hv (K v g N s.heap _ (Le.refl g) hs' h)) hs
theorem sp_setD {d : Addr} {kvs : List (Str × Value)} {x : Str} {t : Tok} {v : Value} {N' : Led} {post : Unit → Heap → Led → Prop} (hd : Chg d (Dic w kvs) (Dic w (stored kvs x v)) N N') (hz : kvs.length ≤ 1000) (h : post () g N') : Sp w n (setItem (.ref d) (.str x t) v) g N post :=
  fun A s Q hA hs K => wpAny_setItem_pairs (isS x t) (dic_of (hs.nw _ hd.mem)) (fun h' hd' sb => K () g N' h' _ (Le.refl g) (hs.chg hd sb (Heap.dictOf_iff.mp hd')) h) (by rw [sizeLine_eq]; omega)
theorem sp_inD {d : Addr} {kvs : List (Str × Value)} {x : Str} {t : Tok} {post : Value → Heap → Led → Prop} (hm : (d == sysModules) = false) (hd : Has g N d (Dic w kvs)) (h : post (.bool (valueAt kvs x).isSome) g N) : Sp w n (compareOp .In (.str x t) (.ref d)) g N post :=
  fun A s Q hA hs K => wpAny_in_of (isS x t) hm (dic_of (hd.at hs)).mapOf (K _ g N s.heap _ (Le.refl g) hs h)
theorem sp_get2 {d : Addr} {kvs : List (Str × Value)} {x : Str} {t : Tok} {v : Value} {post : Value → Heap → Led → Prop} (hm : (d == sysModules) = false) (hd : Has g N d (Dic w kvs)) (h : post ((valueAt kvs x).getD v) g N) : Sp w n (call (.builtin "dict.get") [.ref d, .str x t, v]) g N post :=
  fun A s Q hA hs K => call_meetsIn F.slot_dict_get (dic_of (hd.at hs)).mapOf.typeIs F.entry_dict_get (F.args_dict_get_3 _ _ _) (meets_dict_get_default _ d (isS x t) hm v) ⟨_, (dic_of (hd.at hs)).mapOf, K _ g N s.heap _ (Le.refl g) hs h⟩
theorem sp_update {d b : Addr} {kvs more : List (Str × Value)} {N' : Led} {post : Value → Heap → Led → Prop} (hm : (b == sysModules) = false) (hne : d ≠ b) (hd : Chg d (Dic w kvs) (Dic w (PySem.merged kvs more)) N N') (hb : Has g N b (Dic w more)) (hz : kvs.length + more.length ≤ 1000) (h : post .none g N') : Sp w n (call (.builtin "dict.update") [.ref d, .ref b]) g N post :=
  fun A s Q hA hs K => call_meetsIn F.slot_dict_update (dic_of (hs.nw _ hd.mem)).mapOf.typeIs F.entry_dict_update (F.args_dict_update_2 _ _) (meets_dict_update (PySem.strKind PR w) d b hne hm)
    ⟨kvs, more, dic_of (hs.nw _ hd.mem), dic_of (hb.at hs), by rw [sizeLine_eq]; omega, fun h' hd' _ sb => K _ g N' h' _ (Le.refl g) (hs.chg hd sb (Heap.dictOf_iff.mp hd')) h⟩
-- methods of lists, dicts and texts
theorem noDictAt {h : Heap} {l : Addr} {vs : List Value} (x : ∃ o, h.get? l = some o ∧ IsLst vs o) : h.NoDictAt (.ref l) := by
  obtain ⟨k, e⟩ := IsLst.get x
  exact ⟨_, e, rfl⟩
theorem sp_mList {l : Addr} {vs : List Value} {name : Str} {id : String} {pl : Sem Bool} {post : Value × List Value → Heap → Led → Prop} (hslot : Slot "list" name id) (hty : typeOf (.builtin id) = pure (.type "method_descriptor")) (hl : Has g N l (IsLst vs)) (h : post (.builtin id, [.ref l]) g N) : Sp w n (getMethod (.ref l) name pl) g N post :=
  fun A s Q hA hs K => getMethod_list_of hslot hty (IsLst.isList (hl.at hs)) (noDictAt (hl.at hs)) (K _ g N s.heap s.toks (Le.refl g) hs h)
theorem sp_mAppend {l : Addr} {vs : List Value} {pl : Sem Bool} {post : Value × List Value → Heap → Led → Prop} (hl : Has g N l (IsLst vs)) (h : post (.builtin "list.append", [.ref l]) g N) : Sp w n (getMethod (.ref l) "append" pl) g N post := sp_mList F.slot_list_append (by rfl) hl h
theorem sp_mPop {l : Addr} {vs : List Value} {pl : Sem Bool} {post : Value × List Value → Heap → Led → Prop} (hl : Has g N l (IsLst vs)) (h : post (.builtin "list.pop", [.ref l]) g N) : Sp w n (getMethod (.ref l) "pop" pl) g N post := sp_mList F.slot_list_pop (by rfl) hl h
theorem sp_mExtend {l : Addr} {vs : List Value} {pl : Sem Bool} {post : Value × List Value → Heap → Led → Prop} (hl : Has g N l (IsLst vs)) (h : post (.builtin "list.extend", [.ref l]) g N) : Sp w n (getMethod (.ref l) "extend" pl) g N post := sp_mList F.slot_list_extend (by rfl) hl h
theorem sp_mDict {d : Addr} {kvs : List (Str × Value)} {name : Str} {id : String} {pl : Sem Bool} {post : Value × List Value → Heap → Led → Prop} (hslot : Slot "dict" name id) (hty : typeOf (.builtin id) = pure (.type "method_descriptor")) (hl : Has g N d (Dic w kvs)) (h : post (.builtin id, [.ref d]) g N) : Sp w n (getMethod (.ref d) name pl) g N post :=
  fun A s Q hA hs K => by
    obtain ⟨o, e, hd⟩ := hl.at hs
    exact PySem.W.kdl_method (h₀ := ⟨#[], s.heap.life⟩) (L := d + 1) (news := [(d, o)]) hslot hty (fun p hp => by rw [List.mem_singleton.mp hp]; exact ⟨e, Nat.ne_of_lt (Nat.lt_succ_self d), by rfl⟩) (List.mem_singleton.mpr rfl) hd (K _ g N s.heap s.toks (Le.refl g) hs h)
theorem sp_mGet {d : Addr} {kvs : List (Str × Value)} {pl : Sem Bool} {post : Value × List Value → Heap → Led → Prop} (hl : Has g N d (Dic w kvs)) (h : post (.builtin "dict.get", [.ref d]) g N) : Sp w n (getMethod (.ref d) "get" pl) g N post := sp_mDict F.slot_dict_get (by rfl) hl h
theorem sp_mUpdate {d : Addr} {kvs : List (Str × Value)} {pl : Sem Bool} {post : Value × List Value → Heap → Led → Prop} (hl : Has g N d (Dic w kvs)) (h : post (.builtin "dict.update", [.ref d]) g N) : Sp w n (getMethod (.ref d) "update" pl) g N post := sp_mDict F.slot_dict_update (by rfl) hl h
set_option maxRecDepth 100000 in
theorem sp_mStr {x : Str} {t : Tok} {pl : Sem Bool} {post : Value × List Value → Heap → Led → Prop} (h : post (.builtin "str.join", [.str x t]) g N) : Sp w n (getMethod (.str x t) "join" pl) g N post :=
  fun A s Q hA hs K => PySem.GM.join (K _ g N s.heap s.toks (Le.refl g) hs h)
theorem sp_join {x : Str} {t : Tok} {l : Addr} {vs : List Value} {ys : List Str} {post : Value → Heap → Led → Prop} (hl : Has g N l (IsLst vs)) (hy : StrsAre vs ys) (hx : x.length ≤ 64) (hz : (ys.map (·.length)).sum + ys.length * 64 ≤ 16777216) (h : ∀ tk, post (.str (Txt.join x ys) tk) g N) : Sp w n (call (.builtin "str.join") [.str x t, .ref l]) g N post :=
  fun A s Q hA hs K => join_listC (IsLst.isList (hl.at hs)) (by simpa using hy) hx hz fun t' k => K _ g N s.heap k (Le.refl g) hs (h t')
end

-- f-strings, isinstance, comparing cells, dicts whose keys are tuples
section
variable {w : World} {n : Nat} {g : Heap} {N : Led} {env : Env}
theorem sp_jstr {v₁ v₂ : Expr} {rest : List Expr} {p : Pos} {post : Value → Heap → Led → Prop} (h : Sp w n (joinParts Str.empty (evalEach (v₁ :: v₂ :: rest) env)) g N post) : Sp w n (eval (.JoinedStr (v₁ :: v₂ :: rest) p) env) g N post :=
  fun A s Q hA hs k => JoinedStr_many (h A s Q hA hs k)
theorem sp_jstr1 {v : Expr} {p : Pos} {post : Value → Heap → Led → Prop} (h : Sp w n (eval v env) g N post) : Sp w n (eval (.JoinedStr [v] p) env) g N post :=
  fun A s Q hA hs k => JoinedStr_one (h A s Q hA hs k)
noncomputable abbrev sp_part_k1 (out : Str) (w : World) (n : Nat) (es : List Expr) (env : Env) (post : Value → Heap → Led → Prop) := fun (v : Value) (g : Heap) (N : Led) => ∃ y t, v = .str y t ∧ (out ++ y).length ≤ sizeLine ∧ Sp w n (joinParts (out ++ y) (evalEach es env)) g N post
theorem sp_part {out : Str} {e : Expr} {es : List Expr} {post : Value → Heap → Led → Prop} (h : Sp w n (eval e env) g N (sp_part_k1 out w n es env post)) : Sp w n (joinParts out (evalEach (e :: es) env)) g N post :=
  fun A s Q hA hs k => joinParts_consE (joinParts_cons (h A s _ hA hs fun v g1 N1 h1 tk1 l1 hs1 ⟨y, t, e, hz, p1⟩ => by
    subst e
    exact ⟨hz, p1 A _ Q hA hs1 fun b g2 N2 h2 tk2 l2 hs2 p2 => k _ g2 N2 h2 tk2 (l1.trans l2) hs2 p2⟩))
theorem sp_partEnd {out : Str} {post : Value → Heap → Led → Prop} (hz : out.length ≤ sizeLine) (h : ∀ tk, post (.str out tk) g N) : Sp w n (joinParts out (evalEach [] env)) g N post :=
  fun A s Q hA hs k => joinParts_nilE (joinParts_nil (k _ g N s.heap _ (Le.refl g) hs (h _)) hz)
noncomputable abbrev sp_fmt_k1 (w : World) (n : Nat) (post : Value → Heap → Led → Prop) := fun v (g : Heap) (N : Led) => Sp w n (formatField v Str.empty) g N post
theorem sp_fmt {e : Expr} {p : Pos} {post : Value → Heap → Led → Prop} (h : Sp w n (eval e env) g N (sp_fmt_k1 w n post)) : Sp w n (eval (.FormattedValue e (-1) none p) env) g N post :=
  fun A s Q hA hs k => FormattedValue_plain (h A s _ hA hs fun v g1 N1 h1 tk1 l1 hs1 p1 => p1 A _ Q hA hs1 fun b g2 N2 h2 tk2 l2 hs2 p2 => k _ g2 N2 h2 tk2 (l1.trans l2) hs2 p2)
noncomputable abbrev sp_fmtSpec_k1 (w : World) (n : Nat) (v) (post : Value → Heap → Led → Prop) := fun (r : Value) (g : Heap) (N : Led) => ∃ x t, r = .str x t ∧ Sp w n (formatField v x) g N post
noncomputable abbrev sp_fmtSpec_k2 (w : World) (n : Nat) (sp : Expr) (env : Env) (post : Value → Heap → Led → Prop) := fun v (g : Heap) (N : Led) => Sp w n (eval sp env) g N (sp_fmtSpec_k1 w n v post)
theorem sp_fmtSpec {e sp : Expr} {p : Pos} {post : Value → Heap → Led → Prop} (h : Sp w n (eval e env) g N (sp_fmtSpec_k2 w n sp env post)) : Sp w n (eval (.FormattedValue e (-1) (some sp) p) env) g N post :=
  fun A s Q hA hs k => PySem.wpAny_FormattedValue_spec (h A s _ hA hs fun v g1 N1 h1 tk1 l1 hs1 p1 => p1 A _ _ hA hs1 fun r g2 N2 h2 tk2 l2 hs2 ⟨x, t, e, p2⟩ => ⟨x, t, e, p2 A _ Q hA hs2 fun b g3 N3 h3 tk3 l3 hs3 p3 => k _ g3 N3 h3 tk3 (l1.trans (l2.trans l3)) hs3 p3⟩)
theorem sp_fieldI {i : Int} {t : Tok} {post : Value → Heap → Led → Prop} (hz : i.natAbs < 2 ^ 62) (h : ∀ tk, post (.str (Str.ofString (toString i)) tk) g N) : Sp w n (formatField (.int i t) Str.empty) g N post :=
  fun A s Q hA hs k => formatField_int_small (by
    rcases Nat.eq_zero_or_pos i.natAbs with e | e
    · rw [e]; decide
    · exact Nat.lt_trans ((Nat.log2_lt (by omega)).mpr hz) (by decide)) (k _ g N s.heap _ (Le.refl g) hs (h _))
theorem sp_fieldS {x : Str} {t : Tok} {post : Value → Heap → Led → Prop} (hz : x.length ≤ sizeLine) (h : ∀ tk, post (.str x tk) g N) : Sp w n (formatField (.str x t) Str.empty) g N post :=
  fun A s Q hA hs k => formatField_str (fun t' tk => k _ g N s.heap tk (Le.refl g) hs (h t')) hz
noncomputable def two (a : Int) : Str := (if a < 10 then Str.ofString " " else Str.empty) ++ Str.ofString (toString a)
set_option maxRecDepth 100000 in
theorem two_fin : ∀ a : Fin 100, intSpecTextOf (Str.ofString "2") (a.1 : Int) = two (a.1 : Int) := by decide +kernel
theorem sp_field2 {a : Int} {t : Tok} {post : Value → Heap → Led → Prop} (h0 : 0 ≤ a) (h1 : a < 100) (h : ∀ tk, post (.str (two a) tk) g N) : Sp w n (formatField (.int a t) (Str.ofString "2")) g N post :=
  fun A s Q hA hs k => by
    obtain ⟨_, _, _, _, _, T⟩ := (hs.good.le hs.keep).top
    refine formatField_int_specOf T.nodigits (Nat.lt_of_lt_of_le (show a.natAbs < 100 by omega) (Nat.le_of_lt (by decide +kernel))) (by decide +kernel) (fun W _ _ => ?_) (by rw [sizeLine_eq]; decide)
    have := two_fin ⟨a.toNat, by omega⟩
    rw [show ((⟨a.toNat, by omega⟩ : Fin 100).1 : Int) = a by show (a.toNat : Int) = a; omega] at this
    rw [this]
    exact k _ g N s.heap _ (Le.refl g) hs (h _)
-- isinstance
theorem sp_isiYes {x C dx : Addr} {P : AP} {post : Value → Heap → Led → Prop} (hx : Has g N x (IsInst C dx)) (hdx : Has g N dx P) (hi : isIn (hd0.heap_1 w.params) (.ref C) C = true) (h : post (.bool true) g N) : Sp w n (call (.builtin "isinstance") [.ref x, .ref C]) g N post :=
  fun A s Q hA hs k => by
    obtain ⟨od, I, _, _⟩ := instAt hs hx hdx
    exact PySem.W.isi_call (hs.good.k.keeps hs.keep) (fun M => I.type) hi (by intro q; cases q) (k _ g N s.heap s.toks (Le.refl g) hs h)
theorem sp_isiNo {x C D dx : Addr} {P : AP} {post : Value → Heap → Led → Prop} (hx : Has g N x (IsInst D dx)) (hdx : Has g N dx P) (e : PySem.W.kin_not (hd0.heap_1 w.params) D C = true) (hg : plainGet (hd0.heap_1 w.params) D "__class__" = true) (hdct : hasDictIn (hd0.heap_1 w.params) D = true) (ha : findIn (hd0.heap_1 w.params) (.ref D) "__class__" = some (some (.builtin "object.__class__")))
    (hn : specialIn (hd0.heap_1 w.params) (.builtin "object.__class__") "__get__" = some (some (.builtin "getset_descriptor.__get__"))) (htk : takesIn (hd0.heap_1 w.params) (.builtin "object.__class__") = some true) (hm : mroIn (hd0.heap_1 w.params) D (.type "object") = some true) (h : post (.bool false) g N) : Sp w n (call (.builtin "isinstance") [.ref x, .ref C]) g N post :=
  fun A s Q hA hs k => by
    obtain ⟨od, I, _, _⟩ := instAt hs hx hdx
    exact PySem.W.kin_callC (hs.good.k.keeps hs.keep) I e hg hdct ha hn htk hm (k _ g N s.heap _ (Le.refl g) hs h)
theorem sp_isiStr {x : Str} {t : Tok} {post : Value → Heap → Led → Prop} (h : post (.bool true) g N) : Sp w n (call (.builtin "isinstance") [.str x t, .type "str"]) g N post :=
  fun A s Q hA hs k => PySem.IsiPair.str_str (k _ g N s.heap s.toks (Le.refl g) hs h)
theorem sp_isiTup {l : Addr} {vs : List Value} {post : Value → Heap → Led → Prop} (hl : AtG g l (IsTupl vs)) (h : post (.bool false) g N) : Sp w n (call (.builtin "isinstance") [.ref l, .type "str"]) g N post :=
  fun A s Q hA hs k => by
    obtain ⟨_, e, rfl⟩ := hl.at hs
    exact PySem.IsiPair.tuple_str e rfl (k _ g N s.heap _ (Le.refl g) hs h)
-- two lists of cells (code, number), alike: != gives False
inductive All2 {α β : Type} (P : α → β → Prop) : List α → List β → Prop where
  | nil : All2 P [] []
  | cons {a : α} {b : β} {as : List α} {bs : List β} : P a b → All2 P as bs → All2 P (a :: as) (b :: bs)
noncomputable def CellV (g : Heap) (v : Value) (c : Int × Int) : Prop := ∃ a t u, v = .ref a ∧ AtG g a (IsTupl [.int c.1 t, .int c.2 u])
noncomputable def CellsV (g : Heap) (vs : List Value) (cs : List (Int × Int)) : Prop := All2 (CellV g) vs cs
theorem CellsV.le {g g' : Heap} {vs : List Value} {cs : List (Int × Int)} (x : CellsV g vs cs) (l : Le g g') : CellsV g' vs cs := by
  induction x with
  | nil => exact .nil
  | cons h _ ih => obtain ⟨a, t, u, e, f⟩ := h; exact .cons ⟨a, t, u, e, f.le l⟩ ih
noncomputable def cellD (c : Int × Int) : PyData := .tuple [.int c.1, .int c.2]
theorem CellsV.reads {h : Heap} {vs : List Value} {cs : List (Int × Int)} (x : CellsV g vs cs) (l : Le g h) : ReadsAll h vs (cs.map cellD) [] := by
  induction x with
  | nil => exact .nil
  | cons hc _ ih =>
    obtain ⟨a, t, u, rfl, o, e, rfl⟩ := hc
    refine ReadsAll.cons (as := []) (bs := []) (Reads.tuple (l _ _ e) rfl rfl ?_) ih
    exact ReadsAll.cons (as := []) (bs := []) (Reads.int _ _) (ReadsAll.cons (as := []) (bs := []) (Reads.int _ _) ReadsAll.nil)
theorem cells_lay (cs : List (Int × Int)) : PyData.canLayAll0 (cs.map cellD) = true := by
  induction cs with
  | nil => rfl
  | cons c r ih => simp [PyData.canLayAll0, cellD, PyData.canLay0, ih]
theorem sp_neCells {l b : Addr} {vs ws : List Value} {cs : List (Int × Int)} {post : Value → Heap → Led → Prop} (hl : Has g N l (IsLst vs)) (hb : Has g N b (IsLst ws)) (hv : CellsV g vs cs) (hw : CellsV g ws cs) (h : post (.bool false) g N) : Sp w (n + 1) (compareOp .NotEq (.ref l) (.ref b)) g N post :=
  fun A s Q hA hs k => by
    obtain ⟨k1, e1⟩ := IsLst.get (hl.at hs)
    obtain ⟨k2, e2⟩ := IsLst.get (hb.at hs)
    refine PySem.SeqAt.compareNe_reads (da := .list (cs.map cellD)) (db := .list (cs.map cellD)) (Reads.list e1 rfl rfl (by simpa using hv.reads hs.keep)) (Reads.list e2 rfl rfl (by simpa using hw.reads hs.keep)) (cells_lay cs) (cells_lay cs) ?_ ?_
    · have hd : ∀ cs : List (Int × Int), PyData.depthAll (cs.map cellD) ≤ 1 := by
        intro cs
        induction cs with
        | nil => exact Nat.zero_le _
        | cons c r ih => simp only [List.map_cons, PyData.depthAll, cellD, PyData.depth]; omega
      have h1 := hd cs
      have h2 : (PyData.list (cs.map cellD)).depth ≤ 2 := by simp only [PyData.depth]; omega
      have := hA.2.2
      have h3 := Nat.min_le_left (PyData.list (cs.map cellD)).depth (PyData.list (cs.map cellD)).depth
      omega
    · rw [PySem.SeqAt.eqv_refl _ (by simp only [PyData.canLay0]; exact cells_lay cs)]
      exact k _ g N s.heap s.toks (Le.refl g) hs h
-- a dict whose keys are frozen tuples of ints
noncomputable abbrev tupK (w : World) : HeapKind PR w (List Int) := tupleKind (PySem.intKind PR w)
noncomputable def DicT (w : World) (xs : List (List Int × Addr × Value)) : AP := fun o => ∃ es ep, o.ExactDict ∧ o.data = .dict es ep ∧ es.toList = xs.map (PySem.entryOfKey (tupK w)) ∧ (xs.map (·.1)).Nodup
noncomputable def TupI (ks : List Int) : AP := fun o => ∃ vs, IsTupl vs o ∧ IntsAre vs ks
noncomputable def KeysG (g : Heap) (xs : List (List Int × Addr × Value)) : Prop := ∀ x ∈ xs, AtG g x.2.1 (TupI x.1)
theorem KeysG.le {g g' : Heap} {xs : List (List Int × Addr × Value)} (x : KeysG g xs) (l : Le g g') : KeysG g' xs := fun y hy => (x y hy).le l
theorem items_of {vs : List Value} {ks : List Int} (h : IntsAre vs ks) : ItemsAre (PySem.intKind PR w) ks vs := by
  induction h with
  | nil => exact .nil
  | cons n t _ ih => exact .cons (isI n t) ih
theorem TupI.key {h : Heap} {a : Addr} {ks : List Int} (x : ∃ o, h.get? a = some o ∧ TupI ks o) : (tupK w).is h ks a := by
  obtain ⟨_, e, vs, rfl, hi⟩ := x
  exact ⟨_, _, _, e, rfl, rfl, items_of hi⟩
theorem DicT.of {h : Heap} {d : Addr} {xs : List (List Int × Addr × Value)} (x : ∃ o, h.get? d = some o ∧ DicT w xs o) (hk : KeysG g xs) (hs : H w g N h) : h.DictOfH (tupK w) d xs := by
  obtain ⟨o, e, es, ep, hc, hd, he, hn⟩ := x
  exact ⟨o, es, ep, e, hc, hd, he, fun y hy => TupI.key ((hk y hy).at hs), hn⟩
theorem DicT.back {h : Heap} {d : Addr} {xs : List (List Int × Addr × Value)} (x : h.DictOfH (tupK w) d xs) : ∃ o, h.get? d = some o ∧ DicT w xs o := by
  obtain ⟨o, es, ep, e, hc, hd, he, _, hn⟩ := x
  exact ⟨o, e, es, ep, hc, hd, he, hn⟩
theorem in1_room {A : Around} (hA : Room A (n + 1)) : (tupK w).room A.in1 := by
  show A.in1.units < cLine
  have := hA.2.2
  have : A.in1.units ≤ A.units + 1 := Nat.le_of_eq rfl
  omega
theorem sp_getT {value slice : Expr} {d a : Addr} {xs : List (List Int × Addr × Value)} {ks : List Int} {p : Addr × Value} {post : Value → Heap → Led → Prop} (hd : Has g N d (DicT w xs)) (hk : KeysG g xs) (ha : AtG g a (TupI ks)) (hp : atKey xs ks = some p)
    (hs : subscripted slice false (.ref d) (.ref a) = operate [.ref d, .ref a] (getItem (.ref d) (.ref a))) (h : post p.2 g N) : Sp w (n + 1) (subscriptTail value slice (.ref d) (.ref a)) g N post :=
  fun A s Q hA hs' K => by
    have z := DicT.of (hd.at hs') hk hs'
    have hT : s.TypeIs (.ref d) "dict" := by obtain ⟨o, es, ep, e, hc, _⟩ := z; exact ⟨o, e, hc.1⟩
    exact tail_any hT F.slot_dict_getitem.lookup (wpAny_getItem_heap (in1_room hA) (TupI.key (ha.at hs')) z hp (K _ g N s.heap _ (Le.refl g) hs' h)) hs
theorem sp_setT {d a : Addr} {xs : List (List Int × Addr × Value)} {ks : List Int} {v : Value} {N' : Led} {post : Unit → Heap → Led → Prop} (hd : Chg d (DicT w xs) (DicT w (storedH xs ks a v)) N N') (hk : KeysG g xs) (ha : AtG g a (TupI ks)) (hz : xs.length ≤ 10000) (h : post () g N') : Sp w (n + 1) (setItem (.ref d) (.ref a) v) g N post :=
  fun A s Q hA hs K => wpAny_setItem_heap (in1_room hA) (TupI.key (ha.at hs)) (DicT.of (hs.nw _ hd.mem) hk hs) (fun h' hd' sb => K () g N' h' _ (Le.refl g) (hs.chg hd sb (DicT.back hd')) h) (by rw [sizeLine_eq]; omega)
end

-- zip(list, tuple)
section
variable {w : World} {n : Nat} {g : Heap} {N : Led} {env : Env}
theorem sp_notinT {d a : Addr} {xs : List (List Int × Addr × Value)} {ks : List Int} {post : Value → Heap → Led → Prop} (hm : (d == sysModules) = false) (hd : Has g N d (DicT w xs)) (hk : KeysG g xs) (ha : AtG g a (TupI ks)) (h : post (.bool (!(atKey xs ks).isSome)) g N) : Sp w (n + 1) (compareOp .NotIn (.ref a) (.ref d)) g N post :=
  fun A s Q hA hs K => PyProof.Rows.wpAny_notIn_heap (in1_room hA) (TupI.key (ha.at hs)) hm (DicT.of (hd.at hs) hk hs) (K _ g N s.heap _ (Le.refl g) hs h)
theorem sp_notinD {d : Addr} {kvs : List (Str × Value)} {x : Str} {t : Tok} {post : Value → Heap → Led → Prop} (hm : (d == sysModules) = false) (hd : Has g N d (Dic w kvs)) (h : post (.bool (!(valueAt kvs x).isSome)) g N) : Sp w n (compareOp .NotIn (.str x t) (.ref d)) g N post :=
  fun A s Q hA hs K => wpAny_notIn_of (isS x t) hm (dic_of (hd.at hs)).mapOf (K _ g N s.heap _ (Le.refl g) hs h)
/-- a piece of the machine that may stop the iteration -/
noncomputable def Sn {α : Type} (w : World) (t : Sem α) (g : Heap) (N : Led) (post : α → Heap → Led → Prop) (stop : Heap → Led → Prop) : Prop :=
  ∀ (A : Around) (s : Shared) (Q : α → Shared → Prop) (E : Value → Shared → Prop), A.handled = none → H w g N s.heap → (∀ a N' h', H w g N' h' → post a g N' → Q a { s with heap := h' }) →
    (∀ e N' h', H w g N' h' → (∃ o, h'.get? e = some o ∧ o.cls = .type "StopIteration") → stop g N' → E (.ref e) { s with heap := h' }) → wpAny (model PR w) A t Q E s
section
variable {α β : Type} {stop : Heap → Led → Prop}
theorem sn_bind {t : Sem α} {f : α → Sem β} {post : β → Heap → Led → Prop} (h : Sn w t g N (fun a g N => Sn w (f a) g N post stop) stop) : Sn w (t >>= f) g N post stop :=
  fun A s Q E hA hs k ke => wpAny_bind (h A s _ E hA hs (fun a N1 h1 hs1 p1 => p1 A _ Q E hA hs1 (fun b N2 h2 hs2 p2 => k b N2 h2 hs2 p2) fun e N2 h2 hs2 he p2 => ke e N2 h2 hs2 he p2) ke)
theorem sn_pure {a : α} {post : α → Heap → Led → Prop} (h : post a g N) : Sn w (pure a) g N post stop := fun A s Q E hA hs k ke => wpAny_pure (k a N s.heap hs h)
theorem sn_field {a : Addr} {P : AP} {fs : Array Value} {i : Nat} {x : Value} {post : Value → Heap → Led → Prop} (ha : Has g N a P) (hP : ∀ o, P o → o.data = .fields fs) (hx : fs[i]? = some x) (h : post x g N) : Sn w (field (.ref a) i) g N post stop :=
  fun A s Q E hA hs k ke => by
    obtain ⟨o, e, hp⟩ := ha.at hs
    exact wpAny_field e (hP o hp) hx (k _ N s.heap hs h)
theorem sn_seq {a : Addr} {P : AP} {vs : Array Value} {post : Option (Array Value) → Heap → Led → Prop} (ha : Has g N a P) (hP : ∀ o, P o → ∃ k, o.data = .seq vs k) (h : post (some vs) g N) : Sn w (seqItems? (.ref a)) g N post stop :=
  fun A s Q E hA hs k ke => by
    obtain ⟨o, e, hp⟩ := ha.at hs
    obtain ⟨kk, hd⟩ := hP o hp
    exact wpAny_seqItems e hd (k _ N s.heap hs h)
end
noncomputable def ZipO (TI TO : Addr) (f0 : Value) : AP := fun o => o = { cls := .type "zip", dict := none, data := .fields #[f0, .bool false, .bool false, .ref TI, .ref TO], slots := #[] }
noncomputable def PairO (a b : Value) : AP := fun o => o = { cls := .type "tuple", data := .seq #[a, b] }
theorem sn_setZip {z TI TO : Addr} {f0 x : Value} {N' : Led} {stop : Heap → Led → Prop} {post : Unit → Heap → Led → Prop} (hz : Chg z (ZipO TI TO f0) (ZipO TI TO x) N N') (h : post () g N') : Sn w (setField (.ref z) 0 x) g N post stop :=
  fun A s Q E hA hs k ke => by
    obtain ⟨_, e, rfl⟩ := hs.nw _ hz.mem
    exact wpAny_setField_rec e (by simp) fun h' e' sb => k () N' h' (hs.chg hz sb ⟨_, e', rfl⟩) h
theorem sn_setZip1 {z TI TO : Addr} {f0 : Value} {N' : Led} {stop : Heap → Led → Prop} {post : Unit → Heap → Led → Prop} (hz : Chg z (ZipO TI TO f0) (ZipO TI TO f0) N N') (h : post () g N') : Sn w (setField (.ref z) 1 (.bool false)) g N post stop :=
  fun A s Q E hA hs k ke => by
    obtain ⟨_, e, rfl⟩ := hs.nw _ hz.mem
    exact wpAny_setField_rec e (by simp) fun h' e' sb => k () N' h' (hs.chg hz sb ⟨_, e', rfl⟩) h
theorem sn_updPair {T : Addr} {a b x : Value} {i : Nat} {c d : Value} {N' : Led} {stop : Heap → Led → Prop} {post : Unit → Heap → Led → Prop} (hT : Chg T (PairO a b) (PairO c d) N N') (hcd : (#[a, b] : Array Value).setIfInBounds i x = #[c, d]) (h : post () g N') : Sn w (updateSeq T (·.setIfInBounds i x)) g N post stop :=
  fun A s Q E hA hs k ke => by
    obtain ⟨_, e, rfl⟩ := hs.nw _ hT.mem
    exact wpAny_updateSeq_pair e fun h' e' sb => k () N' h' (hs.chg hT sb ⟨_, e', by rw [hcd]; rfl⟩) h
theorem sn_nextL {it l : Addr} {vs : List Value} {i : Nat} {x : Value} {N' : Led} {stop : Heap → Led → Prop} {post : Value → Heap → Led → Prop} (hl : AtG g l (IsLst vs)) (hit : Chg it (LIt "list_iterator" l i) (LIt "list_iterator" l (i + 1)) N N') (hx : vs[i]? = some x) (h : post x g N') : Sn w (Builtin.SmallTypes.nextOf (.ref it)) g N post stop :=
  fun A s Q E hA hs k ke => by
    obtain ⟨o, e, hp⟩ := hs.nw _ hit.mem
    exact wpAny_nextOf_list_item ⟨o, e, hp⟩ (hl.lst hs.keep) (by simpa using hx) fun h' e' sb => k _ N' h' (hs.chg hit sb e') h
theorem sn_endL {it l : Addr} {vs : List Value} {R : Led} {stop : Heap → Led → Prop} {post : Value → Heap → Led → Prop} (hl : AtG g l (IsLst vs)) (hit : Take (it, LIt "list_iterator" l vs.length) N R) (h : stop g R) : Sn w (Builtin.SmallTypes.nextOf (.ref it)) g N post stop :=
  fun A s Q E hA hs k ke => by
    obtain ⟨o, e, hp⟩ := (hs.perm hit.perm).nw _ List.mem_cons_self
    refine wpAny_nextOf_list_end hA ⟨o, e, hp⟩ (hl.lst hs.keep) (by simp) fun h' ex sb he => ke ex R h' ((hs.perm hit.perm).dropExt sb) he h
theorem sn_nextT {it l : Addr} {vs : List Value} {i : Nat} {x : Value} {N' : Led} {stop : Heap → Led → Prop} {post : Value → Heap → Led → Prop} (hl : AtG g l (IsTupl vs)) (hit : Chg it (LIt "tuple_iterator" l i) (LIt "tuple_iterator" l (i + 1)) N N') (hx : vs[i]? = some x) (h : post x g N') : Sn w (Builtin.SmallTypes.nextOf (.ref it)) g N post stop :=
  fun A s Q E hA hs k ke => by
    obtain ⟨o, ho, hc, hd⟩ := hs.nw _ hit.mem
    obtain ⟨ol, hol, hpl⟩ := hl.at hs
    subst hpl
    have hT : s.TypeIs (.ref it) "tuple_iterator" := ⟨o, ho, hc⟩
    unfold Builtin.SmallTypes.nextOf
    refine wpAny_bind (wpAny_callSpecial?_slot (name := Str.ofString "__next__") hT slot_tupleiter_next
      (wpAny_call_entry slot_tupleiter_next hT entry_tupleiter_next ?_ (args_tupleiter_next _)))
    show wpAny _ _ (field (.ref it) 0 >>= _) _ _ s
    refine wpAny_bind (wpAny_field ho hd (x := .ref l) rfl ?_)
    show wpAny _ _ (if (Value.ref l == Value.none) = true then _ else _) _ _ s
    rw [if_neg (show ¬ ((Value.ref l == Value.none) = true) from Bool.false_ne_true)]
    show wpAny _ _ (field (.ref it) 1 >>= _) _ _ s
    refine wpAny_bind (wpAny_field ho hd (x := .int i 0) rfl ?_)
    show wpAny _ _ (seqItems? (.ref l) >>= _) _ _ s
    refine wpAny_bind (wpAny_seqItems hol rfl ?_)
    have hx' : vs.toArray[i]? = some x := by simpa using hx
    simp only [Int.toNat_natCast, hx']
    refine wpAny_bind (wpAny_setField ho hd (by simp) (wpAny_pure ⟨x, rfl, wpAny_pure (k _ N' _ (hs.chg hit (Heap.SameBut.update ..) ?_) h)⟩))
    exact ⟨_, Heap.get?_update_self _ ho (Obj.isFreed_of_fields (Obj.data_mapFields hd _)), (Obj.cls_mapFields ..).trans hc, by
      rw [Obj.data_mapFields hd]; simp [rawInt]⟩
theorem sn_onRaise {α : Type} {t : Sem α} {z TI TO : Addr} {f0 : Value} {stop : Heap → Led → Prop} {post : α → Heap → Led → Prop}
    (h : Sn w t g N post (fun g N => ∃ N', Chg z (ZipO TI TO f0) (ZipO TI TO .none) N N' ∧ stop g N')) : Sn w (t.onRaise fun _ => setField (.ref z) 0 .none) g N post stop :=
  fun A s Q E hA hs k ke => wpAny_onRaise (h A s Q _ hA hs k fun e N1 h1 hs1 he ⟨N2, hc, hst⟩ => by
    obtain ⟨_, hz, rfl⟩ := hs1.nw _ hc.mem
    refine wpAny_setField_rec hz (by simp) fun h' e' sb => ke e N2 h' (hs1.chg hc sb ⟨_, e', rfl⟩) ?_ hst
    obtain ⟨oe, hoe, hce⟩ := he
    have hez : e ≠ z := fun q => by subst q; rw [hz] at hoe; cases hoe; simp at hce
    exact ⟨oe, (sb.2 e hez).trans hoe, hce⟩)
theorem sn_rule {tag : String} {stop : Heap → Led → Prop} {post : Unit → Heap → Led → Prop} (h : post () g N) : Sn w (rule tag) g N post stop := fun A s Q E hA hs k ke => wpAny_rule (k _ N s.heap hs h)
theorem sn_letGo {r : List Value} {stop : Heap → Led → Prop} {post : Unit → Heap → Led → Prop} (h : post () g N) : Sn w (letGo r) g N post stop := fun A s Q E hA hs k ke => wpAny_letGo (k _ N s.heap hs h)
theorem sn_newTuple {a b : Value} {stop : Heap → Led → Prop} {post : Value → Heap → Led → Prop} (h : ∀ T, post (.ref T) g ((T, IsTupl [a, b]) :: N)) : Sn w (newTuple [a, b]) g N post stop :=
  fun A s Q E hA hs k ke => wpAny_newTuple (k _ _ _ (hs.push (P := IsTupl [a, b]) rfl) (h _)) (by rw [sizeLine_eq]; simp)
theorem zip_item {z TI TO i1 i2 l1 l2 : Addr} {xs ys : List Value} {k : Nat} {x y a b : Value} {R : Led} {post : Value → Heap → Led → Prop} {stop : Heap → Led → Prop} (hTI : AtG g TI (PairO (.ref i1) (.ref i2))) (hl1 : AtG g l1 (IsLst xs)) (hl2 : AtG g l2 (IsTupl ys)) (hx : xs[k]? = some x) (hy : ys[k]? = some y)
    (h : ∀ T, post (.ref T) g ((T, IsTupl [x, y]) :: (z, ZipO TI TO (rawInt T)) :: (TO, PairO x y) :: (i1, LIt "list_iterator" l1 (k + 1)) :: (i2, LIt "tuple_iterator" l2 (k + 1)) :: R)) :
    Sn w (Builtin.«zip.__next__» ⟨[.ref z], []⟩) g ((z, ZipO TI TO .none) :: (TO, PairO a b) :: (i1, LIt "list_iterator" l1 k) :: (i2, LIt "tuple_iterator" l2 k) :: R) (fun f g N => ∃ v, f = .done (.ret v) ∧ post v g N) stop := by
  show Sn w (field (.ref z) 2 >>= _) _ _ _ _
  refine sn_bind (sn_field Has.head (fun o e => by rw [e]) rfl ?_)
  show Sn w (field (.ref z) 3 >>= _) _ _ _ _
  refine sn_bind (sn_field Has.head (fun o e => by rw [e]) rfl ?_)
  refine sn_bind (sn_seq (AtG.has hTI) (fun o e => ⟨0, by rw [e]⟩) ?_)
  show Sn w (Builtin.SmallTypes.ownedTupleIsFree (.ref z) >>= _) _ _ _ _
  refine sn_bind ?_
  unfold Builtin.SmallTypes.ownedTupleIsFree
  refine sn_bind (sn_field Has.head (fun o e => by rw [e]) rfl (sn_pure ?_))
  simp only [if_true]
  refine sn_bind (sn_rule ?_)
  refine sn_bind (sn_field Has.head (fun o e => by rw [e]) rfl ?_)
  refine sn_bind (sn_setZip (.here rfl) ?_)
  refine sn_bind ?_
  simp only [List.zipIdx_cons, List.zipIdx_nil, List.forIn_cons, List.forIn_nil]
  refine sn_bind (sn_bind (sn_onRaise (z := z) (TI := TI) (TO := TO) (f0 := .ellipsis) ?_))
  show Sn w (Builtin.SmallTypes.nextOf (.ref i1) >>= _) _ _ _ _
  refine sn_bind (sn_nextL hl1 (.there (.there (.here rfl))) hx (sn_pure ?_))
  refine sn_bind (sn_seq (Has.tail Has.head) (fun o e => ⟨0, by rw [e]⟩) ?_)
  refine sn_bind (sn_updPair (c := x) (d := b) (.there (.here rfl)) rfl ?_)
  refine sn_bind (sn_letGo (sn_pure ?_))
  refine sn_bind (sn_bind (sn_onRaise (z := z) (TI := TI) (TO := TO) (f0 := .ellipsis) ?_))
  show Sn w (Builtin.SmallTypes.nextOf (.ref i2) >>= _) _ _ _ _
  refine sn_bind (sn_nextT hl2 (.there (.there (.there (.here rfl)))) hy (sn_pure ?_))
  refine sn_bind (sn_seq (Has.tail Has.head) (fun o e => ⟨0, by rw [e]⟩) ?_)
  refine sn_bind (sn_updPair (c := x) (d := y) (.there (.here rfl)) rfl ?_)
  refine sn_bind (sn_letGo (sn_pure (sn_pure ?_)))
  refine sn_bind (sn_seq (Has.tail Has.head) (fun o e => ⟨0, by rw [e]⟩) ?_)
  refine sn_bind (sn_newTuple fun T => ?_)
  show Sn w (Builtin.SmallTypes.ownedTupleHandOut (.ref z) (.ref T) >>= _) _ _ _ _
  refine sn_bind ?_
  unfold Builtin.SmallTypes.ownedTupleHandOut
  refine sn_bind (sn_setZip (.there (.here rfl)) ?_)
  refine sn_setZip1 (.there (.here rfl)) ?_
  exact sn_pure ⟨_, rfl, h T⟩
theorem zip_end {z TI TO i1 i2 l1 l2 : Addr} {xs : List Value} {a b : Value} {R : Led} {post : Fin → Heap → Led → Prop} {stop : Heap → Led → Prop} (hTI : AtG g TI (PairO (.ref i1) (.ref i2))) (hl1 : AtG g l1 (IsLst xs))
    (h : stop g ((z, ZipO TI TO .none) :: (TO, PairO a b) :: (i2, LIt "tuple_iterator" l2 xs.length) :: R)) :
    Sn w (Builtin.«zip.__next__» ⟨[.ref z], []⟩) g ((z, ZipO TI TO .none) :: (TO, PairO a b) :: (i1, LIt "list_iterator" l1 xs.length) :: (i2, LIt "tuple_iterator" l2 xs.length) :: R) post stop := by
  show Sn w (field (.ref z) 2 >>= _) _ _ _ _
  refine sn_bind (sn_field Has.head (fun o e => by rw [e]) rfl ?_)
  show Sn w (field (.ref z) 3 >>= _) _ _ _ _
  refine sn_bind (sn_field Has.head (fun o e => by rw [e]) rfl ?_)
  refine sn_bind (sn_seq (AtG.has hTI) (fun o e => ⟨0, by rw [e]⟩) ?_)
  show Sn w (Builtin.SmallTypes.ownedTupleIsFree (.ref z) >>= _) _ _ _ _
  refine sn_bind ?_
  unfold Builtin.SmallTypes.ownedTupleIsFree
  refine sn_bind (sn_field Has.head (fun o e => by rw [e]) rfl (sn_pure ?_))
  simp only [if_true]
  refine sn_bind (sn_rule ?_)
  refine sn_bind (sn_field Has.head (fun o e => by rw [e]) rfl ?_)
  refine sn_bind (sn_setZip (.here rfl) ?_)
  refine sn_bind ?_
  simp only [List.zipIdx_cons, List.zipIdx_nil, List.forIn_cons, List.forIn_nil]
  refine sn_bind (sn_bind (sn_onRaise (z := z) (TI := TI) (TO := TO) (f0 := .ellipsis) ?_))
  show Sn w (Builtin.SmallTypes.nextOf (.ref i1) >>= _) _ _ _ _
  exact sn_bind (sn_endL hl1 (.there (.there .here)) ⟨_, .here rfl, h⟩)
noncomputable def PairAny : AP := fun o => ∃ a b, PairO a b o
theorem any_pair {h : Heap} {TO : Addr} {R1 R2 : Led} (x : H w g (R1 ++ (TO, PairAny) :: R2) h) : ∃ a b, H w g (R1 ++ (TO, PairO a b) :: R2) h := by
  obtain ⟨o, e, a, b, hp⟩ := x.nw (TO, PairAny) (List.mem_append.mpr (.inr List.mem_cons_self))
  refine ⟨a, b, x.good, x.keep, fun q hq => ?_, by simpa using x.nd, fun q hq => ?_⟩
  · rcases List.mem_append.mp hq with hq | hq
    · exact x.nw q (List.mem_append.mpr (.inl hq))
    · rcases List.mem_cons.mp hq with rfl | hq
      · exact ⟨o, e, hp⟩
      · exact x.nw q (List.mem_append.mpr (.inr (List.mem_cons_of_mem _ hq)))
  · rcases List.mem_append.mp hq with hq | hq
    · exact x.off q (List.mem_append.mpr (.inl hq))
    · rcases List.mem_cons.mp hq with rfl | hq
      · exact x.off (TO, PairAny) (List.mem_append.mpr (.inr List.mem_cons_self))
      · exact x.off q (List.mem_append.mpr (.inr (List.mem_cons_of_mem _ hq)))
theorem pair_any {h : Heap} {TO : Addr} {a b : Value} {R1 R2 : Led} (x : H w g (R1 ++ (TO, PairO a b) :: R2) h) : H w g (R1 ++ (TO, PairAny) :: R2) h := by
  refine x.weak (by simp) fun c P' hm => ?_
  rcases List.mem_append.mp hm with hm | hm
  · exact ⟨P', List.mem_append.mpr (.inl hm), fun _ z => z⟩
  · rcases List.mem_cons.mp hm with e | hm
    · cases e; exact ⟨_, List.mem_append.mpr (.inr List.mem_cons_self), fun o z => ⟨a, b, z⟩⟩
    · exact ⟨P', List.mem_append.mpr (.inr (List.mem_cons_of_mem _ hm)), fun _ z => z⟩
noncomputable abbrev ZipS (z TI TO i1 i2 l1 l2 : Addr) (i : Nat) : Led := [(z, ZipO TI TO .none), (TO, PairAny), (i1, LIt "list_iterator" l1 i), (i2, LIt "tuple_iterator" l2 i)]
theorem itr_zip {elts : List Expr} {kk : Nat} {pp : Pos} {z TI TO i1 i2 l1 l2 : Addr} {xs ys : List Value} (hTI : AtG g TI (PairO (.ref i1) (.ref i2))) (hl1 : AtG g l1 (IsLst xs)) (hl2 : AtG g l2 (IsTupl ys)) (hlen : xs.length = ys.length) :
    Itr w (.Tuple elts kk pp) g (.ref z) xs.length (fun i v X => ∃ T x y, v = .ref T ∧ xs[i]? = some x ∧ ys[i]? = some y ∧ X = [(T, IsTupl [x, y])]) (ZipS z TI TO i1 i2 l1 l2) where
  item := fun i g' N post hi le h => fun A s Q hA hs k => by
    obtain ⟨a, b, hs'⟩ := any_pair (R1 := [(z, ZipO TI TO .none)]) (R2 := (i1, LIt "list_iterator" l1 i) :: (i2, LIt "tuple_iterator" l2 i) :: N) hs
    obtain ⟨_, hz, rfl⟩ := hs'.nw (z, ZipO TI TO .none) List.mem_cons_self
    have hT : s.TypeIs (.ref z) "zip" := ⟨_, hz, rfl⟩
    have hx : xs[i]? = some xs[i] := List.getElem?_eq_getElem hi
    have hy : ys[i]? = some (ys[i]'(by omega)) := List.getElem?_eq_getElem (by omega)
    unfold pyNext
    refine wpAny_bind (wpAny_attempt (wpAny_callSpecial?_slot (name := Str.ofString "__next__") hT F.slot_zip_next (wpAny_call_entry F.slot_zip_next hT F.entry_zip_next
      (zip_item (post := fun v g2 N2 => nxtK w (.Tuple elts kk pp) (.ref z) post (some v) g2 N2) (stop := fun _ _ => False) (hTI.le le) (hl1.le le) (hl2.le le) hx hy (fun T => nxtK_tup ?_) A.in1 s _ _ hA.1 hs' (fun f N' h' hs2 ⟨v, e, p⟩ => ⟨v, e, wpAny_pure (k (some v) g' N' h' s.toks (Le.refl _) hs2 p)⟩) fun _ _ _ _ _ z => z.elim) (F.args_zip_next_1 _))))
    intro A' s' Q' hA' hs2 k'
    have hs3 := hs2.perm (List.Perm.swap _ _ _)
    obtain ⟨_, hz', rfl⟩ := hs3.nw _ List.mem_cons_self
    refine wpAny_letOwnedTupleGo_zip hz' fun h2 b1 sb => k' () g' _ h2 s'.toks (Le.refl _) (pair_any (R1 := [(T, IsTupl [xs[i], ys[i]'(by omega)]), (z, ZipO TI TO .none)]) ((hs3.set (P' := ZipO TI TO .none) sb ⟨_, b1, rfl⟩).perm (List.Perm.swap _ _ _))) (h _ _ ⟨T, _, _, rfl, hx, hy, rfl⟩)
  done := fun g' N post le h => fun A s Q hA hs k => by
    obtain ⟨a, b, hs'⟩ := any_pair (R1 := [(z, ZipO TI TO .none)]) (R2 := (i1, LIt "list_iterator" l1 xs.length) :: (i2, LIt "tuple_iterator" l2 xs.length) :: N) hs
    obtain ⟨_, hz, rfl⟩ := hs'.nw (z, ZipO TI TO .none) List.mem_cons_self
    have hT : s.TypeIs (.ref z) "zip" := ⟨_, hz, rfl⟩
    unfold pyNext
    refine wpAny_bind (wpAny_attempt (wpAny_callSpecial?_slot (name := Str.ofString "__next__") hT F.slot_zip_next (wpAny_call_entry F.slot_zip_next hT F.entry_zip_next
      (zip_end (post := fun _ _ _ => False) (stop := fun g2 N2 => g2 = g' ∧ N2 = (z, ZipO TI TO .none) :: (TO, PairO a b) :: (i2, LIt "tuple_iterator" l2 xs.length) :: N) (hTI.le le) (hl1.le le) ⟨rfl, rfl⟩ A.in1 s _ _ hA.1 hs' (fun _ _ _ _ z => z.elim) fun e N' h' hs2 he ⟨_, e2⟩ => ?_) (F.args_zip_next_1 _))))
    subst e2
    obtain ⟨o, ho, hc⟩ := he
    refine wpAny_bind (wpAny_isInstance (T := "StopIteration") (b := true) ⟨o, ho, hc⟩ isSubtype_stop ?_)
    exact wpAny_pure (k none g' N h' s.toks (Le.refl _) (hs2.cutN (.drop (.drop (.drop .same)))) ⟨rfl, h⟩)
  self := fun g' N post le h => fun A s Q hA hs k => by
    obtain ⟨_, hz, rfl⟩ := hs.nw (z, ZipO TI TO .none) List.mem_cons_self
    exact wpAny_pyIter_zip hz (k _ g' _ s.heap s.toks (Le.refl _) hs h)
noncomputable abbrev zH1 (h : Heap) (l1 : Addr) : Heap := h.push { cls := .type "list_iterator", data := .fields #[.ref l1, .int 0 0] }
noncomputable abbrev zH2 (h : Heap) (l1 l2 : Addr) : Heap := (zH1 h l1).push { cls := .type "tuple_iterator", data := .fields #[.ref l2, .int 0 0] }
noncomputable abbrev zH3 (h : Heap) (l1 l2 : Addr) : Heap := (zH2 h l1 l2).push { cls := .type "tuple", data := .seq #[.ref h.objs.size, .ref (zH1 h l1).objs.size] }
noncomputable abbrev zH4 (h : Heap) (l1 l2 : Addr) : Heap := (zH3 h l1 l2).push { cls := .type "tuple", data := .seq #[.none, .none] }
noncomputable abbrev zH5 (h : Heap) (l1 l2 : Addr) : Heap := (zH4 h l1 l2).push { cls := .type "zip", data := .fields #[.none, .bool false, .bool false, .ref (zH2 h l1 l2).objs.size, .ref (zH3 h l1 l2).objs.size] }
theorem zip_new (l1 l2 : Addr) (xs ys : Array Value) :
    Meets (Builtin.«zip.__new__» ⟨[.type "zip", .ref l1, .ref l2], []⟩) (fun _ R s => s.heap.IsList l1 xs ∧ s.heap.IsTuple l2 ys ∧ R (.ok (.ret (.ref (zH4 s.heap l1 l2).objs.size))) { s with heap := zH5 s.heap l1 l2 }) :=
  .of_wp fun prog w A R s h => by
    obtain ⟨hp, g, d, tk, os⟩ := s; obtain ⟨hl1, hl2, h⟩ := h
    have hsub := sub_zip
    have hL1 : Heap.IsList (Shared.heap ⟨hp, g, d, tk, os⟩) l1 xs := hl1
    have hL2 : Heap.IsTuple (Shared.heap ⟨hp.push { cls := .type "list_iterator", data := .fields #[.ref l1, .int 0 0] }, g, d, tk, os⟩) l2 ys := by
      obtain ⟨o, e, r⟩ := hl2; exact ⟨o, Heap.get?_push_of_some _ e, r⟩
    wp_walk using wpAny_pyIter_list hL1, wpAny_pyIter_tuple hL2
    exact ⟨_, rfl, h⟩
theorem sp_zip {l1 l2 : Addr} {xs ys : List Value} {post : Value → Heap → Led → Prop} (hl1 : AtG g l1 (IsLst xs)) (hl2 : AtG g l2 (IsTupl ys)) (h : ∀ g' z TI TO i1 i2, Le g g' → AtG g' TI (PairO (.ref i1) (.ref i2)) → post (.ref z) g' (ZipS z TI TO i1 i2 l1 l2 0 ++ N)) : Sp w n (call (.type "zip") [.ref l1, .ref l2]) g N post :=
  fun A s Q hA hs K => by
    refine callType_new F.called_zip (by decide) (F.typeCall_zip_2 _ _) (F.newCall_zip_2 _ _) (fun obj => F.args_object_init_3 obj _ _) F.entry_zip_new (zip_new l1 l2 xs.toArray ys.toArray) ⟨hl1.lst hs.keep, hl2.tup hs.keep, ?_⟩
    have y1 : H w g _ (zH1 s.heap l1) := hs.push (P := LIt "list_iterator" l1 0) ⟨rfl, rfl⟩
    have y2 : H w g _ (zH2 s.heap l1 l2) := y1.push (P := LIt "tuple_iterator" l2 0) ⟨rfl, rfl⟩
    obtain ⟨g', l, y3, f⟩ := y2.newF (P := PairO (.ref s.heap.objs.size) (.ref (zH1 s.heap l1).objs.size)) (o := { cls := .type "tuple", data := .seq #[.ref s.heap.objs.size, .ref (zH1 s.heap l1).objs.size] }) rfl
    have y4 : H w g' _ (zH4 s.heap l1 l2) := y3.push (P := PairAny) ⟨.none, .none, rfl⟩
    have y5 : H w g' _ (zH5 s.heap l1 l2) := y4.push (P := ZipO (zH2 s.heap l1 l2).objs.size (zH3 s.heap l1 l2).objs.size .none) rfl
    exact ⟨⟨_, Heap.get?_push_size _ rfl, rfl⟩, K _ g' _ _ s.toks l (y5.perm (.cons _ (.cons _ (List.Perm.swap _ _ _)))) (h g' _ _ _ _ _ l f)⟩
theorem sp_iterZ {z TI TO : Addr} {post : Value → Heap → Led → Prop} (hz : Has g N z (ZipO TI TO .none)) (h : post (.ref z) g N) : Sp w n (pyIter (.ref z)) g N post :=
  fun A s Q hA hs k => by
    obtain ⟨_, e, rfl⟩ := hz.at hs
    exact wpAny_pyIter_zip e (k _ g _ s.heap s.toks (Le.refl _) hs h)
end

-- more rows of the walk
theorem branchB {b : Bool} {X Y : Prop} (h1 : b = true → X) (h2 : b = false → Y) : (b = true → X) ∧ (b = false → Y) := ⟨h1, h2⟩
theorem strEx {x : Str} {t : Tok} {P : Str → Tok → Prop} {v : Value} (e : v = .str x t) (h : P x t) : ∃ y u, v = .str y u ∧ P y u := ⟨x, t, e, h⟩
theorem strEx2 {out x : Str} {t : Tok} {P : Str → Tok → Prop} {v : Value} (e : v = .str x t) (hz : (out ++ x).length ≤ sizeLine) (h : P x t) : ∃ y u, v = .str y u ∧ (out ++ y).length ≤ sizeLine ∧ P y u := ⟨x, t, e, hz, h⟩
theorem strOut {post : Value → Heap → Led → Prop} {g : Heap} {N : Led} {x y : Str} {t : Tok} (h : ∀ tk, post (.str x tk) g N) (e : x = y) : post (.str y t) g N := e ▸ h t
section
variable {w : World} {n : Nat} {g : Heap} {N : Led} {env : Env}
theorem sp_dictT1 {kx v : Expr} {pos : Pos} {post : Value → Heap → Led → Prop}
    (h : ∀ d, (d == sysModules) = false → Sp w (n + 1) (evalPairs (pairTrees [some kx] [v] env pos)) g ((d, DicT w []) :: N) (fun vs g' N' => ∃ a val ks N'', vs = [(.ref a, val)] ∧ AtG g' a (TupI ks) ∧ Chg d (DicT w []) (DicT w [(ks, a, val)]) N' N'' ∧ post (.ref d) g' N'')) : Sp w (n + 1) (eval (.Dict [some kx] [v] pos) env) g N post :=
  fun A s Q hA hs k => by
    have z : H w g ((s.heap.objs.size, DicT w []) :: N) (s.heap.push { cls := .type "dict", data := .dict #[] }) := hs.push (P := DicT w []) ⟨#[], 0, ⟨rfl, rfl, rfl⟩, rfl, rfl, List.nodup_nil⟩
    refine PySem.wpAny_Dict_any rfl rfl (by simp) (by simp) (h _ (new_mods hs) A { s with heap := s.heap.push { cls := .type "dict", data := .dict #[] } } _ hA z fun vs g1 N1 h1 tk1 l1 hs1 ⟨a, val, ks, N'', e, ha, hc, hp⟩ => ?_)
    subst e
    unfold PySem.storeAll
    rw [List.forIn_cons]
    refine wpAny_bind (wpAny_bind (wpAny_dictSet_heap (xs := []) (k := ks) (show A.units < cLine from hA.units) (TupI.key (ha.at hs1)) (DicT.of (g := g1) (hs1.nw _ hc.mem) (fun _ hx => by cases hx) hs1) (fun h' hd sb => wpAny_pure ?_) (by simp)))
    dsimp only
    rw [List.forIn_nil]
    exact wpAny_pure (k _ g1 N'' h' _ l1 (hs1.chg hc sb (DicT.back hd)) hp)
/-- a copy of what is looked through may stand in the base meanwhile -/
theorem sp_borrow {α : Type} {t : Sem α} {post : α → Heap → Led → Prop} {F R : Led} (c : Cut N (F ++ R)) (h : ∀ g', Le g g' → (∀ p ∈ F, ∃ o, g'.get? p.1 = some o ∧ p.2 o) → Sp w n t g' R (fun a g2 N2 => Cut N2 R ∧ post a g (F ++ R))) : Sp w n t g N post :=
  fun A s Q hA hs k => by
    have y := hs.cutN c
    obtain ⟨g', l, hs', f⟩ := H.freeze F y
    refine h g' l f A s Q hA hs' fun a g2 N2 h2 tk2 l2 hs2 ⟨c2, p⟩ => ?_
    have z := hs2.cutN c2
    refine k a g (F ++ R) h2 tk2 (Le.refl g) ⟨y.good, (l.trans l2).trans z.keep, fun q hq => ?_, y.nd, y.off⟩ p
    rcases List.mem_append.mp hq with hq | hq
    · obtain ⟨o, e, hp⟩ := f q hq
      exact ⟨o, z.keep _ _ (l2 _ _ e), hp⟩
    · exact z.nw q hq
end
-- sizes
theorem str_app_len (x y : Str) : (x ++ y).length = x.length + y.length := by show (x.cps ++ y.cps).size = _; rw [Array.size_append]; rfl
theorem size_le {n : Nat} (h : n ≤ 16777216) : n ≤ sizeLine := by rw [sizeLine_eq]; exact h
theorem i00 : (0 : Int) ≤ 0 := by decide
theorem i01 : (0 : Int) ≤ 1 := by decide
theorem i02 : (0 : Int) ≤ 2 := by decide
theorem j0 : (0 : Int) < 2 ^ 63 := by decide
theorem j1 : (1 : Int) < 2 ^ 63 := by decide
theorem j2 : (2 : Int) < 2 ^ 63 := by decide
theorem len0 {α : Type} : ([] : List α).length ≤ sizeLine := Nat.zero_le _
theorem len1 {α : Type} {x0 : α} : [x0].length ≤ sizeLine := by rw [sizeLine_eq]; exact (by decide : 1 ≤ 2 ^ 24)
theorem len2 {α : Type} {x0 x1 : α} : [x0, x1].length ≤ sizeLine := by rw [sizeLine_eq]; exact (by decide : 2 ≤ 2 ^ 24)
theorem len3 {α : Type} {x0 x1 x2 : α} : [x0, x1, x2].length ≤ sizeLine := by rw [sizeLine_eq]; exact (by decide : 3 ≤ 2 ^ 24)
theorem len4 {α : Type} {x0 x1 x2 x3 : α} : [x0, x1, x2, x3].length ≤ sizeLine := by rw [sizeLine_eq]; exact (by decide : 4 ≤ 2 ^ 24)
theorem len5 {α : Type} {x0 x1 x2 x3 x4 : α} : [x0, x1, x2, x3, x4].length ≤ sizeLine := by rw [sizeLine_eq]; exact (by decide : 5 ≤ 2 ^ 24)
theorem len6 {α : Type} {x0 x1 x2 x3 x4 x5 : α} : [x0, x1, x2, x3, x4, x5].length ≤ sizeLine := by rw [sizeLine_eq]; exact (by decide : 6 ≤ 2 ^ 24)
theorem lz_app {x y : Str} {a b : Nat} (h : x.length = a) (k : y.length = b) : (x ++ y).length = a + b := by rw [str_app_len, h, k]
theorem lz_appL {α : Type} {x y : List α} {a b : Nat} (h : x.length = a) (k : y.length = b) : (x ++ y).length = a + b := by rw [List.length_append, h, k]
theorem lz_nil {α : Type} : ([] : List α).length = 0 := rfl
theorem lz_cons {α : Type} {x : α} {l : List α} {a : Nat} (h : l.length = a) : (x :: l).length = a + 1 := by rw [List.length_cons, h]
theorem lz_rep {α : Type} {x : α} {n : Nat} : (List.replicate n x).length = n := List.length_replicate
theorem lz_add {x y a b : Nat} (h : x = a) (k : y = b) : x + y = a + b := by rw [h, k]
local macro_rules | `(tactic| krn_off) => `(tactic| first
  | with_reducible exact lz_nil
  | ((with_reducible refine' lz_cons ?ka); (case ka => krn_off))
  | with_reducible exact lz_rep
  | ((with_reducible refine' lz_app ?ka ?kb); (case ka | kb => krn_off))
  | ((with_reducible refine' lz_appL ?ka ?kb); (case ka | kb => krn_off))
  | ((with_reducible refine' lz_add ?ka ?kb); (case ka | kb => krn_off))
  | exact rfl)
local macro_rules | `(tactic| kpt_len) => `(tactic| first
  | (with_reducible first | assumption | exact len0 | exact len1 | exact len2 | exact len3 | exact len4 | exact len5 | exact len6 | exact i00 | exact j0 | exact i01 | exact j1 | exact i02 | exact j2)
  | omega
  | decide
  | (refine' Nat.le_trans (Nat.le_of_eq ?zl) ?zle; (case zl => krn_off); (case zle => first | omega | (refine size_le ?_; omega)))
  | (simp only [str_app_len, List.length_append, List.length_cons, List.length_nil, List.length_replicate, sizeLine_eq] at *; omega)
  | (rw [sizeLine_eq]; decide))
-- Facts
set_option genInjectivity false in
structure FD where
  name : Str
  file : Str
  size : Int
  top : Int
  bottom : Int
  line : Int
  column : Int
  md : Bool
  ro : Bool
  nr : Bool
  deep : Int
noncomputable abbrev factNames : List Str := [Str.ofString "name", Str.ofString "file", Str.ofString "mode", Str.ofString "begin", Str.ofString "end", Str.ofString "top", Str.ofString "bottom", Str.ofString "line", Str.ofString "column", Str.ofString "is_modified", Str.ofString "is_read_only", Str.ofString "is_narrowed", Str.ofString "deep"]
set_option genInjectivity false in
structure FT where
  t0 : Tok
  t1 : Tok
  t2 : Tok
  t3 : Tok
  t4 : Tok
  t5 : Tok
  t6 : Tok
  t7 : Tok
  t8 : Tok
  t9 : Tok
noncomputable abbrev factVals (F : FD) (t : FT) : List (Option Value) := [some (.str F.name t.t0), some (.str F.file t.t1), some (.str (Str.ofString "Fundamental") t.t2), some (.int 1 t.t3), some (.int (1 + F.size) t.t4), some (.int F.top t.t5), some (.int F.bottom t.t6), some (.int F.line t.t7), some (.int F.column t.t8), some (.bool F.md), some (.bool F.ro), some (.bool F.nr), some (.int F.deep t.t9)]
structure FactsAt (g : Heap) (f df : Addr) (t : FT) (F : FD) : Prop where
  inst : AtG g f (IsInst 39 df)
  attr : AtG g df (Atr factNames (factVals F t))
theorem FactsAt.le {g g' : Heap} {f df : Addr} {t : FT} {F : FD} (x : FactsAt g f df t F) (l : Le g g') : FactsAt g' f df t F := ⟨x.inst.le l, x.attr.le l⟩
noncomputable def starF (F : FD) : Str := if F.ro = true then Str.ofString "%" else if F.md = true then Str.ofString "*" else Str.ofString "-"

-- dicts with known keys
inductive KvsOf : List (Value × Value) → List (Str × Value) → Prop where
  | nil : KvsOf [] []
  | cons {k : Str} {t : Tok} {v : Value} {r : List (Value × Value)} {q : List (Str × Value)} : KvsOf r q → KvsOf ((.str k t, v) :: r) ((k, v) :: q)
inductive KvsI : List (Value × Value) → List (Int × Value) → Prop where
  | nil : KvsI [] []
  | cons {k : Int} {t : Tok} {v : Value} {r : List (Value × Value)} {q : List (Int × Value)} : KvsI r q → KvsI ((.int k t, v) :: r) ((k, v) :: q)
theorem KvsOf.carries {w : World} {vs : List (Value × Value)} {kvs : List (Str × Value)} (h : KvsOf vs kvs) : Carries (PySem.strKind PR w) vs kvs := by
  induction h with
  | nil => trivial
  | cons _ ih => exact ⟨isS _ _, rfl, ih⟩
theorem KvsI.carries {w : World} {vs : List (Value × Value)} {kvs : List (Int × Value)} (h : KvsI vs kvs) : Carries (PySem.intKind PR w) vs kvs := by
  induction h with
  | nil => trivial
  | cons _ ih => exact ⟨isI _ _, rfl, ih⟩
section
variable {K : Type} [DecidableEq K]
noncomputable def noKey (x : K) (ks : List K) : Bool := ks.all fun k => !decide (k = x)
noncomputable def nodupB : List K → Bool
  | [] => true
  | k :: r => noKey k r && nodupB r
theorem noKey_spec {x : K} {ks : List K} (h : noKey x ks = true) : x ∉ ks := by
  intro hm
  have := List.all_eq_true.mp h x hm
  simp at this
theorem stored_new {kvs : List (K × Value)} {x : K} (h : x ∉ kvs.map (·.1)) (v : Value) : stored kvs x v = kvs ++ [(x, v)] := by
  unfold stored
  rw [if_neg]
  intro ha
  obtain ⟨p, hp, e⟩ := List.any_eq_true.mp ha
  exact h (List.mem_map.mpr ⟨p, hp, by simpa using e⟩)
theorem merged_new : ∀ {more kvs : List (K × Value)}, nodupB (more.map (·.1)) = true → (∀ p ∈ more, p.1 ∉ kvs.map (·.1)) → PySem.merged kvs more = kvs ++ more
  | [], kvs, _, _ => by simp [PySem.merged]
  | (k, v) :: r, kvs, hn, hd => by
    have hn' : noKey k (r.map (·.1)) = true ∧ nodupB (r.map (·.1)) = true := by simpa [nodupB] using hn
    show PySem.merged (stored kvs k v) r = _
    rw [stored_new (hd _ (.head _)), merged_new hn'.2 ?_]
    · simp
    · intro p hp hm
      rw [List.map_append, List.mem_append] at hm
      rcases hm with hm | hm
      · exact hd p (.tail _ hp) hm
      · have : p.1 = k := by simpa using hm
        exact noKey_spec hn'.1 (this ▸ List.mem_map.mpr ⟨p, hp, rfl⟩)
inductive VAt : List (K × Value) → K → Value → Prop where
  | here {k : K} {v : Value} {r : List (K × Value)} : VAt ((k, v) :: r) k v
  | there {k x : K} {u v : Value} {r : List (K × Value)} : decide (k = x) = false → VAt r x v → VAt ((k, u) :: r) x v
theorem VAt.at {kvs : List (K × Value)} {x : K} {v : Value} (h : VAt kvs x v) : valueAt kvs x = some v := by
  induction h with
  | here => simp [valueAt]
  | there hne _ ih => unfold valueAt at ih ⊢; rw [List.find?_cons, hne]; exact ih
theorem valueAt_none {kvs : List (K × Value)} {x : K} (h : noKey x (kvs.map (·.1)) = true) : valueAt kvs x = none := by
  unfold valueAt
  rw [Option.map_eq_none_iff, List.find?_eq_none]
  intro p hp
  have := noKey_spec h
  simp only [decide_eq_true_eq]
  intro e
  exact this (List.mem_map.mpr ⟨p, hp, e⟩)
inductive App {α : Type} : List α → List α → List α → Prop where
  | nil {b : List α} : App [] b b
  | cons {x : α} {a b c : List α} : App a b c → App (x :: a) b (x :: c)
theorem App.eq {α : Type} {a b c : List α} (h : App a b c) : a ++ b = c := by
  induction h with
  | nil => rfl
  | cons _ ih => rw [List.cons_append, ih]
end
section
variable {w : World} {n : Nat} {g : Heap} {N : Led} {env : Env}
noncomputable def DKs (w : World) (d : Addr) (post : Value → Heap → Led → Prop) (vs : List (Value × Value)) (g : Heap) (N : Led) : Prop := ∃ kvs N'', KvsOf vs kvs ∧ nodupB (kvs.map (·.1)) = true ∧ Chg d (Dic w []) (Dic w kvs) N N'' ∧ post (.ref d) g N''
theorem dks {d : Addr} {post : Value → Heap → Led → Prop} {vs : List (Value × Value)} {kvs : List (Str × Value)} {N'' : Led} (a : KvsOf vs kvs) (b : nodupB (kvs.map (·.1)) = true) (c : Chg d (Dic w []) (Dic w kvs) N N'') (h : post (.ref d) g N'') : DKs w d post vs g N := ⟨kvs, N'', a, b, c, h⟩
theorem sp_dictK {keys : List (Option Expr)} {values : List Expr} {pos : Pos} {post : Value → Heap → Led → Prop} (hall : keys.all (·.isSome) = true) (hl : keys.length = values.length) (h0 : keys ≠ []) (hlen : keys.length ≤ 15)
    (h : ∀ d, (d == sysModules) = false → Sp w n (evalPairs (pairTrees keys values env pos)) g ((d, Dic w []) :: N) (DKs w d post)) : Sp w n (eval (.Dict keys values pos) env) g N post :=
  sp_dict hall hl h0 hlen fun d hd => sp_mono (h d hd) fun vs g' N' _ ⟨kvs, N'', a, b, c, p⟩ => ⟨kvs, N'', a.carries, by rw [merged_new b (by simp)]; exact c, p⟩
noncomputable def DKi (w : World) (d : Addr) (post : Value → Heap → Led → Prop) (vs : List (Value × Value)) (g : Heap) (N : Led) : Prop := ∃ kvs N'', KvsI vs kvs ∧ nodupB (kvs.map (·.1)) = true ∧ Chg d (DicI w []) (DicI w kvs) N N'' ∧ post (.ref d) g N''
theorem dki {d : Addr} {post : Value → Heap → Led → Prop} {vs : List (Value × Value)} {kvs : List (Int × Value)} {N'' : Led} (a : KvsI vs kvs) (b : nodupB (kvs.map (·.1)) = true) (c : Chg d (DicI w []) (DicI w kvs) N N'') (h : post (.ref d) g N'') : DKi w d post vs g N := ⟨kvs, N'', a, b, c, h⟩
theorem sp_dictKi {keys : List (Option Expr)} {values : List Expr} {pos : Pos} {post : Value → Heap → Led → Prop} (hall : keys.all (·.isSome) = true) (hl : keys.length = values.length) (h0 : keys ≠ []) (hlen : keys.length ≤ 15)
    (h : ∀ d, (d == sysModules) = false → Sp w n (evalPairs (pairTrees keys values env pos)) g ((d, DicI w []) :: N) (DKi w d post)) : Sp w n (eval (.Dict keys values pos) env) g N post :=
  sp_dictI hall hl h0 hlen fun d hd => sp_mono (h d hd) fun vs g' N' _ ⟨kvs, N'', a, b, c, p⟩ => ⟨kvs, N'', a.carries, by rw [merged_new b (by simp)]; exact c, p⟩
theorem sp_getDK {value slice : Expr} {d : Addr} {kvs : List (Str × Value)} {x : Str} {t : Tok} {v : Value} {post : Value → Heap → Led → Prop} (hd : Has g N d (Dic w kvs)) (hv : VAt kvs x v)
    (hs : subscripted slice false (.ref d) (.str x t) = operate [.ref d, .str x t] (getItem (.ref d) (.str x t))) (h : post v g N) : Sp w n (subscriptTail value slice (.ref d) (.str x t)) g N post := sp_getD hd hv.at hs h
theorem sp_setDK {d : Addr} {kvs kvs' : List (Str × Value)} {x : Str} {t : Tok} {v : Value} {N' : Led} {post : Unit → Heap → Led → Prop} (hh : Has g N d (Dic w kvs)) (hk : noKey x (kvs.map (·.1)) = true) (ha : App kvs [(x, v)] kvs') (hd : Chg d (Dic w kvs) (Dic w kvs') N N') (hz : kvs.length ≤ 1000) (h : post () g N') : Sp w n (setItem (.ref d) (.str x t) v) g N post := by
  have := ha.eq
  subst this
  exact sp_setD (by rw [stored_new (noKey_spec hk)]; exact hd) hz h
theorem sp_updateK {d b : Addr} {kvs more all : List (Str × Value)} {N' : Led} {post : Value → Heap → Led → Prop} (hh : Has g N d (Dic w kvs)) (hm : (b == sysModules) = false) (hb : Has g N b (Dic w more)) (hne : d ≠ b) (hn : nodupB (more.map (·.1)) = true) (hk : (more.all fun p => noKey p.1 (kvs.map (·.1))) = true) (ha : App kvs more all) (hd : Chg d (Dic w kvs) (Dic w all) N N') (hz : kvs.length + more.length ≤ 1000) (h : post .none g N') : Sp w n (call (.builtin "dict.update") [.ref d, .ref b]) g N post := by
  have := ha.eq
  subst this
  exact sp_update hm hne (by rw [merged_new hn fun p hp => noKey_spec (List.all_eq_true.mp hk p hp)]; exact hd) hb hz h
theorem sp_good {α : Type} {t : Sem α} {post : α → Heap → Led → Prop} (h : Good w g → Sp w n t g N post) : Sp w n t g N post := fun A s Q hA hs k => h hs.good A s Q hA hs k
/-- two entries of the ledger lie apart -/
theorem sp_apart {α : Type} {t : Sem α} {a b : Addr} {P P' : AP} {R : Led} {post : α → Heap → Led → Prop} (h : a ≠ b → Sp w n t g ((a, P) :: (b, P') :: R) post) : Sp w n t g ((a, P) :: (b, P') :: R) post := fun A s Q hA hs k => h (by
  have nd := hs.nd
  rw [List.map_cons, List.map_cons, List.nodup_cons] at nd
  intro e
  exact nd.1 (by rw [show (a, P).1 = b from e]; exact List.mem_cons_self)) A s Q hA hs k
theorem good_tup {a : Addr} {vs : List Value} (hG : Good w g) (h : (hd0.heap_1 w.params).lookup a = some { cls := .type "tuple", data := .seq vs.toArray }) : AtG g a (IsTupl vs) := ⟨_, hG.k a _ h, rfl⟩
end
section
variable {w : World} {n : Nat} {g : Heap} {N : Led} {env : Env}
theorem sp_dictKs {x : Str} {c : Nat} {p : Pos} {ks : List (Option Expr)} {values : List Expr} {pos : Pos} {post : Value → Heap → Led → Prop} (hall : (some (Expr.Constant (.str x) c p) :: ks).all (·.isSome) = true) (hl : (some (Expr.Constant (.str x) c p) :: ks).length = values.length) (hlen : (some (Expr.Constant (.str x) c p) :: ks).length ≤ 15)
    (h : ∀ d, (d == sysModules) = false → Sp w n (evalPairs (pairTrees (some (Expr.Constant (.str x) c p) :: ks) values env pos)) g ((d, Dic w []) :: N) (DKs w d post)) : Sp w n (eval (.Dict (some (Expr.Constant (.str x) c p) :: ks) values pos) env) g N post := sp_dictK hall hl (by simp) hlen h
end
-- rows for them
local macro_rules | `(tactic| kfm_hd) => `(tactic| first | exact VAt.here | (refine' VAt.there ?va ?vb; (case va => decide +kernel); (case vb => kfm_hd)))
local macro_rules | `(tactic| kfm_cat1) => `(tactic| first | exact App.nil | (refine' App.cons ?va; (case va => kfm_cat1)))
local macro_rules | `(tactic| kfm_run) => `(tactic| first | exact KvsOf.nil | (refine' KvsOf.cons ?va; (case va => kfm_run)) | exact KvsI.nil | (refine' KvsI.cons ?va; (case va => kfm_run)))

-- assigning to two or three targets
section
variable {w : World} {n : Nat} {g : Heap} {N : Led} {env : Env}
noncomputable abbrev sp_assignS2_k1 (post : Flow → Heap → Led → Prop) := fun (_ : Unit) (g : Heap) (N : Led) => post .next g N
noncomputable abbrev sp_assignS2_k2 (w : World) (n : Nat) (env : Env) (n1 : Str) (a) (post : Flow → Heap → Led → Prop) := fun (_ : Unit) (g : Heap) (N : Led) => Sp w n (storeName env n1 a) g N (sp_assignS2_k1 post)
noncomputable abbrev sp_assignS2_k3 (w : World) (n : Nat) (env : Env) (n2 : Str) (n1 : Str) (post : Flow → Heap → Led → Prop) := fun (v : Value) (g : Heap) (N : Led) => ∃ t a b, v = .ref t ∧ AtG g t (IsTupl [a, b]) ∧ Sp w n (storeName env n2 b) g N (sp_assignS2_k2 w n env n1 a post)
theorem sp_assignS2 {elts : List Expr} {k : Nat} {tp p : Pos} {value : Expr} {n1 n2 : Str} {post : Flow → Heap → Led → Prop} (hs : swapsWithSole [.Tuple elts k tp] value p.line env = pure false) (hw : swappedStores [.Tuple elts k tp] value env = pure (some [n1, n2]))
    (h : Sp w n (eval value env) g N (sp_assignS2_k3 w n env n2 n1 post)) : Sp w n (exec (.Assign [.Tuple elts k tp] value p) env) g N post :=
  sp_assignS hs hw (sp_mono h fun v g' N' _ ⟨t, a, b, e, ht, z⟩ => ⟨t, [a, b], e, ht.has, rfl, sp_asCons (sp_bind1 (sp_mono z fun _ _ _ _ z => sp_asCons (sp_bind1 (sp_mono z fun _ _ _ _ z => sp_asNil z))))⟩)
noncomputable abbrev sp_assignS3_k1 (post : Flow → Heap → Led → Prop) := fun (_ : Unit) (g : Heap) (N : Led) => post .next g N
noncomputable abbrev sp_assignS3_k2 (w : World) (n : Nat) (env : Env) (n1 : Str) (a) (post : Flow → Heap → Led → Prop) := fun (_ : Unit) (g : Heap) (N : Led) => Sp w n (storeName env n1 a) g N (sp_assignS3_k1 post)
noncomputable abbrev sp_assignS3_k3 (w : World) (n : Nat) (env : Env) (n2 : Str) (b) (n1 : Str) (a) (post : Flow → Heap → Led → Prop) := fun (_ : Unit) (g : Heap) (N : Led) => Sp w n (storeName env n2 b) g N (sp_assignS3_k2 w n env n1 a post)
noncomputable abbrev sp_assignS3_k4 (w : World) (n : Nat) (env : Env) (n3 : Str) (n2 : Str) (n1 : Str) (post : Flow → Heap → Led → Prop) := fun (v : Value) (g : Heap) (N : Led) => ∃ t a b c, v = .ref t ∧ AtG g t (IsTupl [a, b, c]) ∧ Sp w n (storeName env n3 c) g N (sp_assignS3_k3 w n env n2 b n1 a post)
theorem sp_assignS3 {elts : List Expr} {k : Nat} {tp p : Pos} {value : Expr} {n1 n2 n3 : Str} {post : Flow → Heap → Led → Prop} (hs : swapsWithSole [.Tuple elts k tp] value p.line env = pure false) (hw : swappedStores [.Tuple elts k tp] value env = pure (some [n1, n2, n3]))
    (h : Sp w n (eval value env) g N (sp_assignS3_k4 w n env n3 n2 n1 post)) : Sp w n (exec (.Assign [.Tuple elts k tp] value p) env) g N post :=
  sp_assignS hs hw (sp_mono h fun v g' N' _ ⟨t, a, b, c, e, ht, z⟩ => ⟨t, [a, b, c], e, ht.has, rfl, sp_asCons (sp_bind1 (sp_mono z fun _ _ _ _ z => sp_asCons (sp_bind1 (sp_mono z fun _ _ _ _ z => sp_asCons (sp_bind1 (sp_mono z fun _ _ _ _ z => sp_asNil z))))))⟩)
theorem ex2 {post : Value → Value → Addr → Prop} {d : Addr} {a b : Value} (ht : AtG g d (IsTupl [a, b])) (h : post a b d) : ∃ t a b, Value.ref d = .ref t ∧ AtG g t (IsTupl [a, b]) ∧ post a b t := ⟨d, a, b, rfl, ht, h⟩
theorem ex3 {post : Value → Value → Value → Addr → Prop} {d : Addr} {a b c : Value} (ht : AtG g d (IsTupl [a, b, c])) (h : post a b c d) : ∃ t a b c, Value.ref d = .ref t ∧ AtG g t (IsTupl [a, b, c]) ∧ post a b c t := ⟨d, a, b, c, rfl, ht, h⟩
noncomputable abbrev sp_as2_k1 (post : Unit → Heap → Led → Prop) := fun (_ : Unit) (g : Heap) (N : Led) => post () g N
noncomputable abbrev sp_as2_k2 (w : World) (n : Nat) (e2 : Expr) (env : Env) (b : Value) (post : Unit → Heap → Led → Prop) := fun (_ : Unit) (g : Heap) (N : Led) => Sp w n (assign e2 env b) g N (sp_as2_k1 post)
theorem sp_as2 {e1 e2 : Expr} {k : Nat} {p : Pos} {t : Addr} {a b : Value} {post : Unit → Heap → Led → Prop} (ht : Has g N t (IsTupl [a, b])) (he : (assignEach [e1, e2] env).map (·.2) = [assign e1 env, assign e2 env]) (hst : (assignEach [e1, e2] env).findIdx? (·.1) = none)
    (h : Sp w n (assign e1 env a) g N (sp_as2_k2 w n e2 env b post)) : Sp w n (assign (.Tuple [e1, e2] k p) env (.ref t)) g N post :=
  sp_asTuple ht (by have := congrArg List.length he; simpa using this) hst (by rw [he]; exact sp_asCons (sp_mono h fun _ _ _ _ z => sp_asCons (sp_mono z fun _ _ _ _ z => sp_asNil z)))
noncomputable abbrev sp_as3_k1 (post : Unit → Heap → Led → Prop) := fun (_ : Unit) (g : Heap) (N : Led) => post () g N
noncomputable abbrev sp_as3_k2 (w : World) (n : Nat) (e3 : Expr) (env : Env) (c : Value) (post : Unit → Heap → Led → Prop) := fun (_ : Unit) (g : Heap) (N : Led) => Sp w n (assign e3 env c) g N (sp_as3_k1 post)
noncomputable abbrev sp_as3_k3 (w : World) (n : Nat) (e2 : Expr) (env : Env) (b : Value) (e3 : Expr) (c : Value) (post : Unit → Heap → Led → Prop) := fun (_ : Unit) (g : Heap) (N : Led) => Sp w n (assign e2 env b) g N (sp_as3_k2 w n e3 env c post)
theorem sp_as3 {e1 e2 e3 : Expr} {k : Nat} {p : Pos} {t : Addr} {a b c : Value} {post : Unit → Heap → Led → Prop} (ht : Has g N t (IsTupl [a, b, c])) (he : (assignEach [e1, e2, e3] env).map (·.2) = [assign e1 env, assign e2 env, assign e3 env]) (hst : (assignEach [e1, e2, e3] env).findIdx? (·.1) = none)
    (h : Sp w n (assign e1 env a) g N (sp_as3_k3 w n e2 env b e3 c post)) : Sp w n (assign (.Tuple [e1, e2, e3] k p) env (.ref t)) g N post :=
  sp_asTuple ht (by have := congrArg List.length he; simpa using this) hst (by rw [he]; exact sp_asCons (sp_mono h fun _ _ _ _ z => sp_asCons (sp_mono z fun _ _ _ _ z => sp_asCons (sp_mono z fun _ _ _ _ z => sp_asNil z))))
theorem frz_in {P : AP} {post : Value → Heap → Led → Prop} {q : Prop} (hq : q) (h : ∀ g' d, Le g g' → AtG g' d P → post (.ref d) g' N) : q ∧ Frz P g N post := ⟨hq, h⟩
end
-- a token without a binder: the walk keeps its depth
section
variable {w : World} {n : Nat} {g : Heap} {N : Led} {env : Env}
@[irreducible] noncomputable def tkI (i : Int) (g : Heap) (N : Led) (post : Value → Heap → Led → Prop) : Tok := Classical.epsilon fun t => ¬ post (.int i t) g N
@[irreducible] noncomputable def tkS (x : Str) (g : Heap) (N : Led) (post : Value → Heap → Led → Prop) : Tok := Classical.epsilon fun t => ¬ post (.str x t) g N
theorem eps_all {P : Tok → Prop} (h : P (Classical.epsilon fun t => ¬ P t)) : ∀ t, P t := fun t => Classical.byContradiction fun z => (Classical.epsilon_spec (p := fun t => ¬ P t) ⟨t, z⟩) h
theorem allI {i : Int} {post : Value → Heap → Led → Prop} (h : post (.int i (tkI i g N post)) g N) : ∀ t, post (.int i t) g N := eps_all (P := fun t => post (.int i t) g N) (by unfold tkI at h; exact h)
theorem allS {x : Str} {post : Value → Heap → Led → Prop} (h : post (.str x (tkS x g N post)) g N) : ∀ t, post (.str x t) g N := eps_all (P := fun t => post (.str x t) g N) (by unfold tkS at h; exact h)
theorem sp_intB {i : Int} {c : Nat} {p : Pos} {post : Value → Heap → Led → Prop} (h : post (.int i (tkI i g N post)) g N) : Sp w n (eval (.Constant (.int i) c p) env) g N post := sp_int  (allI h)
theorem sp_strB {x : Str} {c : Nat} {p : Pos} {post : Value → Heap → Led → Prop} (h : post (.str x (tkS x g N post)) g N) : Sp w n (eval (.Constant (.str x) c p) env) g N post := sp_str  (allS h)
theorem sp_addB {a b : Int} {t u : Tok} {post : Value → Heap → Led → Prop} (h : post (.int (a + b) (tkI (a + b) g N post)) g N) : Sp w n (binaryOp .Add (.int a t) (.int b u)) g N post := sp_add  (allI h)
theorem sp_minusB {a b : Int} {t u : Tok} {post : Value → Heap → Led → Prop} (h : post (.int (a - b) (tkI (a - b) g N post)) g N) : Sp w n (binaryOp .Sub (.int a t) (.int b u)) g N post := sp_minus  (allI h)
theorem sp_mulB {a b : Int} {t u : Tok} {post : Value → Heap → Led → Prop} (hm : (-(2 ^ 64) < a ∧ a < 2 ^ 64) ∨ (-(2 ^ 64) < b ∧ b < 2 ^ 64)) (h : post (.int (a * b) (tkI (a * b) g N post)) g N) : Sp w n (binaryOp .Mult (.int a t) (.int b u)) g N post := sp_mul hm (allI h)
theorem sp_modB {a b : Int} {t u : Tok} {post : Value → Heap → Led → Prop} (hb : 0 < b) (h : post (.int (a % b) (tkI (a % b) g N post)) g N) : Sp w n (binaryOp .Mod (.int a t) (.int b u)) g N post := sp_mod hb (allI h)
theorem sp_fdivB {a b : Int} {t u : Tok} {post : Value → Heap → Led → Prop} (hb : 0 < b) (hd : b < 1073741824) (h : post (.int (a / b) (tkI (a / b) g N post)) g N) : Sp w n (binaryOp .FloorDiv (.int a t) (.int b u)) g N post := sp_fdiv hb hd (allI h)
theorem sp_negIB {a : Int} {t : Tok} {post : Value → Heap → Led → Prop} (h : post (.int (-a) (tkI (-a) g N post)) g N) : Sp w n (unaryOp .USub (.int a t)) g N post := sp_negI  (allI h)
theorem sp_addSB {x y : Str} {t u : Tok} {post : Value → Heap → Led → Prop} (hz : x.length + y.length ≤ sizeLine) (h : post (.str (x ++ y) (tkS (x ++ y) g N post)) g N) : Sp w n (binaryOp .Add (.str x t) (.str y u)) g N post := sp_addS hz (allS h)
theorem sp_mulSB {x : Str} {i : Int} {t u : Tok} {post : Value → Heap → Led → Prop} (h1 : x.length ≤ 1000) (h2 : i ≤ 10000) (h3 : -(2 ^ 60) ≤ i) (h : post (.str (Txt.mul x i) (tkS (Txt.mul x i) g N post)) g N) : Sp w n (binaryOp .Mult (.str x t) (.int i u)) g N post := sp_mulS h1 h2 h3 (allS h)
theorem sp_itemSB {value slice : Expr} {x : Str} {i : Int} {c : Nat} {t u : Tok} {post : Value → Heap → Led → Prop} (h0 : 0 ≤ i) (hhi : i < 2 ^ 63) (hc : x.cps[i.toNat]? = some c) (hs : subscripted slice false (.str x t) (.int i u) = operate [.str x t, .int i u] (getItem (.str x t) (.int i u))) (h : post (.str ⟨#[c]⟩ (tkS ⟨#[c]⟩ g N post)) g N) : Sp w n (subscriptTail value slice (.str x t) (.int i u)) g N post := sp_itemS h0 hhi hc hs (allS h)
theorem sp_lenSB {x : Str} {t : Tok} {post : Value → Heap → Led → Prop} (hz : x.length ≤ sizeLine) (h : post (.int x.length (tkI x.length g N post)) g N) : Sp w n (call (.builtin "len") [.str x t]) g N post := sp_lenS hz (allI h)
theorem sp_lenB {l : Addr} {vs : List Value} {post : Value → Heap → Led → Prop} (hl : Has g N l (IsLst vs)) (hz : vs.length < 2 ^ 63) (h : post (.int vs.length (tkI vs.length g N post)) g N) : Sp w n (call (.builtin "len") [.ref l]) g N post := sp_len hl hz (allI h)
theorem sp_lenTB {l : Addr} {vs : List Value} {post : Value → Heap → Led → Prop} (hl : AtG g l (IsTupl vs)) (hz : vs.length < 2 ^ 60) (h : post (.int vs.length (tkI vs.length g N post)) g N) : Sp w n (call (.builtin "len") [.ref l]) g N post := sp_lenT hl hz (allI h)
theorem sp_strIB {i : Int} {t : Tok} {post : Value → Heap → Led → Prop} (hz : i.natAbs < 2 ^ 62) (h : post (.str (Str.ofString (toString i)) (tkS (Str.ofString (toString i)) g N post)) g N) : Sp w n (call (.type "str") [.int i t]) g N post := sp_strI hz (allS h)
theorem sp_maxB {i j : Int} {t u : Tok} {post : Value → Heap → Led → Prop} (h : post (.int (max i j) (tkI (max i j) g N post)) g N) : Sp w n (call (.builtin "max") [.int i t, .int j u]) g N post := sp_max  (allI h)
theorem sp_minB {i j : Int} {t u : Tok} {post : Value → Heap → Led → Prop} (h : post (.int (min i j) (tkI (min i j) g N post)) g N) : Sp w n (call (.builtin "min") [.int i t, .int j u]) g N post := sp_min  (allI h)
theorem sp_ordB {c : Nat} {t : Tok} {post : Value → Heap → Led → Prop} (h : post (.int c (tkI c g N post)) g N) : Sp w n (call (.builtin "ord") [.str ⟨#[c]⟩ t]) g N post := sp_ord  (allI h)
theorem sp_absB {i : Int} {t : Tok} {post : Value → Heap → Led → Prop} (h : post (.int (if i < 0 then -i else i) (tkI (if i < 0 then -i else i) g N post)) g N) : Sp w n (call (.builtin "abs") [.int i t]) g N post := sp_abs  (allI h)
theorem sp_partEndB {out : Str} {post : Value → Heap → Led → Prop} (hz : out.length ≤ sizeLine) (h : post (.str out (tkS out g N post)) g N) : Sp w n (joinParts out (evalEach [] env)) g N post := sp_partEnd hz (allS h)
theorem sp_fieldIB {i : Int} {t : Tok} {post : Value → Heap → Led → Prop} (hz : i.natAbs < 2 ^ 62) (h : post (.str (Str.ofString (toString i)) (tkS (Str.ofString (toString i)) g N post)) g N) : Sp w n (formatField (.int i t) Str.empty) g N post := sp_fieldI hz (allS h)
theorem sp_fieldSB {x : Str} {t : Tok} {post : Value → Heap → Led → Prop} (hz : x.length ≤ sizeLine) (h : post (.str x (tkS x g N post)) g N) : Sp w n (formatField (.str x t) Str.empty) g N post := sp_fieldS hz (allS h)
end
-- the rows, sorted by what stands ahead
section
variable {w : World} {n : Nat} {g : Heap} {N : Led} {env : Env}
noncomputable abbrev sp_tName_k1 (w : World) (n : Nat) (post : Bool → Heap → Led → Prop) := fun v (g : Heap) (N : Led) => Sp w n (truthy v) g N post
theorem sp_tName {x : Str} {p : Pos} {whole : Sem Value} {post : Bool → Heap → Led → Prop} (h : Sp w n whole g N (sp_tName_k1 w n post)) : Sp w n (isTrue (.Name x p) env whole) g N post := sp_tplain rfl h
noncomputable abbrev sp_tAttr_k1 (w : World) (n : Nat) (post : Bool → Heap → Led → Prop) := fun v (g : Heap) (N : Led) => Sp w n (truthy v) g N post
theorem sp_tAttr {o : Expr} {x : Str} {p : Pos} {whole : Sem Value} {post : Bool → Heap → Led → Prop} (h : Sp w n whole g N (sp_tAttr_k1 w n post)) : Sp w n (isTrue (.Attribute o x p) env whole) g N post := sp_tplain rfl h
noncomputable abbrev sp_tCall_k1 (w : World) (n : Nat) (post : Bool → Heap → Led → Prop) := fun v (g : Heap) (N : Led) => Sp w n (truthy v) g N post
theorem sp_tCall {f : Expr} {as : List Expr} {ks : List Keyword} {p : Pos} {whole : Sem Value} {post : Bool → Heap → Led → Prop} (h : Sp w n whole g N (sp_tCall_k1 w n post)) : Sp w n (isTrue (.Call f as ks p) env whole) g N post := sp_tplain rfl h
theorem nr_in {v : Value} {q : Prop} (hq : noRef v = true) (h : q) : noRef v = true ∧ q := ⟨hq, h⟩
end
local macro_rules | `(tactic| kl_room) => `(tactic| first
  | (with_reducible refine' sp_lenSB ?z ?h); (case z => kpt_len)
  | (with_reducible refine' sp_lenB ?hl ?hz ?h); (case hl => k_clsL); (case hz => kpt_len)
  | (with_reducible refine' sp_lenTB ?a ?z ?h); (case a => kpc_g); (case z => kpt_len)
  | (with_reducible refine' sp_strIB ?z ?h); (case z => kpt_len)
  | (with_reducible refine' sp_maxB ?h)
  | (with_reducible refine' sp_minB ?h)
  | (with_reducible refine' sp_ordB ?h)
  | (with_reducible refine' sp_absB ?h)
  | (with_reducible refine' sp_append ?a ?z ?h); (case a => kbo_bools); (case z => kpt_len)
  | (with_reducible refine' sp_range ?h); intro _
  | (with_reducible refine' sp_listT ?a ?z ?h); (case a => kpc_g); (case z => kpt_len); intro _
  | (with_reducible refine' sp_tupleL ?a ?z ?h); (case a => k_clsL); (case z => kpt_len); intro _ _ _ _)
local macro_rules | `(tactic| ksl_some) => `(tactic| first
  | (with_reducible refine' sp_itemT ?a ?b ?c ?d ?e ?h); (case a => kpc_g); (case b => kpt_len); (case c => first | exact rfl | assumption); (case d => kpt_len); (case e => rfl)
  | (with_reducible refine' sp_item ?hl ?h0 ?hx ?hhi ?hs ?h); (case hl => k_clsL); (case h0 => kpt_len); (case hx => first | exact rfl | assumption); (case hhi => kpt_len); (case hs => rfl)
  | (with_reducible refine' sp_itemSB ?a ?b ?c ?d ?h); (case a | b => kpt_len); (case c => first | exact rfl | assumption); (case d => rfl)
  | (with_reducible refine' sp_getDK ?a ?b ?c ?h); (case a => k_clsL); (case b => kfm_hd); (case c => rfl)
  | (with_reducible refine' sp_sliceT ?a ?b ?c ?d ?e ?f ?g ?h); (case a => kpc_g); (case b => k_clsL); (case c => rfl); (case d | e | f => kpt_len); (case g => rfl); intro _ _ _ _)
local macro_rules | `(tactic| kfm_num) => `(tactic| first
  | (with_reducible refine' sp_local ?m ?x ?k ?l ?d ?h); (case m => kcf_m); (case x => kat_tups); (case k => rfl); (case l | d => kernel_rfl)
  | (with_reducible first | refine' sp_intB ?_ | refine' sp_strB ?_ | refine' sp_callN ?_)
  | (with_reducible refine' sp_global ?e ?g ?k ?l ?d ?h); (case e => k_is); (case g | k => rfl); (case l | d => kernel_rfl)
  | (with_reducible refine' sp_builtin ?e ?hv ?ne ?g ?b ?k ?l ?d ?h); (case e => k_is); (case hv => with_reducible first | exact PyProof.Rows.Boot.«len» | exact PyProof.Rows.Boot.«abs» | exact PyProof.Rows.Boot.«sum» | exact PyProof.Rows.Boot.«max» | exact PyProof.Rows.Boot.«min» | exact PyProof.Rows.Boot.«ord» | exact PyProof.Rows.Boot.«isinstance» | exact PyProof.Rows.Boot.«str» | exact PyProof.Rows.Boot.«int» | exact PyProof.Rows.Boot.«tuple» | exact PyProof.Rows.Boot.«list» | exact PyProof.Rows.Boot.«zip» | exact PyProof.Rows.Boot.«range» | exact PyProof.Rows.Boot.«enumerate»); (case ne => kernel_rfl); (case g | b | k => rfl); (case l | d => kernel_rfl)
  | (with_reducible refine' sp_cellv ?c ?m ?k ?l ?d ?h); (case l | c => rfl); (case m => k_clsL); (case k => rfl); (case d => kernel_rfl)
  | (with_reducible first | refine' sp_attribute rfl ?_ | refine' sp_sub ?_ | refine' sp_binop ?_ | refine' sp_compare rfl ?_ | refine' sp_callM rfl rfl (by decide) rfl ?_ | refine' sp_ifexp ?_ | refine' sp_bool ?_ | refine' sp_none ?_ | refine' sp_and ?_ | refine' sp_bool1 ?_ | refine' sp_unary ?_ | refine' sp_tupleF ?_ | refine' sp_list ?_ | refine' sp_slice ?h)
  | (with_reducible refine' sp_dictKs rfl rfl (by decide) ?h); intro _ _
  | (with_reducible refine' sp_dict0 ?h); intro _ _
  | (with_reducible first | refine' sp_jstr ?_ | refine' sp_jstr1 ?_ | refine' sp_fmt ?_ | refine' sp_fmtSpec ?_))
local macro_rules | `(tactic| kl_no) => `(tactic| first
  | ((with_reducible show Sp _ _ (execs _ _) _ _ _); first
    | (with_reducible first | refine' sp_cons ?_ | refine' sp_nil ?_))
  | ((with_reducible show Sp _ _ (exec _ _) _ _ _); first
    | (with_reducible first | refine' sp_assign rfl ?_ | refine' sp_if ?_ | refine' sp_ret ?_ | refine' sp_assignSub rfl ?_ | refine' sp_assignAttr rfl ?_ | refine' sp_expr rfl rfl ?_ | refine' sp_assignS2 rfl rfl ?_ | refine' sp_assignS3 rfl rfl ?_ | refine' sp_assignT rfl rfl ?_))
  | ((with_reducible show Sp _ _ (isTrue _ _ _) _ _ _); first
    | (with_reducible first | refine' sp_tcompare rfl ?_ | refine' sp_tand ?_ | refine' sp_tand0 ?_ | refine' sp_tName ?_ | refine' sp_tAttr ?_ | refine' sp_tCall ?_ | refine' sp_tor ?_ | refine' sp_tor0 ?_))
  | ((with_reducible show Sp _ _ (callWith _ _ _ _ _) _ _ _); first
    | (with_reducible refine' sp_cwK rfl ?k ?_); (case k => k_is)
    | (with_reducible first | refine' sp_cwB rfl ?_ | refine' sp_cwT rfl ?_)
    | (with_reducible refine' sp_pop ?a ?z ?h); (case a => kbo_bools); (case z => kpt_len)
    | with_reducible refine' sp_cwB1 rfl ?_
    | (with_reducible refine' sp_cwK1 rfl ?k ?_); (case k => k_is))
  | ((with_reducible show Sp _ _ (spliced _) _ _ _); first
    | (with_reducible first | refine' sp_args rfl ?_ | refine sp_args0 ?_))
  | ((with_reducible show Sp _ _ (binaryOp _ _ _) _ _ _); first
    | (with_reducible first | refine' sp_addB ?_ | refine' sp_minusB ?_)
    | (with_reducible refine' sp_addSB ?z ?h); (case z => kpt_len)
    | (with_reducible first | refine' sp_mulB (by first | exact Or.inl ⟨by decide, by decide⟩ | exact Or.inr ⟨by decide, by decide⟩ | omega) ?_ | refine' sp_modB (by first | decide | omega) ?_)
    | (with_reducible refine' sp_fdivB ?a ?b ?h); (case a | b => kpt_len)
    | (with_reducible refine' sp_mulSB ?z ?y ?x ?h); (case z | y | x => kpt_len)
    | (with_reducible refine' sp_addT ?a ?b ?z ?h); (case a | b => kpc_g); (case z => kpt_len); intro _ _ _ _
    | (with_reducible refine' sp_addL ?a ?b ?z ?h); (case a | b => k_clsL); (case z => kpt_len); intro _
    | (with_reducible refine' sp_mulT ?a ?b ?z ?h); (case a => kpc_g); (case b | z => kpt_len); intro _ _ _ _
    | (with_reducible refine' sp_mulL ?a ?b ?z ?h); (case a => k_clsL); (case b | z => kpt_len); intro _)
  | ((with_reducible show Sp _ _ (compareOp _ _ _) _ _ _); first
    | (with_reducible first | refine' sp_eqS ?_ | refine' sp_lt ?_ | refine' sp_le ?_ | refine' sp_gt ?_ | refine' sp_ge ?_ | refine' sp_eq ?_ | refine' sp_neS ?_ | refine' sp_inS ?_ | refine' sp_isnotN ?_)
    | (with_reducible refine' sp_neNil ?a ?b ?h); (case a | b => k_clsL)
    | (with_reducible refine' sp_eqT0 ?a ?b ?h); (case a | b => kpc_g))
  | ((with_reducible show Sp _ _ _ _ _ _); first
    | (with_reducible refine' sp_store ?x ?c ?l ?k ?h); (case c => kbo_bools); (case x => kct_strs); (case l => kernel_rfl); (case k => rfl)
    | (with_reducible refine' sp_storeC ?x ?c ?l ?k ?h); (case l | x => rfl); (case c => kbo_bools); (case k => rfl)
    | (with_reducible refine' sp_getattr ?x ?d ?l ?g ?h ?a ?n ?v ?z); (case x | d => k_clsL); (case l => kat_tups); (case g | h | a | n => k_is); (case v => rfl)
    | (with_reducible refine' sp_setattr ?x ?c ?l ?a ?b ?d ?e ?h); (case x => k_clsL); (case c => kbo_bools); (case l => kct_strs); (case a | b | d | e => k_is)
    | (with_reducible refine' sp_mAppend ?a ?h); (case a => k_clsL)
    | (with_reducible refine' sp_mPop ?a ?h); (case a => k_clsL)
    | (with_reducible refine' sp_mExtend ?a ?h); (case a => k_clsL)
    | (with_reducible refine' sp_mGet ?a ?h); (case a => k_clsL)
    | (with_reducible refine' sp_mUpdate ?a ?h); (case a => k_clsL)
    | with_reducible refine' sp_mStr ?_
    | (with_reducible refine' sp_method ?x ?d ?g ?f ?t ?l ?h); (case x | d => k_clsL); (case g | f | t => k_is); (case l => kernel_rfl)
    | (with_reducible refine' sp_setItem ?hl ?hk ?hs ?hhi ?h); (case hl => kbo_bools); (case hk => exact rfl); (case hs => kln_le); (case hhi => decide)
    | (with_reducible refine' sp_setDK ?a ?b ?c ?d ?e ?h); (case a => k_clsL); (case b => rfl); (case c => kfm_cat1); (case d => kbo_bools); (case e => first | exact Nat.le_of_ble_eq_true rfl | kpt_len)
    | (with_reducible first | refine' sp_truthB ?_ | refine' sp_notB ?_ | refine' sp_negIB ?_ | refine' sp_partN ?_ | refine' sp_partS ?_ | refine' sp_pairs ?_ | refine' sp_pairs0 ?_ | refine' sp_part ?_)
    | (with_reducible refine' sp_partEndB ?z ?h); (case z => kpt_len)
    | (with_reducible refine' sp_fieldIB ?z ?h); (case z => kpt_len)
    | (with_reducible refine' sp_fieldSB ?z ?h); (case z => kpt_len)
    | with_reducible refine' sp_asName ?_
    | (with_reducible refine' sp_as2 ?a ?b ?c ?h); (case a => k_clsL); (case b | c => rfl)
    | (with_reducible refine' sp_as3 ?a ?b ?c ?h); (case a => k_clsL); (case b | c => rfl))
  | (with_reducible first | refine' seqK_next ?_ | refine' seqK_ret ?_ | refine' seqK_cont ?_ | refine' boolEx rfl ?_)
  | ((with_reducible refine branch ?_ ?_) <;> intro hb <;> try (exfalso; first | exact absurd hb (by decide +kernel) | exact absurd (by decide +kernel) hb))
  | (with_reducible first | refine branchT ?_ | refine branchF ?_)
  | ((with_reducible refine branchB ?_ ?_) <;> intro hb <;> try (exfalso; exact absurd hb (by decide +kernel)))
  | (with_reducible refine' strEx2 rfl ?z ?h); (case z => kpt_len)
  | with_reducible refine' strEx rfl ?_
  | (with_reducible refine' ex2 ?a ?h); (case a => kpc_g)
  | (with_reducible refine' ex3 ?a ?h); (case a => kpc_g)
  | (with_reducible refine' frz_in ?q ?h); (case q => kpt_len); intro _ _ _ _
  | with_reducible refine' nr_in rfl ?_
  | (with_reducible refine' dks ?a ?b ?c ?h); (case a => kfm_run); (case b => kernel_rfl); (case c => kbo_bools)
  | (with_reducible refine' dki ?a ?b ?c ?h); (case a => kfm_run); (case b => kernel_rfl); (case c => kbo_bools)
  | (with_reducible refine' And.intro ?q (fun _ => ?h)); (case q => kpt_len)
  | fail "end")
local macro_rules | `(tactic| lge_here) => `(tactic| first
  | ((with_reducible show Sp _ _ (eval _ _) _ _ _); kfm_num)
  | ((with_reducible show Sp _ _ (call _ _ _) _ _ _); kl_room)
  | ((with_reducible show Sp _ _ (subscriptTail _ _ _ _) _ _ _); ksl_some)
  | kl_no)


-- modefacts
structure FOk (F : FD) : Prop where
  s0 : 0 ≤ F.size
  s1 : F.size ≤ 3000000
  t0 : 1 ≤ F.top
  t1 : F.top ≤ 1 + F.size
  b0 : 1 ≤ F.bottom
  b1 : F.bottom ≤ 1 + F.size
  l0 : 0 ≤ F.line
  l1 : F.line ≤ 1000
  c0 : 0 ≤ F.column
  c1 : F.column ≤ 1000
  d0 : 0 ≤ F.deep
  d1 : F.deep ≤ 100
  n1 : F.name.length ≤ 100
  f1 : F.file.length ≤ 100
noncomputable def pctF (part whole : Int) : Str := Str.empty ++ two (min 99 (100 * part / whole)) ++ Str.ofString "%"
theorem two_len : ∀ a : Fin 100, (two (a.1 : Int)).length = 2 := by decide +kernel
theorem two_len' {a : Int} (h0 : 0 ≤ a) (h1 : a < 100) : (two a).length = 2 := by
  have := two_len ⟨a.toNat, by omega⟩
  rwa [show ((⟨a.toNat, by omega⟩ : Fin 100).1 : Int) = a by show (a.toNat : Int) = a; omega] at this
set_option maxRecDepth 100000 in
set_option maxHeartbeats 0 in
theorem sp_dip {w : World} {n : Nat} {g : Heap} {R : Led} {p c : Addr} {pt : Pot} {many : Int} {t1 t2 t3 : Tok} {post : Value → Heap → Led → Prop}
    (hc : PotG g c pt.cells) (ok : pt.ok) (hm : 0 < many)
    (h : ∀ t t1 t2, post (.int (pt.draw many) t) g ((p, PotO c pt.next t1 t2) :: R)) :
    Sp w (n + 1) (call (.ref 285) [.ref p, .int many t3]) g ((p, PotO c pt t1 t2) :: R) post := by
  obtain ⟨cs, hcs, hci⟩ := hc
  have hlen := ints_len hci
  obtain ⟨ok1, ok2, ok3, -⟩ := ok
  refine sp_of_cd (cd_fn (ps := [Str.ofString "pot", Str.ofString "many"]) (ns := [Str.ofString "at"]) (fs := [Str.ofString "pot", Str.ofString "many", Str.ofString "at"]) (os := [some (.ref p), some (.int many t3), none])
    (by k_is) (by k_is) rfl rfl rfl rfl (by decide +kernel) (by kernel_rfl) rfl rfl rfl (by kernel_rfl) ?_)
  intro L
  repeat' lge_here
  · rename_i hlt
    have hl : pt.at_ < pt.cells.length := by omega
    obtain ⟨tx, hx⟩ := ints_get hci (List.getElem?_eq_getElem hl)
    have hx' : cs[(pt.at_ : Int).toNat]? = some (.int pt.cells[pt.at_] tx) := hx
    repeat' lge_here
    refine ⟨_, .drop .same, ?_⟩
    simp only [Pot.draw, Pot.next, List.getElem?_eq_getElem hl] at h
    exact h _ _ _
  · rename_i hlt
    have hl : pt.cells[pt.at_]? = none := List.getElem?_eq_none (by omega)
    refine ⟨_, .drop .same, ?_⟩
    simp only [Pot.draw, Pot.next, hl] at h
    exact h _ _ _
set_option maxRecDepth 100000 in
set_option maxHeartbeats 0 in
theorem sp_star {w : World} {n : Nat} {g : Heap} {R : Led} {f df : Addr} {t : FT} {F : FD} {post : Value → Heap → Led → Prop} (hf : FactsAt g f df t F) (h : ∀ tk, post (.str (starF F) tk) g R) :
    Sp w (n + 1) (call (.ref 78) [.ref f]) g R post := by
  obtain ⟨hi, ha⟩ := hf
  refine sp_of_cd (cd_fn (ps := [Str.ofString "facts"]) (ns := []) (fs := [Str.ofString "facts"]) (os := [some (.ref f)])
    (by k_is) (by k_is) rfl rfl rfl rfl (by decide +kernel) (by kernel_rfl) rfl rfl rfl (by kernel_rfl) ?_)
  intro L
  repeat' lge_here
  all_goals exact ⟨_, .drop .same, strOut h (by simp [starF, *])⟩
section
set_option maxRecDepth 100000
set_option maxHeartbeats 0
theorem sp_percent {w : World} {n : Nat} {g : Heap} {R : Led} {part whole : Int} {t1 t2 : Tok} {post : Value → Heap → Led → Prop} (h0 : 0 ≤ part) (h1 : part ≤ 10000000) (h2 : 0 < whole) (h3 : whole < 10000000) (h : ∀ tk, post (.str (pctF part whole) tk) g R) :
    Sp w (n + 1) (call (.ref 50) [.int part t1, .int whole t2]) g R post := by
  have hd0 : 0 ≤ 100 * part / whole := Int.ediv_nonneg (by omega) (by omega)
  have hl := two_len' (a := min 99 (100 * part / whole)) (by omega) (by omega)
  have hz : (Str.empty ++ two (min 99 (100 * part / whole))).length ≤ sizeLine := by rw [str_app_len, hl, sizeLine_eq]; decide
  have hz2 : (Str.empty ++ two (min 99 (100 * part / whole)) ++ Str.ofString "%").length ≤ sizeLine := by rw [str_app_len, str_app_len, hl, sizeLine_eq]; decide
  refine sp_of_cd (cd_fn (ps := [Str.ofString "part", Str.ofString "whole"]) (ns := []) (fs := [Str.ofString "part", Str.ofString "whole"]) (os := [some (.int part t1), some (.int whole t2)])
    (by k_is) (by k_is) rfl rfl rfl rfl (by decide +kernel) (by kernel_rfl) rfl rfl rfl (by kernel_rfl) ?_)
  intro L
  repeat' lge_here
  refine sp_field2 (by omega) (by omega) fun tk => ?_
  repeat' lge_here
  exact ⟨_, .drop .same, h _⟩
end
local macro_rules | `(tactic| kl_room) => `(tactic| first | ((with_reducible refine' sp_percent ?a ?b ?c ?d ?h); (case a | b | c | d => kpt_len); intro _) | fail "end")
section
set_option maxRecDepth 100000
set_option maxHeartbeats 0
noncomputable def topF (F : FD) : Str := if F.bottom ≥ 1 + F.size then (if F.top ≤ 1 then Str.ofString "All" else Str.ofString "Bot") else if F.top ≤ 1 then Str.ofString "Top" else pctF (F.top - 1) (1 + F.size - 1)
noncomputable def botF (F : FD) : Str := if F.bottom ≥ 1 + F.size then (if F.top ≤ 1 then Str.ofString "All" else Str.ofString "Bottom") else (if F.top ≤ 1 then Str.ofString "Top" else Str.ofString "") ++ pctF (F.bottom - 1) (1 + F.size - 1)
noncomputable def plusF (F : FD) : Str := if F.md = true then Str.ofString "*" else if F.ro = true then Str.ofString "%" else Str.ofString "-"
theorem sp_top {w : World} {n : Nat} {g : Heap} {R : Led} {f df : Addr} {t : FT} {F : FD} {post : Value → Heap → Led → Prop} (hf : FactsAt g f df t F) (ok : FOk F) (h : ∀ tk, post (.str (topF F) tk) g R) :
    Sp w (n + 2) (call (.ref 57) [.ref f]) g R post := by
  obtain ⟨hi, ha⟩ := hf
  obtain ⟨o1, o2, o3, o4, o5, o6, -, -, -, -, -, -, -, -⟩ := ok
  refine sp_of_cd (cd_fn (ps := [Str.ofString "facts"]) (ns := []) (fs := [Str.ofString "facts"]) (os := [some (.ref f)])
    (by k_is) (by k_is) rfl rfl rfl rfl (by decide +kernel) (by kernel_rfl) rfl rfl rfl (by kernel_rfl) ?_)
  intro L
  repeat' lge_here
  all_goals exact ⟨_, .drop .same, strOut h (by simp [topF, *])⟩
theorem sp_bot {w : World} {n : Nat} {g : Heap} {R : Led} {f df : Addr} {t : FT} {F : FD} {post : Value → Heap → Led → Prop} (hf : FactsAt g f df t F) (ok : FOk F) (h : ∀ tk, post (.str (botF F) tk) g R) :
    Sp w (n + 2) (call (.ref 64) [.ref f]) g R post := by
  obtain ⟨hi, ha⟩ := hf
  obtain ⟨o1, o2, o3, o4, o5, o6, -, -, -, -, -, -, -, -⟩ := ok
  have hz : ∀ a b (x : Nat), 0 ≤ a → 0 ≤ b → x ≤ 10 → x + (pctF a b).length ≤ sizeLine := by
    intro a b x ha hb hx
    have hd0 : 0 ≤ 100 * a / b := Int.ediv_nonneg (by omega) (by omega)
    have hl := two_len' (a := min 99 (100 * a / b)) (by omega) (by omega)
    unfold pctF
    rw [str_app_len, str_app_len, hl, sizeLine_eq]
    have : (Str.ofString "%").length = 1 := by decide
    have : Str.empty.length = 0 := by decide
    omega
  have hz1 := hz (F.bottom - 1) (1 + F.size - 1) (Str.ofString "Top").length (by omega) (by omega) (by decide)
  have hz2 := hz (F.bottom - 1) (1 + F.size - 1) (Str.ofString "").length (by omega) (by omega) (by decide)
  refine sp_of_cd (cd_fn (ps := [Str.ofString "facts"]) (ns := [Str.ofString "ahead"]) (fs := [Str.ofString "facts", Str.ofString "ahead"]) (os := [some (.ref f), none])
    (by k_is) (by k_is) rfl rfl rfl rfl (by decide +kernel) (by kernel_rfl) rfl rfl rfl (by kernel_rfl) ?_)
  intro L
  repeat' lge_here
  all_goals exact ⟨_, .drop .same, strOut h (by simp [botF, *])⟩
theorem sp_plus {w : World} {n : Nat} {g : Heap} {R : Led} {f df : Addr} {t : FT} {F : FD} {post : Value → Heap → Led → Prop} (hf : FactsAt g f df t F) (h : ∀ tk, post (.str (plusF F) tk) g R) :
    Sp w (n + 1) (call (.ref 85) [.ref f]) g R post := by
  obtain ⟨hi, ha⟩ := hf
  refine sp_of_cd (cd_fn (ps := [Str.ofString "facts"]) (ns := []) (fs := [Str.ofString "facts"]) (os := [some (.ref f)])
    (by k_is) (by k_is) rfl rfl rfl rfl (by decide +kernel) (by kernel_rfl) rfl rfl rfl (by kernel_rfl) ?_)
  intro L
  repeat' lge_here
  all_goals exact ⟨_, .drop .same, strOut h (by simp [plusF, *])⟩
noncomputable def brkF (F : FD) (sign dots : Str) : Str := if F.deep ≤ 5 then Txt.mul sign F.deep else dots
theorem sp_brackets {w : World} {n : Nat} {g : Heap} {R : Led} {f df : Addr} {t : FT} {F : FD} {sign dots : Str} {t1 t2 : Tok} {post : Value → Heap → Led → Prop} (hf : FactsAt g f df t F) (ok : FOk F) (hs : sign.length ≤ 1000) (h : ∀ tk, post (.str (brkF F sign dots) tk) g R) :
    Sp w (n + 1) (call (.ref 92) [.ref f, .str sign t1, .str dots t2]) g R post := by
  obtain ⟨hi, ha⟩ := hf
  obtain ⟨-, -, -, -, -, -, -, -, -, -, d0, d1, -, -⟩ := ok
  refine sp_of_cd (cd_fn (ps := [Str.ofString "facts", Str.ofString "sign", Str.ofString "dots"]) (ns := []) (fs := [Str.ofString "facts", Str.ofString "sign", Str.ofString "dots"]) (os := [some (.ref f), some (.str sign t1), some (.str dots t2)])
    (by k_is) (by k_is) rfl rfl rfl rfl (by decide +kernel) (by kernel_rfl) rfl rfl rfl (by kernel_rfl) ?_)
  intro L
  repeat' lge_here
  all_goals exact ⟨_, .drop .same, strOut h (by simp [brkF, *])⟩
end

noncomputable def shortLoop : Nat → Int → Int → Int → Int × Int × Int
  | 0, n, t, p => (n, t, p)
  | k + 1, n, t, p => if n ≥ 1000 ∧ p < 3 then shortLoop k (n / 1000) (n % 1000 / 100) (p + 1) else (n, t, p)
noncomputable def sufF (p : Int) : Str := if p = 0 then Str.ofString "" else if p = 1 then Str.ofString "k" else if p = 2 then Str.ofString "M" else Str.ofString "G"
noncomputable def pointF (r : Int × Int × Int) : Str := if r.2.2 > 0 ∧ r.1 < 10 then Str.empty ++ Str.ofString "." ++ Str.ofString (toString r.2.1) else Str.ofString ""
noncomputable def shortF (size : Int) : Str := let r := shortLoop 3 size 0 0; Str.empty ++ Str.ofString (toString r.1) ++ pointF r ++ sufF r.2.2
theorem suf_at {pl : Int} (h0 : 0 ≤ pl) (h3 : pl ≤ 3) {a b c d : Tok} : ∃ t, [Value.str (Str.ofString "") a, Value.str (Str.ofString "k") b, Value.str (Str.ofString "M") c, Value.str (Str.ofString "G") d][pl.toNat]? = some (.str (sufF pl) t) := by
  have : pl = 0 ∨ pl = 1 ∨ pl = 2 ∨ pl = 3 := by omega
  rcases this with rfl | rfl | rfl | rfl
  · exact ⟨a, rfl⟩
  · exact ⟨b, rfl⟩
  · exact ⟨c, rfl⟩
  · exact ⟨d, rfl⟩
theorem suf_len (pl : Int) : (sufF pl).length ≤ 1 := by unfold sufF; split <;> (try split) <;> (try split) <;> decide
theorem short_done {k : Nat} {n t p : Int} (h : ¬ (n ≥ 1000 ∧ p < 3)) : shortLoop k n t p = (n, t, p) := by cases k with
  | zero => rfl
  | succ k => simp only [shortLoop]; rw [if_neg h]
section
set_option maxRecDepth 100000
set_option maxHeartbeats 0
theorem int_str_len {a : Int} (h0 : 0 ≤ a) (h1 : a < 2 ^ 60) : (Str.ofString (toString a)).length ≤ 1000 := by
  rw [PySem.ofString_length]
  have := int_text_length_le (a := a) (k := 60) (by decide) (by
    rcases Nat.eq_zero_or_pos a.natAbs with e | e
    · rw [e]; decide
    · exact (Nat.log2_lt (by omega)).mpr (by omega))
  omega
theorem sp_short {w : World} {n : Nat} {g : Heap} {R : Led} {size : Int} {t1 : Tok} {post : Value → Heap → Led → Prop} (h0 : 0 ≤ size) (h1 : size ≤ 10000000) (h : ∀ tk g', Le g g' → post (.str (shortF size) tk) g' R) :
    Sp w (n + 1) (call (.ref 71) [.int size t1]) g R post := by
  refine sp_good fun hG => ?_
  have hS : AtG g 22 (IsTupl [Value.str (Str.ofString "") 200, Value.str (Str.ofString "k") 201, Value.str (Str.ofString "M") 202, Value.str (Str.ofString "G") 203]) := good_tup hG (by k_is)
  refine sp_of_cd (cd_fn (ps := [Str.ofString "size"]) (ns := [Str.ofString "number", Str.ofString "tenth", Str.ofString "place", Str.ofString "point"]) (fs := [Str.ofString "size", Str.ofString "number", Str.ofString "tenth", Str.ofString "place", Str.ofString "point"]) (os := [some (.int size t1), none, none, none, none])
    (by k_is) (by k_is) rfl rfl rfl rfl (by decide +kernel) (by kernel_rfl) rfl rfl rfl (by kernel_rfl) ?_)
  intro L
  repeat' lge_here
  refine sp_while (fun m g' N' => Le g g' ∧ ∃ num ten pl ta tb tc, N' = ((L, Frm [Str.ofString "size", Str.ofString "number", Str.ofString "tenth", Str.ofString "place", Str.ofString "point"] [some (.int size t1), some (.int num ta), some (.int ten tb), some (.int pl tc), none]) :: R) ∧ 0 ≤ num ∧ num ≤ 10000000 ∧ 0 ≤ ten ∧ ten < 1000 ∧ 0 ≤ pl ∧ pl = 3 - (m : Int) ∧ shortLoop m num ten pl = shortLoop 3 size 0 0) 3 ⟨‹_›, size, 0, 0, _, _, _, rfl, h0, h1, by omega, by omega, by omega, by omega, rfl⟩ ?_
  rintro m g' N' l ⟨l1, num, ten, pl, ta, tb, tc, rfl, a0, a1, b0, b1, c0, c1, e⟩
  obtain ⟨ts, hx⟩ := suf_at (a := 200) (b := 201) (c := 202) (d := 203) c0 (by omega)
  have z1 := suf_len pl
  have z2 := int_str_len a0 (by omega)
  have z3 := int_str_len b0 (by omega)
  have z4 : (Str.ofString ".").length = 1 := by decide
  have z5 : Str.empty.length = 0 := by decide
  have z6 : (Str.ofString "").length = 0 := by decide
  repeat' lge_here
  · have hp := ‹pl < _›
    simp only [List.length_cons, List.length_nil] at hp
    obtain ⟨k, rfl⟩ : ∃ k, m = k + 1 := ⟨m - 1, by omega⟩
    have := Int.emod_lt_of_pos num (show (0 : Int) < 1000 by omega)
    have := Int.emod_nonneg num (show (1000 : Int) ≠ 0 by omega)
    refine whlK_next ⟨k, _, by omega, .same, ?_, num / 1000, num % 1000 / 100, pl + 1, _, _, _, rfl, by omega, by omega, by omega, by omega, by omega, by omega, ?_⟩
    · exact l1.trans ‹_›
    · rw [← e]; simp only [shortLoop]; rw [if_pos ⟨by assumption, by omega⟩]
  all_goals
    have ed : shortLoop 3 size 0 0 = (num, ten, pl) := by
      rw [← e]
      refine short_done ?_
      first
        | (have hp := ‹¬ pl < _›; simp only [List.length_cons, List.length_nil] at hp; omega)
        | omega
    refine ⟨_, .drop .same, strOut (fun tk => h tk g' l1) ?_⟩
    simp only [shortF, ed, pointF]
    first | rw [if_pos (by omega)] | rw [if_neg (by omega)]
end

-- told_by
local macro_rules | `(tactic| kl_room) => `(tactic| first
  | (with_reducible refine' sp_star ?a ?h); (case a => with_reducible assumption); intro _
  | (with_reducible refine' sp_plus ?a ?h); (case a => with_reducible assumption); intro _
  | (with_reducible refine' sp_top ?a ?b ?h); (case a | b => with_reducible assumption); intro _
  | (with_reducible refine' sp_bot ?a ?b ?h); (case a | b => with_reducible assumption); intro _
  | (with_reducible refine' sp_brackets ?a ?b ?c ?h); (case a | b => with_reducible assumption); (case c => kpt_len); intro _
  | (with_reducible refine' sp_short ?a ?b ?h); (case a | b => kpt_len); intro _ _ _)
noncomputable abbrev Ltrs : List Str := [Str.ofString "b", Str.ofString "f", Str.ofString "m", Str.ofString "l", Str.ofString "c", Str.ofString "C", Str.ofString "p", Str.ofString "P", Str.ofString "i", Str.ofString "I", Str.ofString "*", Str.ofString "+", Str.ofString "&", Str.ofString "n", Str.ofString "[", Str.ofString "]", Str.ofString "%", Str.ofString "q"]
noncomputable def ampF (F : FD) : Str := if F.md = true then Str.ofString "*" else Str.ofString "-"
noncomputable def narF (F : FD) : Str := if F.nr = true then Str.ofString " Narrow" else Str.ofString ""
noncomputable def toldF (F : FD) (c : Str) : Str :=
  if c = Str.ofString "b" then F.name else if c = Str.ofString "f" then F.file else if c = Str.ofString "m" then Str.ofString "Fundamental"
  else if c = Str.ofString "l" then Str.ofString (toString F.line) else if c = Str.ofString "c" then Str.ofString (toString F.column) else if c = Str.ofString "C" then Str.ofString (toString (F.column + 1))
  else if c = Str.ofString "p" then topF F else if c = Str.ofString "P" then botF F else if c = Str.ofString "i" then Str.ofString (toString (1 + F.size - 1)) else if c = Str.ofString "I" then shortF (1 + F.size - 1)
  else if c = Str.ofString "*" then starF F else if c = Str.ofString "+" then plusF F else if c = Str.ofString "&" then ampF F
  else if c = Str.ofString "n" then narF F else if c = Str.ofString "[" then brkF F (Str.ofString "[") (Str.ofString "[[[... ") else if c = Str.ofString "]" then brkF F (Str.ofString "]") (Str.ofString " ...]]]")
  else if c = Str.ofString "%" then Str.ofString "%" else Str.ofString ""
theorem told0 (F : FD) : toldF F (Str.ofString "b") = F.name := by kernel_rfl
theorem told1 (F : FD) : toldF F (Str.ofString "f") = F.file := by kernel_rfl
theorem told2 (F : FD) : toldF F (Str.ofString "m") = Str.ofString "Fundamental" := by kernel_rfl
theorem told3 (F : FD) : toldF F (Str.ofString "l") = Str.ofString (toString F.line) := by kernel_rfl
theorem told4 (F : FD) : toldF F (Str.ofString "c") = Str.ofString (toString F.column) := by kernel_rfl
theorem told5 (F : FD) : toldF F (Str.ofString "C") = Str.ofString (toString (F.column + 1)) := by kernel_rfl
theorem told6 (F : FD) : toldF F (Str.ofString "p") = topF F := by kernel_rfl
theorem told7 (F : FD) : toldF F (Str.ofString "P") = botF F := by kernel_rfl
theorem told8 (F : FD) : toldF F (Str.ofString "i") = Str.ofString (toString (1 + F.size - 1)) := by kernel_rfl
theorem told9 (F : FD) : toldF F (Str.ofString "I") = shortF (1 + F.size - 1) := by kernel_rfl
theorem told10 (F : FD) : toldF F (Str.ofString "*") = starF F := by kernel_rfl
theorem told11 (F : FD) : toldF F (Str.ofString "+") = plusF F := by kernel_rfl
theorem told12 (F : FD) : toldF F (Str.ofString "&") = ampF F := by kernel_rfl
theorem told13 (F : FD) : toldF F (Str.ofString "n") = narF F := by kernel_rfl
theorem told14 (F : FD) : toldF F (Str.ofString "[") = brkF F (Str.ofString "[") (Str.ofString "[[[... ") := by kernel_rfl
theorem told15 (F : FD) : toldF F (Str.ofString "]") = brkF F (Str.ofString "]") (Str.ofString " ...]]]") := by kernel_rfl
theorem told16 (F : FD) : toldF F (Str.ofString "%") = Str.ofString "%" := by kernel_rfl
theorem told17 (F : FD) : toldF F (Str.ofString "q") = Str.ofString "" := by kernel_rfl
theorem grb : ∀ c ∈ Ltrs, Txt.contains (Str.ofString "bfm") c = true → c = Str.ofString "b" ∨ c = Str.ofString "f" ∨ c = Str.ofString "m" := by decide +kernel
theorem grl : ∀ c ∈ Ltrs, Txt.contains (Str.ofString "lcC") c = true → c = Str.ofString "l" ∨ c = Str.ofString "c" ∨ c = Str.ofString "C" := by decide +kernel
theorem grp : ∀ c ∈ Ltrs, Txt.contains (Str.ofString "pP") c = true → ¬ c = Str.ofString "p" → c = Str.ofString "P" := by decide +kernel
theorem gri : ∀ c ∈ Ltrs, Txt.contains (Str.ofString "iI") c = true → ¬ c = Str.ofString "i" → c = Str.ofString "I" := by decide +kernel
theorem grs : ∀ c ∈ Ltrs, Txt.contains (Str.ofString "*+&") c = true → c = Str.ofString "*" ∨ c = Str.ofString "+" ∨ c = Str.ofString "&" := by decide +kernel
set_option synthInstance.maxSize 4096 in
set_option synthInstance.maxHeartbeats 400000 in
theorem grq : ∀ c ∈ Ltrs, Txt.contains (Str.ofString "bfm") c = false → Txt.contains (Str.ofString "lcC") c = false → Txt.contains (Str.ofString "pP") c = false → Txt.contains (Str.ofString "iI") c = false → Txt.contains (Str.ofString "*+&") c = false → ¬ c = Str.ofString "n" → ¬ c = Str.ofString "[" → ¬ c = Str.ofString "]" → ¬ c = Str.ofString "%" → c = Str.ofString "q" := by decide +kernel
theorem all_ne : ∀ c ∈ Ltrs, c ≠ Str.ofString "" := by decide +kernel
theorem or3 {a b c P : Prop} (h : a ∨ b ∨ c) (x : a → P) (y : b → P) (z : c → P) : P := h.elim x fun h => h.elim y z
theorem told_eq {F : FD} {c d x : Str} (e : c = d) (h : toldF F d = x) : toldF F c = x := e ▸ h
theorem sp_neSne {w : World} {n : Nat} {g : Heap} {N : Led} {a b : Str} {t1 t2 : Tok} {post : Value → Heap → Led → Prop} (hd : a ≠ b) (h : post (.bool true) g N) : Sp w n (compareOp .NotEq (.str a t1) (.str b t2)) g N post :=
  sp_neS (by rw [decide_eq_false hd]; exact h)
local macro_rules | `(tactic| kl_no) => `(tactic| first | ((with_reducible refine' sp_neSne ?a ?h); (case a => with_reducible assumption)) | fail "end")
section
set_option maxRecDepth 100000
set_option maxHeartbeats 0
theorem sp_told {w : World} {n : Nat} {g : Heap} {R : Led} {f df : Addr} {t : FT} {F : FD} {c : Str} {t1 : Tok} {post : Value → Heap → Led → Prop} (hf : FactsAt g f df t F) (ok : FOk F) (hc : c ∈ Ltrs) (h : ∀ tk g', Le g g' → post (.str (toldF F c) tk) g' R) :
    Sp w (n + 3) (call (.ref 99) [.str c t1, .ref f]) g R post := by
  have o := ok
  have fa := hf
  obtain ⟨hi, ha⟩ := hf
  obtain ⟨o1, o2, o3, o4, o5, o6, o7, o8, o9, o10, o11, o12, o13, o14⟩ := ok
  refine sp_of_cd (cd_fn (ps := [Str.ofString "letter", Str.ofString "facts"]) (ns := [Str.ofString "size"]) (fs := [Str.ofString "letter", Str.ofString "facts", Str.ofString "size"]) (os := [some (.str c t1), some (.ref f), none])
    (by k_is) (by k_is) rfl rfl rfl rfl (by decide +kernel) (by kernel_rfl) rfl rfl rfl (by kernel_rfl) ?_)
  intro L
  have hne : c ≠ Str.ofString "" := all_ne c hc
  repeat' lge_here
  all_goals first
    | (refine or3 (grb c hc ?_) ?_ ?_ ?_; with_reducible assumption; all_goals rintro rfl)
    | (refine or3 (grl c hc ?_) ?_ ?_ ?_; with_reducible assumption; all_goals rintro rfl)
    | (refine or3 (grs c hc ?_) ?_ ?_ ?_; with_reducible assumption; all_goals rintro rfl)
    | skip
  all_goals repeat' lge_here
  all_goals refine ⟨R, by k_subL, strOut (fun tk => h tk _ (by first | exact Le.refl _ | with_reducible assumption)) ?_⟩
  all_goals first
    | exact told0 F
    | exact told1 F
    | exact told2 F
    | exact told3 F
    | exact told4 F
    | exact told5 F
    | exact told10 F
    | exact told11 F
    | exact Eq.trans (told12 F) (by simp [ampF, *])
    | (refine told_eq (c := c) (d := Str.ofString "p") ?_ ?_; with_reducible assumption; exact told6 F)
    | (refine told_eq (c := c) (d := Str.ofString "i") ?_ ?_; with_reducible assumption; exact told8 F)
    | (refine told_eq (c := c) (d := Str.ofString "[") ?_ ?_; with_reducible assumption; exact told14 F)
    | (refine told_eq (c := c) (d := Str.ofString "]") ?_ ?_; with_reducible assumption; exact told15 F)
    | (refine told_eq (c := c) (d := Str.ofString "%") ?_ ?_; with_reducible assumption; exact told16 F)
    | (refine told_eq (c := c) (d := Str.ofString "n") ?_ ?_; with_reducible assumption; refine Eq.trans (told13 F) ?_; simp [narF, *])
    | (refine told_eq (grp c hc ?_ ?_) ?_; with_reducible assumption; with_reducible assumption; exact told7 F)
    | (refine told_eq (gri c hc ?_ ?_) ?_; with_reducible assumption; with_reducible assumption; exact told9 F)
    | (refine told_eq (grq c hc ?_ ?_ ?_ ?_ ?_ ?_ ?_ ?_ ?_) ?_; (iterate 9 with_reducible assumption); exact told17 F)
end

-- comprehensions, ready for use; the pot
section
variable {w : World} {n : Nat} {g : Heap} {N : Led} {env : Env}
theorem sp_freeze1 {α : Type} {t : Sem α} {post : α → Heap → Led → Prop} {a : Addr} {P : AP} {R : Led} (c : Take (a, P) N R) (h : ∀ g', Le g g' → AtG g' a P → Sp w n t g' R post) : Sp w n t g N post :=
  sp_freeze (F := [(a, P)]) (R := R) (Cut.take c .same) fun g' l f => h g' l (f _ (List.mem_singleton.mpr rfl))
theorem compK {tgt iter elt : Expr} {scope : Scope} {pos : Pos} {cl : List (Str × Addr)} {ns : List Str} {it : Value} {k : Nat} {V : Nat → Value → Led → Prop} {S : Nat → Led} {J : Nat → List Value → Heap → Led → Prop} {C R : Led} {K : Addr → Addr → Heap → Led → Prop}
    (hI : Itr w tgt g it k V S) (hk : k ≤ sizeLine) (htg : isTupE tgt = false → ∀ v, letOwnedTupleGo tgt it v = pure ()) (h0 : J 0 [] g C)
    (step : ∀ L i ys os g' C' R' v X, Le g g' → i < k → V i v X → ys.length = i → os.length = ns.length → J i ys g' C' → Sp w n (assign tgt (compEnvC scope cl L env) v) g' (X ++ ((L, Frm ns os) :: (C' ++ R'))) (fun _ g3 N3 => Sp w n (eval elt (compEnvC scope cl L env)) g3 N3 (fun y g4 N4 =>
      ∃ os' C4, os'.length = ns.length ∧ Cut N4 ((L, Frm ns os') :: (C4 ++ R')) ∧ J (i + 1) (ys ++ [y]) g4 C4)))
    (fin : ∀ D L ys os' g' C', Le g g' → ys.length = k → J k ys g' C' → K D L g' ((L, Frm ns os') :: (D, IsLst ys) :: (C' ++ R))) :
    CompK w n (.ListComp elt [⟨tgt, iter, [], 0⟩] scope pos) scope cl ns env it g (S 0 ++ (C ++ R)) K := by
  refine ⟨fun post X hp => fun A s Q hA hs k => ?_, fun D L => ?_⟩
  · refine hI.self g (X ++ (C ++ R)) (fun v g2 N2 => v = it ∧ g2 = g ∧ N2 = S 0 ++ (X ++ (C ++ R))) (Le.refl _) ⟨rfl, rfl, rfl⟩ A s Q hA (hs.perm mid_perm) fun a g' N' h' tk' l hs' ⟨e1, e2, e3⟩ => ?_
    subst e1 e2 e3
    exact k _ _ _ h' tk' l (hs'.perm mid_perm) hp
  · have z := cd_comp (env := compEnvC scope cl L env) (n := n) (D := D) (iter := iter) (scope := scope) (pos := pos) (os0 := List.replicate ns.length none) (R := R) (post := fun f g' N' => f = .next ∧ K D L g' N') hI hk htg h0 (by simp) (step L) (fun ys os' g' C' l hl hJ => ⟨rfl, fin D L ys os' g' C' l hl hJ⟩)
    intro A s RR hA hs K'
    exact z A s RR hA (hs.perm (mid_perm (S := [(L, Frm ns (List.replicate ns.length none)), (D, IsLst [])]))) K'
end
noncomputable def potCells (ns : List Int) : List Int := (ns.take 48).map fun a => (if a < 0 then -a else a) % 1000003
noncomputable def pot0 (ns : List Int) : Pot := ⟨potCells ns, 0, 131 + (potCells ns).sum % 65519⟩
theorem pick_upto (vs : List Value) (k : Nat) : (slicePick vs.toArray none (some (k : Int)) none).toList = vs.take k := by
  rw [PySem.slicePick_upto']
theorem pick_rev (vs : List Value) : (slicePick vs.toArray none none (some (-1))).toList = vs.reverse := by
  rw [PySem.W.krv_pick]
theorem ints_take {vs : List Value} {ns : List Int} (h : IntsAre vs ns) : ∀ k, IntsAre (vs.take k) (ns.take k) := by
  induction h with
  | nil => intro k; simp; exact .nil
  | cons n t _ ih => intro k; cases k with
    | zero => exact .nil
    | succ k => exact .cons n t (ih k)
theorem ints_to {vs : List Value} {ns ms : List Int} (e : ns = ms) (h : IntsAre vs ns) : IntsAre vs ms := e ▸ h
theorem ints_snoc {vs : List Value} {ns : List Int} (h : IntsAre vs ns) (n : Int) (t : Tok) : IntsAre (vs ++ [.int n t]) (ns ++ [n]) := by
  induction h with
  | nil => exact .cons n t .nil
  | cons m u _ ih => exact .cons m u ih
theorem take_map_succ {α β : Type} (f : α → β) (l : List α) {i : Nat} {x : α} (h : l[i]? = some x) : (l.map f).take i ++ [f x] = (l.map f).take (i + 1) := by
  rw [List.take_add_one, List.getElem?_map, h]; rfl
theorem ints_get' {vs : List Value} {ns : List Int} (h : IntsAre vs ns) {i : Nat} {v : Value} (e : vs[i]? = some v) : ∃ x t, v = .int x t ∧ ns[i]? = some x := by
  induction h generalizing i with
  | nil => simp at e
  | cons n t _ ih =>
    cases i with
    | zero => simp at e; subst e; exact ⟨n, t, rfl, rfl⟩
    | succ i => simpa using ih (by simpa using e)
noncomputable def IsLw (vs : List Value) : AP := fun o => o.cls = .type "list" ∧ ∃ n, o.data = .seq vs.toArray n
theorem IsLw.isList {h : Heap} {a : Addr} {vs : List Value} (x : ∃ o, h.get? a = some o ∧ IsLw vs o) : h.IsList a vs.toArray := let ⟨o, e, c, d⟩ := x; ⟨o, e, c, d⟩
theorem sp_sliceLw {w : World} {n : Nat} {g : Heap} {N : Led} {value slice : Expr} {l sl : Addr} {vs ws : List Value} {a b c : Value} {lo hi st : Option Int} {post : Value → Heap → Led → Prop} (hl : AtG g l (IsLw vs)) (hsl : Has g N sl (IsSl a b c)) (ha : IsPart a lo) (hb : IsPart b hi) (hc : IsPart c st) (h0 : st ≠ some 0)
    (hz : vs.length ≤ sizeLine) (hw : (slicePick vs.toArray lo hi st).toList = ws)
    (hs : subscripted slice false (.ref l) (.ref sl) = operate [.ref sl, .ref l] (getItem (.ref l) (.ref sl))) (h : ∀ d, post (.ref d) g ((d, IsLst ws) :: N)) : Sp w n (subscriptTail value slice (.ref l) (.ref sl)) g N post :=
  fun A s Q hA hs' K => tail_any (IsLw.isList ((AtG.has (N := N) hl).at hs')).typeIs slot_list_getitem.lookup (PySem.wpAny_getItem_list_slice (IsLw.isList ((AtG.has (N := N) hl).at hs')) (IsSl.isSliceOf (hsl.at hs')) ha hb hc h0
    (K _ g _ _ _ (Le.refl g) (hs'.push (P := IsLst ws) ⟨0, by rw [← hw, Array.toArray_toList]⟩) (h _)) (by rw [List.size_toArray]; exact hz)) hs
section
set_option maxRecDepth 100000
set_option maxHeartbeats 0
theorem sp_pot {w : World} {n : Nat} {g : Heap} {R : Led} {l : Addr} {vs : List Value} {ns : List Int} {post : Value → Heap → Led → Prop} (hl : AtG g l (IsLw vs)) (hi : IntsAre vs ns) (hz : vs.length ≤ 63)
    (h : ∀ g' p c t1 t2, Le g g' → PotG g' c (potCells ns) → post (.ref p) g' ((p, PotO c (pot0 ns) t1 t2) :: R)) :
    Sp w (n + 1) (call (.ref 278) [.ref l]) g R post := by
  refine sp_of_cd (cd_fn (ps := [Str.ofString "script"]) (ns := [Str.ofString "cells"]) (fs := [Str.ofString "script", Str.ofString "cells"]) (os := [some (.ref l), none])
    (by k_is) (by k_is) rfl rfl rfl rfl (by decide +kernel) (by kernel_rfl) rfl rfl rfl (by kernel_rfl) ?_)
  intro L
  repeat' lge_here
  refine sp_assignComp (cl := []) (ns := [Str.ofString "cell"]) rfl (fun _ => rfl) rfl rfl (by kernel_rfl) (by kernel_rfl) (by decide +kernel) ?_
  repeat' lge_here
  intro sl
  refine sp_sliceLw (lo := none) (hi := some 48) (st := none) hl Has.head .none (.int _ _) .none (by simp) (by rw [sizeLine_eq]; omega) (pick_upto vs 48) rfl fun d => ?_
  refine sp_freeze1 .here fun g1 l1 hd => ?_
  refine sp_iterL hd fun it => ?_
  have hit := ints_take hi 48
  refine compK (C := []) (J := fun i ys g' C => C = [] ∧ IntsAre ys ((potCells ns).take i)) (itr_list hd) (by rw [sizeLine_eq]; simp; omega) (fun _ v => rfl) ⟨rfl, .nil⟩ ?_ ?_
  · rintro L2 i ys os g' C' R' v X l2 hlt ⟨rfl, hv⟩ hy ho ⟨rfl, hJ⟩
    obtain ⟨x, tx, rfl, hx⟩ := ints_get' hit hv
    obtain ⟨o1, rfl⟩ : ∃ o, os = [o] := by
      cases os with
      | nil => simp at ho
      | cons a r => cases r with
        | nil => exact ⟨a, rfl⟩
        | cons _ _ => simp at ho
    repeat' lge_here
    refine ⟨[_], [], rfl, .same, rfl, ?_⟩
    exact ints_to (take_map_succ (fun a => (if a < 0 then -a else a) % 1000003) (ns.take 48) hx) (ints_snoc hJ _ _)
  · rintro D L2 ys os' g' C' l2 hy ⟨rfl, hJ⟩
    have hlen := ints_len hit
    have hJ' : IntsAre ys (potCells ns) := by
      rwa [List.take_of_length_le (by unfold potCells; rw [List.length_map]; omega)] at hJ
    have hp : (potCells ns).length ≤ 48 := by unfold potCells; rw [List.length_map, List.length_take]; omega
    repeat' lge_here
    refine ⟨_, _, _, .same, ?_⟩
    refine seqK_next ?_
    with_reducible refine sp_freeze1 (a := D) .here fun g2 l3 hD => ?_
    repeat' lge_here
    refine sp_sum (AtG.has hD) hJ' (fun x hx => ?_) (by omega) fun tk => ?_
    · obtain ⟨y, _, rfl⟩ := List.mem_map.mp hx
      have := Int.emod_lt_of_pos (if y < 0 then -y else y) (show (0 : Int) < 1000003 by omega)
      have := Int.emod_nonneg (if y < 0 then -y else y) (show (1000003 : Int) ≠ 0 by omega)
      constructor <;> omega
    repeat' lge_here
    exact ⟨_, .take .here (.drop (.drop .same)), h g2 _ D _ _ (l1.trans (l2.trans l3)) ⟨ys, hD, hJ'⟩⟩
end

-- draws; the facts of the law
theorem cd_newO {w : World} {n : Nat} {g : Heap} {N : Led} {C fI : Addr} {vs : List Value} {post : Value → Heap → Led → Prop} {ns : List Str} {os : List (Option Value)} (hm : makesIn (hd0.heap_1 w.params) C = true) (hi : findIn (hd0.heap_1 w.params) (.ref C) "__init__" = some (some (.ref fI)))
    (hf : isFn (hd0.heap_1 w.params) (.ref fI) = true) (hnd : ns.Nodup) (hlen : ns.length ≤ 1000) (hos : List.replicate ns.length none = os)
    (h : ∀ x dx, Cd w n (.ref fI) (.ref x :: vs) g ((x, IsInst C dx) :: (dx, Atr ns os) :: N) (fun v g' N' => v = .none ∧ post (.ref x) g' N')) : Cd w (n + 1) (.ref C) vs g N post := by
  subst hos; exact cd_new hm hi hf hnd hlen h
structure Is {α : Type} (a b : α) : Prop where
  eq : a = b
theorem idx_ok {d m : Int} {len : Nat} (h0 : 0 ≤ d) (h1 : d < m) (e : (len : Int) = m) : 0 ≤ d ∧ d < len := ⟨h0, e ▸ h1⟩
noncomputable def PotAt (g : Heap) (c : Addr) (pt : Pot) : Prop := PotG g c pt.cells ∧ pt.ok
theorem PotAt.next {g : Heap} {c : Addr} {pt : Pot} (h : PotAt g c pt) : PotAt g c pt.next := ⟨by rw [Pot.next_cells]; exact h.1, Pot.next_ok h.2⟩
theorem PotAt.le {g g' : Heap} {c : Addr} {pt : Pot} (h : PotAt g c pt) (l : Le g g') : PotAt g' c pt := ⟨let ⟨cs, a, b⟩ := h.1; ⟨cs, a.le l, b⟩, h.2⟩
section
variable {w : World} {n : Nat} {g : Heap} {N : Led} {env : Env}
theorem sp_dipN {p c : Addr} {pt : Pot} {many : Int} {t1 t2 t3 : Tok} {N' : Tok → Tok → Led} {post : Value → Heap → Led → Prop} (hc : PotAt g c pt) (hm : 0 < many) (hp : ∀ u1 u2, Chg p (PotO c pt t1 t2) (PotO c pt.next u1 u2) N (N' u1 u2))
    (h : ∀ t u1 u2, post (.int (pt.draw many) t) g (N' u1 u2)) : Sp w (n + 1) (call (.ref 285) [.ref p, .int many t3]) g N post := by
  obtain ⟨R, e1, e2⟩ := (hp 0 0).take
  intro A s Q hA hs k
  refine sp_dip (post := fun v g' N2 => ∃ t u1 u2, v = .int (pt.draw many) t ∧ g' = g ∧ N2 = (p, PotO c pt.next u1 u2) :: R) hc.1 hc.2 hm (fun t u1 u2 => ⟨t, u1, u2, rfl, rfl, rfl⟩) A s Q hA (hs.perm e1) fun a g' N2 h' tk' l hs' ⟨t, u1, u2, ea, eg, en⟩ => ?_
  subst ea eg en
  obtain ⟨R2, f1, f2⟩ := (hp u1 u2).take
  have hR : R.Perm R2 := List.Perm.cons_inv (e1.symm.trans f1)
  exact k _ _ (N' u1 u2) h' tk' (Le.refl _) (hs'.perm ((hR.cons _).trans f2.symm)) (h t u1 u2)
theorem sp_dipO {p c : Addr} {pt : Pot} {many : Int} {t1 t2 t3 : Tok} {N' : Pot → Tok → Tok → Led} {post : Value → Heap → Led → Prop} (hc : PotAt g c pt) (hm : 0 < many) (hp : ∀ q u1 u2, Chg p (PotO c pt t1 t2) (PotO c q u1 u2) N (N' q u1 u2))
    (h : ∀ t u1 u2 q d, PotAt g c q → 0 ≤ d → d < many → post (.int d t) g (N' q u1 u2)) : Sp w (n + 1) (call (.ref 285) [.ref p, .int many t3]) g N post :=
  sp_dipN hc hm (hp pt.next) fun t u1 u2 => h t u1 u2 _ _ hc.next (Pot.draw_lt hm).1 (Pot.draw_lt hm).2
theorem sp_itemI {value slice : Expr} {l : Addr} {vs : List Value} {ns : List Int} {k : Int} {t : Tok} {post : Value → Heap → Led → Prop} (hl : Has g N l (IsLst vs)) (hi : IntsAre vs ns) (hk : 0 ≤ k ∧ k < ns.length) (hz : ns.length < 1000)
    (hs : subscripted slice false (.ref l) (.int k t) = operate [.ref l, .int k t] (getItem (.ref l) (.int k t))) (h : ∀ tk x, x ∈ ns → post (.int x tk) g N) : Sp w n (subscriptTail value slice (.ref l) (.int k t)) g N post := by
  have hlt : k.toNat < ns.length := by omega
  obtain ⟨tx, hx⟩ := ints_get hi (List.getElem?_eq_getElem hlt)
  refine sp_item hl hk.1 hx (by omega) hs ?_
  exact h tx _ (List.getElem_mem hlt)
theorem strs_len {vs : List Value} {ys : List Str} (h : StrsAre vs ys) : vs.length = ys.length := by
  induction h with
  | nil => rfl
  | cons _ _ _ ih => simp [ih]
theorem strs_get {vs : List Value} {ys : List Str} (h : StrsAre vs ys) {i : Nat} {x : Str} (e : ys[i]? = some x) : ∃ t, vs[i]? = some (.str x t) := by
  induction h generalizing i with
  | nil => simp at e
  | cons n t _ ih =>
    cases i with
    | zero => simp at e; subst e; exact ⟨t, rfl⟩
    | succ i => simpa using ih (by simpa using e)
theorem sp_itemSt {value slice : Expr} {l : Addr} {vs : List Value} {ys : List Str} {k : Int} {t : Tok} {post : Value → Heap → Led → Prop} (hl : Has g N l (IsLst vs)) (hi : StrsAre vs ys) (hk : 0 ≤ k ∧ k < ys.length) (hz : ys.length < 1000)
    (hs : subscripted slice false (.ref l) (.int k t) = operate [.ref l, .int k t] (getItem (.ref l) (.int k t))) (h : ∀ tk x, x ∈ ys → post (.str x tk) g N) : Sp w n (subscriptTail value slice (.ref l) (.int k t)) g N post := by
  have hlt : k.toNat < ys.length := by omega
  obtain ⟨tx, hx⟩ := strs_get hi (List.getElem?_eq_getElem hlt)
  refine sp_item hl hk.1 hx (by omega) hs ?_
  exact h tx _ (List.getElem_mem hlt)
noncomputable def letters (x : Str) : List Str := x.cps.toList.map fun c => ⟨#[c]⟩
theorem sp_itemSG {value slice : Expr} {x : Str} {k : Int} {t u : Tok} {post : Value → Heap → Led → Prop} (hk : 0 ≤ k ∧ k < x.length) (hz : x.length < 1000)
    (hs : subscripted slice false (.str x t) (.int k u) = operate [.str x t, .int k u] (getItem (.str x t) (.int k u))) (h : ∀ tk y, y ∈ letters x → post (.str y tk) g N) : Sp w n (subscriptTail value slice (.str x t) (.int k u)) g N post := by
  have hlt : k.toNat < x.cps.size := by have : (x.length : Int) = x.cps.size := rfl; omega
  refine sp_itemS hk.1 (by omega) (Array.getElem?_eq_getElem hlt) hs fun tk => ?_
  exact h tk _ (List.mem_map.mpr ⟨x.cps[k.toNat], Array.getElem_mem_toList hlt, rfl⟩)
noncomputable abbrev sp_asAttr_k1 (w : World) (n : Nat) (a : Str) (v : Value) (post : Unit → Heap → Led → Prop) := fun ov (g : Heap) (N : Led) => Sp w n (setAttr ov a v) g N post
theorem sp_asAttr {o : Expr} {a : Str} {p : Pos} {v : Value} {post : Unit → Heap → Led → Prop} (h : Sp w n (eval o env) g N (sp_asAttr_k1 w n a v post)) : Sp w n (assign (.Attribute o a p) env v) g N post :=
  fun A s Q hA hs k => PySem.W.kas_attr (h A s _ hA hs fun a g1 N1 h1 tk1 l1 hs1 p1 => p1 A _ _ hA hs1 fun b g2 N2 h2 tk2 l2 hs2 p2 => k _ g2 N2 h2 tk2 (l1.trans l2) hs2 p2)
end
local macro_rules | `(tactic| kd_mark) => `(tactic| first | with_reducible assumption | (refine' PotAt.le ?kz ?kl; (case kl => with_reducible assumption); (case kz => kd_mark)))
local macro_rules | `(tactic| kpc_len) => `(tactic| (refine' idx_ok ?ka ?kb ?kc; (case ka | kb => with_reducible assumption); (case kc => rfl)))
local macro_rules | `(tactic| ki_room) => `(tactic| first | exact IntsAre.nil | (refine' IntsAre.cons _ _ ?ka; (case ka => ki_room)) | exact StrsAre.nil | (refine' StrsAre.cons _ _ ?ka; (case ka => ki_room)))
local macro_rules | `(tactic| kl_room) => `(tactic| first
  | ((with_reducible refine' sp_dipO ?c ?m ?p ?h); (case p => intro _ _ _; kbo_bools); (case c => kd_mark); (case m => decide); intro _ _ _ _ _ _ _ _))
local macro_rules | `(tactic| ksl_some) => `(tactic| first
  | (with_reducible refine' sp_itemT ?a ?b ?c ?d ?e ?h); (case a => kpc_g); (case b => kpt_len); (case c => first | exact rfl | assumption); (case d => kpt_len); (case e => rfl)
  | (with_reducible refine' sp_itemI ?a ?b ?c ?d ?e ?h); (case a => k_clsL); (case b => ki_room); (case c => kpc_len); (case d => exact Nat.le_of_ble_eq_true rfl); (case e => rfl); intro _ _ _
  | (with_reducible refine' sp_itemSt ?a ?b ?c ?d ?e ?h); (case a => k_clsL); (case b => ki_room); (case c => kpc_len); (case d => exact Nat.le_of_ble_eq_true rfl); (case e => rfl); intro _ _ _
  | (with_reducible refine' sp_itemSG ?c ?d ?e ?h); (case c => kpc_len); (case d => exact Nat.le_of_ble_eq_true rfl); (case e => rfl); intro _ _ _)
local macro_rules | `(tactic| kl_no) => `(tactic| first
  | with_reducible refine' sp_asAttr ?_)
section
set_option maxRecDepth 100000
set_option maxHeartbeats 0
theorem sp_Facts {w : World} {n : Nat} {g : Heap} {R : Led} {name : Str} {b e top bottom line column : Int} {t0 t1 t2 t3 t4 t5 t6 : Tok} {post : Value → Heap → Led → Prop}
    (h : ∀ x dx u1 u2 u3, post (.ref x) g ((x, IsInst 39 dx) :: (dx, Atr factNames [some (.str name t0), some (.str (Str.ofString "") u1), some (.str (Str.ofString "Fundamental") u2), some (.int b t1), some (.int e t2), some (.int top t3), some (.int bottom t4), some (.int line t5), some (.int column t6), some (.bool false), some (.bool false), some (.bool false), some (.int 0 u3)]) :: R)) :
    Sp w (n + 2) (call (.ref 39) [.str name t0, .int b t1, .int e t2, .int top t3, .int bottom t4, .int line t5, .int column t6]) g R post := by
  refine sp_of_cd (cd_newO (fI := 36) (ns := factNames) (os := [none, none, none, none, none, none, none, none, none, none, none, none, none]) (by k_is) (by k_is) (by k_is) (by decide +kernel) (by decide) rfl fun x dx => ?_)
  refine cd_fn (ps := [Str.ofString "self", Str.ofString "name", Str.ofString "begin", Str.ofString "end", Str.ofString "top", Str.ofString "bottom", Str.ofString "line", Str.ofString "column"]) (ns := []) (fs := [Str.ofString "self", Str.ofString "name", Str.ofString "begin", Str.ofString "end", Str.ofString "top", Str.ofString "bottom", Str.ofString "line", Str.ofString "column"])
    (os := [some (.ref x), some (.str name t0), some (.int b t1), some (.int e t2), some (.int top t3), some (.int bottom t4), some (.int line t5), some (.int column t6)])
    (by k_is) (by k_is) rfl rfl rfl rfl (by decide +kernel) (by kernel_rfl) rfl rfl rfl (by kernel_rfl) ?_
  intro L
  repeat' lge_here
  exact ⟨_, .drop .same, rfl, h _ _ _ _ _⟩
noncomputable def sizes : List Int := [0, 7, 130, 1200, 45000, 3000000]
structure LFOk (F : FD) : Prop where
  ok : FOk F
  size : F.size ∈ sizes
theorem all_mem {α : Type} {x : α} {l : List α} {P : α → Prop} (h : x ∈ l) (k : ∀ y ∈ l, P y) : P x := k x h
theorem in3 {a x y z : Int} {P : Int → Prop} (h : a ∈ [x, y, z]) (p : P x) (q : P y) (r : P z) : P a := all_mem h fun y hy => by
  simp only [List.mem_cons, List.not_mem_nil, or_false] at hy
  rcases hy with rfl | rfl | rfl
  · exact p
  · exact q
  · exact r
theorem third {s : Int} (h : 0 ≤ s) : 0 ≤ s / 3 ∧ s / 3 ≤ s := by omega
theorem third2 {s : Int} (h : 0 ≤ s) : 0 ≤ s * 2 / 3 ∧ s * 2 / 3 ≤ s := by omega
theorem mx {a b s : Int} (u : 0 ≤ a ∧ a ≤ s) (v : 0 ≤ b ∧ b ≤ s) : 1 ≤ 1 + a ∧ 1 + a ≤ 1 + s ∧ 1 ≤ max (1 + a) (1 + b) ∧ max (1 + a) (1 + b) ≤ 1 + s :=
  ⟨by omega, by omega, Int.le_trans (by omega) (Int.le_max_left _ _), Int.max_le.mpr ⟨by omega, by omega⟩⟩
theorem lfok_of {nm fl : Str} {sz a b l c dp : Int} {md ro nr : Bool} (h1 : sz ∈ [0, 7, 130, 1200, 45000, 3000000]) (h2 : a ∈ [0, sz / 3, sz]) (h3 : b ∈ [sz, sz * 2 / 3, sz]) (h4 : nm ∈ [Str.ofString "a", Str.ofString "note"]) (h5 : 0 ≤ l) (h6 : l < 99) (h7 : 0 ≤ c) (h8 : c < 80)
    (h9 : fl ∈ [Str.ofString "", Str.ofString "/x/y"]) (h10 : dp ∈ [0, 2, 6]) : LFOk ⟨nm, fl, sz, 1 + a, max (1 + a) (1 + b), 1 + l, c, md, ro, nr, dp⟩ := by
  have s := all_mem h1 (P := fun x => 0 ≤ x ∧ x ≤ 3000000) (by decide)
  have x1 := third s.1
  have x2 := third2 s.1
  have u : 0 ≤ a ∧ a ≤ sz := in3 (P := fun x => 0 ≤ x ∧ x ≤ sz) h2 ⟨Int.le_refl 0, s.1⟩ x1 ⟨s.1, Int.le_refl sz⟩
  have v : 0 ≤ b ∧ b ≤ sz := in3 (P := fun x => 0 ≤ x ∧ x ≤ sz) h3 ⟨s.1, Int.le_refl sz⟩ x2 ⟨s.1, Int.le_refl sz⟩
  have d := all_mem h10 (P := fun x => 0 ≤ x ∧ x ≤ 100) (by decide)
  have y := mx u v
  have ln : 0 ≤ 1 + l ∧ 1 + l ≤ 1000 := ⟨by clear h1 h2 h3 h4 h9 h10 s x1 x2 u v d y; omega, by clear h1 h2 h3 h4 h9 h10 s x1 x2 u v d y; omega⟩
  have cl : c ≤ 1000 := by clear h1 h2 h3 h4 h9 h10 s x1 x2 u v d y ln; omega
  exact ⟨⟨s.1, s.2, y.1, y.2.1, y.2.2.1, y.2.2.2, ln.1, ln.2, h7, cl, d.1, d.2, all_mem h4 (P := fun x => x.length ≤ 100) (by decide), all_mem h9 (P := fun x => x.length ≤ 100) (by decide)⟩, h1⟩
theorem sp_lfacts {w : World} {n : Nat} {g : Heap} {R : Led} {p c : Addr} {pt : Pot} {t1 t2 : Tok} {post : Value → Heap → Led → Prop} (hc : PotAt g c pt)
    (h : ∀ g' f df t u1 u2 F q, Le g g' → LFOk F → PotAt g' c q → post (.ref f) g' ((f, IsInst 39 df) :: (df, Atr factNames (factVals F t)) :: (p, PotO c q u1 u2) :: R)) :
    Sp w (n + 3) (call (.ref 292) [.ref p]) g ((p, PotO c pt t1 t2) :: R) post := by
  refine sp_of_cd (cd_fn (ps := [Str.ofString "pot"]) (ns := [Str.ofString "size", Str.ofString "top", Str.ofString "bottom", Str.ofString "name", Str.ofString "line", Str.ofString "column", Str.ofString "facts"]) (fs := [Str.ofString "pot", Str.ofString "size", Str.ofString "top", Str.ofString "bottom", Str.ofString "name", Str.ofString "line", Str.ofString "column", Str.ofString "facts"])
    (os := [some (.ref p), none, none, none, none, none, none, none])
    (by k_is) (by k_is) rfl rfl rfl rfl (by decide +kernel) (by kernel_rfl) rfl rfl rfl (by kernel_rfl) ?_)
  intro L
  repeat' lge_here
  refine sp_Facts fun x dx u1 u2 u3 => ?_
  repeat' lge_here
  refine' ⟨_, ?cc, h _ x dx ⟨_, _, _, _, _, _, _, _, _, _⟩ _ _ ⟨_, _, _, _, _, _, _, _, _, _, _⟩ _ ?ll ?ok ?pp⟩
  case cc => k_subL
  case ll => exact (‹Le g _› : Le g _).trans (Le.trans ‹_› ‹_›)
  case pp => kd_mark
  case ok =>
    exact lfok_of (by assumption) (by assumption) (by assumption) (by assumption) (by assumption) (by assumption) (by assumption) (by assumption) (by assumption) (by assumption)
end

-- forms
inductive ItemD where
  | lit (t : Str)
  | fld (w : Int) (c : Str)
inductive FormD where
  | text (l : List ItemD)
  | seq0
  | seq1 (a : FormD)
  | seq2 (a b : FormD)
  | ite (x : Str) (a b : FormD)
  | name (x : Str)
  | width (k : Int) (a : FormD)
  | face1 (a : FormD)
  | face2 (a : FormD)
noncomputable abbrev lits : List Str := [Str.ofString "a ", Str.ofString "(", Str.ofString "--"]
noncomputable abbrev uvw : List Str := letters (Str.ofString "uvw")
noncomputable abbrev lets19 : List Str := letters (Str.ofString "bfmlcCpPiI*+&n[]%-q")
noncomputable def ItemD.ok : ItemD → Prop
  | .lit t => t ∈ lits
  | .fld w c => w ∈ [(0 : Int), 0, 3, 9] ∧ c ∈ lets19
noncomputable def FormD.ok : FormD → Prop
  | .text l => l.length ≤ 3 ∧ ∀ i ∈ l, i.ok
  | .seq0 => True
  | .seq1 a => a.ok
  | .seq2 a b => a.ok ∧ b.ok
  | .ite x a b => x ∈ uvw ∧ a.ok ∧ b.ok
  | .name x => x ∈ uvw
  | .width k a => k ∈ [(4 : Int), 9, -2, -5, 0] ∧ a.ok
  | .face1 a => a.ok
  | .face2 a => a.ok
noncomputable def FormD.dp : FormD → Nat
  | .text _ => 0
  | .seq0 => 0
  | .seq1 a => a.dp + 1
  | .seq2 a b => max a.dp b.dp + 1
  | .ite _ a b => max a.dp b.dp + 1
  | .name _ => 0
  | .width _ a => a.dp + 1
  | .face1 a => a.dp + 1
  | .face2 a => a.dp + 1
inductive ItemAt (g : Heap) : Value → ItemD → Prop where
  | lit {T : Addr} {t : Str} {a b c : Tok} : AtG g T (IsTupl [.str (Str.ofString "") a, .int 0 b, .str t c]) → ItemAt g (.ref T) (.lit t)
  | fld {T : Addr} {w : Int} {t : Str} {a b c : Tok} : AtG g T (IsTupl [.str (Str.ofString "%") a, .int w b, .str t c]) → ItemAt g (.ref T) (.fld w t)
theorem ItemAt.le {g g' : Heap} {v : Value} {i : ItemD} (h : ItemAt g v i) (l : Le g g') : ItemAt g' v i := by
  cases h with
  | lit h => exact .lit (h.le l)
  | fld h => exact .fld (h.le l)
theorem All2.mono {α β : Type} {P Q : α → β → Prop} {as : List α} {bs : List β} (h : All2 P as bs) (f : ∀ a b, P a b → Q a b) : All2 Q as bs := by
  induction h with
  | nil => exact .nil
  | cons h _ ih => exact .cons (f _ _ h) ih
theorem All2.snoc {α β : Type} {P : α → β → Prop} {as : List α} {bs : List β} {a : α} {b : β} (h : All2 P as bs) (x : P a b) : All2 P (as ++ [a]) (bs ++ [b]) := by
  induction h with
  | nil => exact .cons x .nil
  | cons h _ ih => exact .cons h ih
theorem All2.len {α β : Type} {P : α → β → Prop} {as : List α} {bs : List β} (h : All2 P as bs) : as.length = bs.length := by
  induction h with
  | nil => rfl
  | cons _ _ ih => simp [ih]
theorem All2.get {α β : Type} {P : α → β → Prop} {as : List α} {bs : List β} (h : All2 P as bs) {i : Nat} {a : α} (e : as[i]? = some a) : ∃ b, bs[i]? = some b ∧ P a b := by
  induction h generalizing i with
  | nil => simp at e
  | cons x _ ih =>
    cases i with
    | zero => simp at e; subst e; exact ⟨_, rfl, x⟩
    | succ i => simpa using ih (by simpa using e)
inductive FormAt (g : Heap) : Value → FormD → Prop where
  | text {T l : Addr} {t : Tok} {vs : List Value} {items : List ItemD} : AtG g T (IsTupl [.str (Str.ofString "text") t, .ref l]) → AtG g l (IsLst vs) → All2 (ItemAt g) vs items → FormAt g (.ref T) (.text items)
  | seq0 {T l : Addr} {t : Tok} : AtG g T (IsTupl [.str (Str.ofString "seq") t, .ref l]) → AtG g l (IsLst []) → FormAt g (.ref T) .seq0
  | seq1 {T l : Addr} {t : Tok} {v : Value} {a : FormD} : AtG g T (IsTupl [.str (Str.ofString "seq") t, .ref l]) → AtG g l (IsLst [v]) → FormAt g v a → FormAt g (.ref T) (.seq1 a)
  | seq2 {T l : Addr} {t : Tok} {v u : Value} {a b : FormD} : AtG g T (IsTupl [.str (Str.ofString "seq") t, .ref l]) → AtG g l (IsLst [v, u]) → FormAt g v a → FormAt g u b → FormAt g (.ref T) (.seq2 a b)
  | ite {T : Addr} {t s : Tok} {x : Str} {v u : Value} {a b : FormD} : AtG g T (IsTupl [.str (Str.ofString "if") t, .str x s, v, u]) → FormAt g v a → FormAt g u b → FormAt g (.ref T) (.ite x a b)
  | name {T : Addr} {t s : Tok} {x : Str} : AtG g T (IsTupl [.str (Str.ofString "name") t, .str x s]) → FormAt g (.ref T) (.name x)
  | width {T : Addr} {t s : Tok} {k : Int} {v : Value} {a : FormD} : AtG g T (IsTupl [.str (Str.ofString "width") t, .int k s, v]) → FormAt g v a → FormAt g (.ref T) (.width k a)
  | face1 {T F : Addr} {t s : Tok} {v : Value} {a : FormD} : AtG g T (IsTupl [.str (Str.ofString "face") t, .ref F, v]) → AtG g F (IsTupl [.str (Str.ofString "k") s]) → FormAt g v a → FormAt g (.ref T) (.face1 a)
  | face2 {T F : Addr} {t s r : Tok} {v : Value} {a : FormD} : AtG g T (IsTupl [.str (Str.ofString "face") t, .ref F, v]) → AtG g F (IsTupl [.str (Str.ofString "k") s, .str (Str.ofString "l") r]) → FormAt g v a → FormAt g (.ref T) (.face2 a)
theorem FormAt.le {g g' : Heap} {v : Value} {f : FormD} (h : FormAt g v f) (l : Le g g') : FormAt g' v f := by
  induction h with
  | text a b c => exact .text (a.le l) (b.le l) (c.mono fun _ _ x => x.le l)
  | seq0 a b => exact .seq0 (a.le l) (b.le l)
  | seq1 a b _ ih => exact .seq1 (a.le l) (b.le l) ih
  | seq2 a b _ _ ih1 ih2 => exact .seq2 (a.le l) (b.le l) ih1 ih2
  | ite a _ _ ih1 ih2 => exact .ite (a.le l) ih1 ih2
  | name a => exact .name (a.le l)
  | width a _ ih => exact .width (a.le l) ih
  | face1 a b _ ih => exact .face1 (a.le l) (b.le l) ih
  | face2 a b _ ih => exact .face2 (a.le l) (b.le l) ih
section
variable {w : World} {n : Nat} {g : Heap} {N : Led} {env : Env}
theorem sp_iterRz {r : Addr} {z : Int} {m : Nat} {post : Value → Heap → Led → Prop} (hr : Has g N r (RngO z)) (hz : z = (m : Int)) (hm : m < 2 ^ 30) (h : ∀ it, post (.ref it) g ((it, RIt m 0) :: N)) : Sp w n (pyIter (.ref r)) g N post := sp_iterR (hz ▸ hr) hm h
theorem cd_forN {tgt : Expr} {it : Value} {body : List Stmt} {k : Nat} {V : Nat → Value → Led → Prop} {S : Nat → Led} {J : Nat → Heap → Led → Prop} {Jr : Value → Heap → Led → Prop} {post : Flow → Heap → Led → Prop}
    (hI : Itr w tgt g it k V S) (htg : isTupE tgt = false → ∀ v, letOwnedTupleGo tgt it v = pure ()) (h0 : J 0 g N)
    (step : ∀ i g' C' R' v X, Le g g' → i < k → V i v X → J i g' C' → Sp w n (assign tgt env v) g' (X ++ (C' ++ R')) (fun _ g3 N3 => Sp w n (execs body env) g3 N3 (turnK (J (i + 1)) Jr R')))
    (fin : ∀ g' C', Le g g' → J k g' C' → post .next g' C')
    (ret : ∀ v g' C', Le g g' → Jr v g' C' → post (.ret v) g' C') : CdL w n (.forLoop tgt it body [] env) g (S 0 ++ N) post := by
  have z := cd_for (R := []) (post := fun f g' N' => post f g' N') hI htg h0 step (fun g' C' l hJ => by rw [List.append_nil]; exact fin g' C' l hJ) (fun v g' C' l hJ => by rw [List.append_nil]; exact ret v g' C' l hJ)
  rwa [List.append_nil] at z
end
local macro_rules | `(tactic| kl_no) => `(tactic| first
  | with_reducible refine' sp_for (fun _ => rfl) ?_
  | ((with_reducible show Sp _ _ (pyIter _) _ _ _); first
    | (with_reducible refine' sp_iterL ?a ?h); (case a => kpc_g); intro _
    | (with_reducible refine' sp_iterT ?a ?h); (case a => kpc_g); intro _
    | (with_reducible refine' sp_iterS ?h); intro _))
inductive LXJ (c r xf L p : Addr) (k : Nat) (R : Led) (i : Nat) (g' : Heap) (C' : Led) : Prop where
  | mk (vs : List Value) (items : List ItemD) (o : Option Value) (qq : Pot) (u1 u2 : Tok) (e : C' = (r, RngO (1 + (k : Int))) :: (xf, IsLst vs) :: (L, Frm [Str.ofString "pot", Str.ofString "found", Str.ofString "nth"] [some (.ref p), some (.ref xf), o]) :: (p, PotO c qq u1 u2) :: R) (h1 : PotAt g' c qq) (h2 : All2 (ItemAt g') vs items) (h3 : items.length = i) (h4 : ∀ x ∈ items, x.ok)
section
set_option maxRecDepth 100000
set_option maxHeartbeats 0
theorem sp_ltext {w : World} {n : Nat} {g : Heap} {R : Led} {p c : Addr} {pt : Pot} {t1 t2 : Tok} {post : Value → Heap → Led → Prop} (hc : PotAt g c pt)
    (h : ∀ g' v l u1 u2 q, Le g g' → FormAt g' v (.text l) → (FormD.text l).ok → PotAt g' c q → post v g' ((p, PotO c q u1 u2) :: R)) :
    Sp w (n + 2) (call (.ref 299) [.ref p]) g ((p, PotO c pt t1 t2) :: R) post := by
  refine sp_of_cd (cd_fn (ps := [Str.ofString "pot"]) (ns := [Str.ofString "found", Str.ofString "nth"]) (fs := [Str.ofString "pot", Str.ofString "found", Str.ofString "nth"])
    (os := [some (.ref p), none, none])
    (by k_is) (by k_is) rfl rfl rfl rfl (by decide +kernel) (by kernel_rfl) rfl rfl rfl (by kernel_rfl) ?_)
  intro L
  repeat' lge_here
  rename_i xf _ u1 u2 q d hq d0 d3 r
  obtain ⟨k, rfl⟩ := Int.eq_ofNat_of_zero_le d0
  refine sp_iterRz (m := k + 1) Has.head (by omega) (by omega) fun it => ?_
  refine cd_forN (Jr := fun _ _ _ => False) (J := LXJ c r xf L p k R)
    itr_range (fun _ _ => rfl) ⟨[], [], _, q, _, _, rfl, hq, .nil, rfl, fun _ h => by cases h⟩ ?_ ?_ (fun _ _ _ _ z => z.elim)
  · rintro i g' C' R' v X l hi ⟨rfl, tk, rfl⟩ ⟨vs, items, o, qq, v1, v2, rfl, hqq, hvs, hlen, hok⟩
    simp only [List.nil_append, List.cons_append]
    have hvl := hvs.len
    repeat' lge_here
    · rename_i hb _ _ _ _ _ _ _ _ _ _ xs hx _ _ l3 hT
      refine turnK_next _ (.drop .same) ⟨_, items ++ [.lit xs], _, _, _, _, rfl, ?_, (hvs.mono fun _ _ x => x.le l3).snoc (.lit hT), by simp [hlen], fun y hy => ?_⟩
      · exact PotAt.le ‹_› l3
      · rcases List.mem_append.mp hy with hy | hy
        · exact hok y hy
        · rw [List.mem_singleton.mp hy]; exact hx
    · rename_i hw _ _ _ _ _ _ _ _ _ ys hy2 _ _ l3 hT
      refine turnK_next _ (.drop .same) ⟨_, items ++ [.fld _ ys], _, _, _, _, rfl, ?_, (hvs.mono fun _ _ x => x.le l3).snoc (.fld hT), by simp [hlen], fun y hy => ?_⟩
      · exact PotAt.le ‹_› l3
      · rcases List.mem_append.mp hy with hy | hy
        · exact hok y hy
        · rw [List.mem_singleton.mp hy]; exact ⟨by assumption, hy2⟩
  · rintro g' C' l ⟨vs, items, o, qq, v1, v2, rfl, hqq, hvs, hlen, hok⟩
    refine seqK_next ?_
    with_reducible refine sp_freeze1 (a := xf) (.there .here) fun g2 l2 hf => ?_
    repeat' lge_here
    refine ⟨_, ?_, h _ _ items v1 v2 qq (l.trans (l2.trans ‹_›)) (.text ‹_› (hf.le ‹_›) (hvs.mono fun _ _ x => x.le (l2.trans ‹_›))) ⟨by omega, hok⟩ (hqq.le (l2.trans ‹_›))⟩
    k_subL
end

-- (x, y)[:b]
section
variable {w : World} {n : Nat} {g : Heap} {N : Led} {env : Env}
theorem sliceApplied_to {A : Around} {E : Value → Shared → Prop} {s : Shared} {sl : Addr} {b : Int} {u : Tok} {Q : Int × Int × Nat → Shared → Prop} (hb : b = 1 ∨ b = 2) (hs : s.heap.IsSliceOf sl .none (.int b u) .none) (h : Q (0, 1, b.toNat) s) :
    wpAny (model PR w) A (Builtin.Slice.sliceApplied (.ref sl) (pure (2 : Int))) Q E s := by
  obtain ⟨os, hos, hcs, hds⟩ := id hs
  unfold Builtin.Slice.sliceApplied Builtin.Slice.sliceFields
  refine wpAny_bind (wpAny_bind (wpAny_field hos hds (x := .none) rfl (wpAny_bind (wpAny_field hos hds (x := .int b u) rfl (wpAny_bind (wpAny_field hos hds (x := .none) rfl (wpAny_pure ?_)))))))
  refine wpAny_bind (slicePart_none ?_)
  show wpAny _ _ (if ((1 : Int) == 0) = true then _ else _) _ _ s
  rw [if_neg (by decide)]
  refine wpAny_bind (slicePart_none (wpAny_bind (slicePart_int (wpAny_bind (wpAny_pure ?_)))))
  rcases hb with rfl | rfl
  · exact wpAny_pure h
  · exact wpAny_pure h
theorem sp_sliceT2 {value slice : Expr} {l sl : Addr} {x y : Value} {b : Int} {u : Tok} {post : Value → Heap → Led → Prop} (hl : AtG g l (IsTupl [x, y])) (hsl : Has g N sl (IsSl .none (.int b u) .none)) (hb : b = 1 ∨ b = 2)
    (hs : subscripted slice false (.ref l) (.ref sl) = operate [.ref sl, .ref l] (getItem (.ref l) (.ref sl))) (h1 : b = 1 → Frz (IsTupl [x]) g N post) (h2 : b = 2 → Frz (IsTupl [x, y]) g N post) : Sp w n (subscriptTail value slice (.ref l) (.ref sl)) g N post :=
  fun A s Q hA hs' K => by
    have ht : IsTup s.heap l #[x, y] := IsTupl.isTup (hl.at hs')
    have hss := IsSl.isSliceOf (hsl.at hs')
    refine tail_any ht.typeIs slot_tuple_getitem.lookup ?_ hs
    obtain ⟨os, hos, hcs, hds⟩ := id hss
    have hTs : s.TypeIs (.ref sl) "slice" := ⟨os, hos, hcs⟩
    unfold getItem
    try with_reducible refine wpAny_holding ?_
    first | refine wpAny_bind (wpAny_pure ?_) | skip
    refine wpAny_bind (wpAny_sequenceKey ht.typeIs (by decide) ?_)
    refine wpAny_bind (wpAny_callSpecial?_slot (name := Str.ofString "__getitem__") ht.typeIs slot_tuple_getitem
      (wpAny_call_entry slot_tuple_getitem ht.typeIs entry_tuple_getitem ?_ (args_tuple_getitem _ _)))
    show wpAny _ _ (Builtin.Tuple.tupleItemsOf (.ref l) >>= _) _ _ s
    refine wpAny_bind (tupleItemsOf_ ht ?_)
    refine wpAny_bind (wpAny_typeOf hTs ?_)
    rw [if_pos (by decide)]
    refine wpAny_bind (sliceApplied_to hb hss ?_)
    rcases hb with rfl | rfl
    · show wpAny _ _ (if ((0 : Int) == 0 && (1 : Int) == 1 && (1 : Nat) == 2) = true then _ else _) _ _ s
      rw [if_neg (by decide)]
      have hz := (h1 rfl).use (s := s) (Q := Q) (o := { cls := .type "tuple", data := .seq #[x] }) (tk := s.toks) rfl hs' K
      have hdrop : sizeOk (.seq #[x]) := by show (1 : Nat) ≤ sizeLine; rw [sizeLine_eq]; decide
      first
        | exact wpAny_bind (m := Builtin.Tuple.tupleExact _) (wpAny_newObj_type (wpAny_pure ⟨_, rfl, wpAny_pure hz⟩) hdrop)
        | exact wpAny_bind (m := Builtin.Tuple.tupleExact _) (wpAny_newObj_type (wpAny_bind (wpAny_pure (wpAny_pure ⟨_, rfl, wpAny_pure hz⟩))) hdrop)
        | exact wpAny_bind (wpAny_bind (m := Builtin.Tuple.tupleExact _) (wpAny_newObj_type (wpAny_pure (wpAny_pure ⟨_, rfl, wpAny_pure hz⟩)) hdrop))
        | exact wpAny_bind (wpAny_bind (m := Builtin.Tuple.tupleExact _) (wpAny_newObj_type (wpAny_pure ⟨_, rfl, wpAny_pure hz⟩) hdrop))
    · show wpAny _ _ (if ((0 : Int) == 0 && (1 : Int) == 1 && (2 : Nat) == 2) = true then _ else _) _ _ s
      rw [if_pos (by decide)]
      have hz := K _ g N s.heap s.toks (Le.refl g) hs' (h2 rfl g l (Le.refl g) hl)
      refine wpAny_bind ?_
      unfold Builtin.Tuple.tupleIsExact
      refine wpAny_bind (wpAny_typeOf ht.typeIs (wpAny_pure ?_))
      rw [if_pos (by decide)]
      exact wpAny_bind (wpAny_rule (wpAny_pure ⟨_, rfl, wpAny_pure hz⟩))
theorem compKN {tgt iter elt : Expr} {scope : Scope} {pos : Pos} {cl : List (Str × Addr)} {ns : List Str} {it : Value} {k : Nat} {V : Nat → Value → Led → Prop} {S : Nat → Led} {J : Nat → List Value → Heap → Led → Prop} {K : Addr → Addr → Heap → Led → Prop}
    (hI : Itr w tgt g it k V S) (hk : k ≤ sizeLine) (htg : isTupE tgt = false → ∀ v, letOwnedTupleGo tgt it v = pure ()) (h0 : J 0 [] g N)
    (step : ∀ L i ys os g' C' R' v X, Le g g' → i < k → V i v X → ys.length = i → os.length = ns.length → J i ys g' C' → Sp w n (assign tgt (compEnvC scope cl L env) v) g' (X ++ ((L, Frm ns os) :: (C' ++ R'))) (fun _ g3 N3 => Sp w n (eval elt (compEnvC scope cl L env)) g3 N3 (fun y g4 N4 =>
      ∃ os' C4, os'.length = ns.length ∧ Cut N4 ((L, Frm ns os') :: (C4 ++ R')) ∧ J (i + 1) (ys ++ [y]) g4 C4)))
    (fin : ∀ D L ys os' g' C', Le g g' → ys.length = k → J k ys g' C' → K D L g' ((L, Frm ns os') :: (D, IsLst ys) :: C')) :
    CompK w n (.ListComp elt [⟨tgt, iter, [], 0⟩] scope pos) scope cl ns env it g (S 0 ++ N) K := by
  have z := compK (R := []) (K := K) (cl := cl) (scope := scope) (pos := pos) (iter := iter) (env := env) hI hk htg h0 step (fun D L ys os' g' C' l hl hJ => by rw [List.append_nil]; exact fin D L ys os' g' C' l hl hJ)
  rwa [List.append_nil] at z
end
theorem lis1 {α β : Type} {os : List α} {b : β} (h : os.length = [b].length) : ∃ x, os = [x] := match os, h with
  | [x], _ => ⟨x, rfl⟩
theorem lis2 {α β : Type} {os : List α} {b c : β} (h : os.length = [b, c].length) : ∃ x y, os = [x, y] := match os, h with
  | [x, y], _ => ⟨x, y, rfl⟩
theorem lis3 {α β : Type} {os : List α} {b c d : β} (h : os.length = [b, c, d].length) : ∃ x y z, os = [x, y, z] := match os, h with
  | [x, y, z], _ => ⟨x, y, z, rfl⟩
theorem toNat_subN {w : Int} {a b : Nat} (h : b = a) : w.toNat - a = (w - (b : Int)).toNat := by
  rw [h]; omega
theorem max_toN (i : Int) : (max 0 i).toNat = i.toNat := by omega
theorem bnd9 {k : Int} {n : Nat} (hk : k ≤ 9) : n + (max 0 (k - (n : Int))).toNat ≤ max n 9 := by
  rw [max_toN]; omega
theorem take_le40 {α : Type} {l : List α} {w : Int} (h : w ≤ 40) : (l.take w.toNat).length ≤ 40 := by
  rw [List.length_take]; exact Nat.le_trans (Nat.min_le_left _ _) (by omega)
theorem dp1 {a : Nat} {d : Int} (h : d > 0) (ha : a ≤ (d - 1).toNat) : a + 1 ≤ d.toNat := by omega
theorem dp2 {a b : Nat} {d : Int} (h : d > 0) (ha : a ≤ (d - 1).toNat) (hb : b ≤ (d - 1).toNat) : max a b + 1 ≤ d.toNat := dp1 h (Nat.max_le.mpr ⟨ha, hb⟩)

-- the law's forms
theorem take_sp {α : Type} {w : World} {n : Nat} {g : Heap} {N R : Led} {e : Addr × AP} {t : Sem α} {post : α → Heap → Led → Prop} (k : Take e N R) (h : Sp w n t g (e :: R) post) : Sp w n t g N post := sp_perm k.perm h
structure LFs (m : Nat) : Prop where
  use : ∀ {w : World} {k : Nat} {g : Heap} {R : Led} {p c : Addr} {pt : Pot} {t1 t2 td : Tok} {dd : Int} {post : Value → Heap → Led → Prop}, 0 ≤ dd → dd ≤ (m : Int) → m + 3 ≤ k → PotAt g c pt →
    (∀ g' v f u1 u2 q, Le g g' → FormAt g' v f → f.ok → f.dp ≤ dd.toNat → PotAt g' c q → post v g' ((p, PotO c q u1 u2) :: R)) →
    Sp w k (call (.ref 304) [.ref p, .int dd td]) g ((p, PotO c pt t1 t2) :: R) post
section
set_option maxRecDepth 100000
set_option maxHeartbeats 0
end
local macro_rules | `(tactic| kl_room) => `(tactic| first
  | (with_reducible refine' take_sp ?t (sp_ltext ?c ?h)); (case t => kba_ints); (case c => kd_mark); intro _ _ _ _ _ _ _ _ _ _
  | (with_reducible refine' take_sp ?t (LFs.use ?lf ?d0 ?d1 ?kk ?c ?h)); (case lf => with_reducible assumption); (case t => kba_ints); (case d0 | d1 | kk => omega); (case c => kd_mark); intro _ _ _ _ _ _ _ _ _ _ _)
local macro_rules | `(tactic| ksl_some) => `(tactic| first
  | ((with_reducible refine' sp_sliceT2 ?a ?b ?c ?d ?h1 ?h2); (case a => kpc_g); (case b => k_clsL); (case c => omega); (case d => rfl); (all_goals intro _ _ _ _ _)))
local macro_rules | `(tactic| kl_no) => `(tactic| first
  | ((with_reducible show ∀ _ : Addr, Sp _ _ _ _ _ _); intro _))
local macro_rules | `(tactic| kle_go) => `(tactic| first | with_reducible assumption | exact Le.refl _ | (refine' Le.trans ?ka ?kb; (case kb => with_reducible assumption); (case ka => kle_go)))
inductive LFJ (c r L p : Addr) (d : Int) (tt : Tok) (kk : Nat) (dd : Int) (R : Led) (i : Nat) (ys : List Value) (g' : Heap) (C' : Led) : Prop where
  | mk (fs : List FormD) (qq : Pot) (u1 u2 : Tok) (e : C' = (r, RngO (kk : Int)) :: (L, Frm [Str.ofString "sort"] [some (.int d tt)]) :: (p, PotO c qq u1 u2) :: R) (h1 : PotAt g' c qq) (h2 : All2 (FormAt g') ys fs) (h3 : fs.length = i) (h4 : ∀ f ∈ fs, f.ok ∧ f.dp ≤ (dd - 1).toNat)
section
set_option maxRecDepth 100000
set_option maxHeartbeats 0
theorem lform_step (m : Nat) (ih : ∀ j, m = j + 1 → LFs j) : LFs m := by
  refine ⟨fun {w k g R p c pt t1 t2 td dd post} h0 h1 hk hc h => ?_⟩
  obtain ⟨n, rfl⟩ : ∃ n, k = n + 1 := ⟨k - 1, by omega⟩
  refine sp_of_cd (cd_fnC (bs := [(Str.ofString "pot", .ref p), (Str.ofString "deep", .int dd td)]) (fs := [Str.ofString "sort"]) (os := [none]) (ce := fun L => [(L + 1 + 1, IsCel (some (.int dd td))), (L + 1, IsCel (some (.ref p)))])
    (by k_is) (by k_is) rfl (by decide +kernel) (by kernel_rfl) (by decide +kernel) (fun L => .cel (by rfl) (.cel (by rfl) .nil)) (fun L => by rfl) rfl rfl rfl ?_)
  intro L
  simp only [List.cons_append, List.nil_append]
  with_reducible refine sp_freeze1 (a := L + 1) (.there (.there .here)) fun g1 l1 c1 => ?_
  with_reducible refine sp_freeze1 (a := L + 1 + 1) (.there .here) fun g2 l2 c2 => ?_
  have hc2 := hc.le (l1.trans l2)
  obtain ⟨n, rfl⟩ : ∃ n2, n = n2 + 2 := ⟨n - 2, by omega⟩

  by_cases hdd : dd > 0
  · obtain ⟨j, rfl⟩ : ∃ j, m = j + 1 := ⟨m - 1, by omega⟩
    have hlf := ih j rfl
    repeat' lge_here
    · rename_i gg vv ll v1 v2 qq le hf ho hp
      refine' ⟨_, ?ccut, h gg vv (.text ll) v1 v2 qq ((l1.trans l2).trans le) hf ho (by simp [FormD.dp]) hp⟩
      case ccut => k_subL
    · rename_i tt v1 v2 q d hq d0 d6 _ _
      refine' sp_comp (ns := [Str.ofString "nth"]) (fun _ => rfl) ?hcl rfl (by kernel_rfl) (by kernel_rfl) (by decide +kernel) ?_
      case hcl => rfl
      repeat' lge_here
      rename_i _ _ w1 w2 q2 d2 hq2 d20 d23 r
      obtain ⟨kk, rfl⟩ := Int.eq_ofNat_of_zero_le d20
      refine sp_iterRz (m := kk) Has.head rfl (by omega) fun it => ?_
      refine compKN (J := LFJ c r L p d tt kk dd R)
        itr_range (by rw [sizeLine_eq]; omega) (fun _ _ => rfl) ⟨[], q2, _, _, rfl, hq2, .nil, rfl, fun _ h => by cases h⟩ ?_ ?_
      · rintro L2 i ys os g' C' R' v X l hi ⟨rfl, tk, rfl⟩ hy ho ⟨fs, qq, x1, x2, rfl, hqq, hys, hlen, hok⟩
        obtain ⟨o1, rfl⟩ : ∃ o, os = [o] := by
          cases os with
          | nil => simp at ho
          | cons a r => cases r with
            | nil => exact ⟨a, rfl⟩
            | cons _ _ => simp at ho
        simp only [List.nil_append, List.cons_append]
        repeat' lge_here
        rename_i ga va fa ua1 ua2 qa lea hfa hoa hda hpa
        refine ⟨[some (.int (i : Int) tk)], (r, RngO (kk : Int)) :: (L, Frm [Str.ofString "sort"] [some (.int d tt)]) :: (p, PotO c qa ua1 ua2) :: R, rfl, ?_, fs ++ [fa], qa, ua1, ua2, rfl, hpa, (hys.mono fun _ _ x => x.le lea).snoc hfa, by simp [hlen], fun f hf => ?_⟩
        · exact .take (.there .here) (.take (.there .here) (.take (.there .here) (.take .here .same)))
        · rcases List.mem_append.mp hf with hf | hf
          · exact hok f hf
          · rw [List.mem_singleton.mp hf]; exact ⟨hoa, hda⟩
      · rintro D L2 ys os' g' C' l hy ⟨fs, qq, x1, x2, rfl, hqq, hys, hlen, hok⟩
        refine ⟨_, _, _, .same, ?_⟩
        with_reducible refine sp_freeze1 (a := D) .here fun g3 l3 hD => ?_
        repeat' lge_here
        rename_i g4 d4 l4 T4
        have hk2 : fs.length ≤ 2 := by omega
        have key : ∃ ff : FormD, FormAt g4 (.ref d4) ff ∧ ff.ok ∧ ff.dp ≤ dd.toNat := by
          have hD4 := hD.le l4
          have hys4 := hys.mono (Q := FormAt g4) fun _ _ x => x.le (l3.trans l4)
          cases hys4 with
          | nil => exact ⟨.seq0, .seq0 T4 hD4, trivial, by simp [FormD.dp]⟩
          | cons x1 hr =>
            cases hr with
            | nil => exact ⟨.seq1 _, .seq1 T4 hD4 x1, (hok _ (.head _)).1, dp1 hdd (hok _ (.head _)).2⟩
            | cons x2 hr2 =>
              cases hr2 with
              | nil => exact ⟨.seq2 _ _, .seq2 T4 hD4 x1 x2, ⟨(hok _ (.head _)).1, (hok _ (.tail _ (.head _))).1⟩, dp2 hdd (hok _ (.head _)).2 (hok _ (.tail _ (.head _))).2⟩
              | cons _ _ => simp at hk2
        obtain ⟨ff, hff, hffo, hffd⟩ := key
        refine' ⟨_, ?ccut, h g4 _ ff _ _ qq (by kle_go) hff hffo hffd (hqq.le (l3.trans l4))⟩
        case ccut => k_subL
    · rename_i ga va fa ua1 ua2 qa lea hfa hoa hda hpa gb vb fb ub1 ub2 qb leb hfb hob hdb hpb g3 d3 l3 T3
      refine' ⟨_, ?ccut, h g3 _ (.ite _ fa fb) _ _ qb ((l1.trans l2).trans (lea.trans (leb.trans l3))) (.ite T3 (hfa.le (leb.trans l3)) (hfb.le l3)) ⟨by assumption, hoa, hob⟩ (dp2 hdd hda (Nat.le_trans hdb (Nat.zero_le _))) (hpb.le l3)⟩
      case ccut => k_subL
    · rename_i g3 d3 l3 T3
      refine' ⟨_, ?ccut, h g3 _ (.name _) _ _ _ ((l1.trans l2).trans l3) (.name T3) (by assumption) (by simp [FormD.dp]) (by kd_mark)⟩
      case ccut => k_subL
    · rename_i ga va fa ua1 ua2 qa lea hfa hoa hda hpa g3 d3 l3 T3
      refine' ⟨_, ?ccut, h g3 _ (.width _ fa) _ _ _ ((l1.trans l2).trans (lea.trans l3)) (.width T3 (hfa.le l3)) ⟨by assumption, hoa⟩ (dp1 hdd hda) (by kd_mark)⟩
      case ccut => k_subL
    · rename_i ga va fa ua1 ua2 qa lea hfa hoa hda hpa g3 d3 l3 T3
      refine' ⟨_, ?ccut, h g3 _ (.face1 fa) _ _ _ (by kle_go) (.face1 T3 (by kpc_g) (hfa.le l3)) hoa (dp1 hdd hda) (by kd_mark)⟩
      case ccut => k_subL
    · rename_i ga va fa ua1 ua2 qa lea hfa hoa hda hpa g3 d3 l3 T3
      refine' ⟨_, ?ccut, h g3 _ (.face2 fa) _ _ _ (by kle_go) (.face2 T3 (by kpc_g) (hfa.le l3)) hoa (dp1 hdd hda) (by kd_mark)⟩
      case ccut => k_subL
    · exfalso; omega
  · obtain rfl : dd = 0 := by omega
    repeat' lge_here
    rename_i gg vv ll v1 v2 qq le hf ho hp
    refine' ⟨_, ?ccut, h gg vv (.text ll) v1 v2 qq ((l1.trans l2).trans le) hf ho (by simp [FormD.dp]) hp⟩
    case ccut => k_subL
theorem lform_all : ∀ m, LFs m
  | 0 => lform_step 0 fun j hj => by omega
  | m + 1 => lform_step (m + 1) fun j hj => by
    obtain rfl : m = j := by omega
    exact lform_all m
end

-- plain forms
noncomputable def itemText : ItemD → Str
  | .lit t => Str.ofString "" ++ Str.ofString "" ++ t
  | .fld w c => Str.ofString "%" ++ (if w > 0 then Str.ofString (toString w) else Str.ofString "") ++ c
noncomputable def plainText (l : List ItemD) : Str := Txt.join (Str.ofString "") (l.map itemText)
inductive PlainAt (g : Heap) : Value → FormD → Prop where
  | text {t : Tok} {items : List ItemD} : PlainAt g (.str (plainText items) t) (.text items)
  | seq0 {T : Addr} {t : Tok} : AtG g T (IsTupl [.str (Str.ofString "seq") t]) → PlainAt g (.ref T) .seq0
  | seq1 {T : Addr} {t : Tok} {v : Value} {a : FormD} : AtG g T (IsTupl [.str (Str.ofString "seq") t, v]) → PlainAt g v a → PlainAt g (.ref T) (.seq1 a)
  | seq2 {T : Addr} {t : Tok} {v u : Value} {a b : FormD} : AtG g T (IsTupl [.str (Str.ofString "seq") t, v, u]) → PlainAt g v a → PlainAt g u b → PlainAt g (.ref T) (.seq2 a b)
  | ite {T : Addr} {t s : Tok} {x : Str} {v u : Value} {a b : FormD} : AtG g T (IsTupl [.str (Str.ofString "if") t, .str x s, v, u]) → PlainAt g v a → PlainAt g u b → PlainAt g (.ref T) (.ite x a b)
  | name {T : Addr} {t s : Tok} {x : Str} : AtG g T (IsTupl [.str (Str.ofString "name") t, .str x s]) → PlainAt g (.ref T) (.name x)
  | width {T : Addr} {t s : Tok} {k : Int} {v : Value} {a : FormD} : AtG g T (IsTupl [.str (Str.ofString "width") t, .int k s, v]) → PlainAt g v a → PlainAt g (.ref T) (.width k a)
  | face1 {T F : Addr} {t s : Tok} {v : Value} {a : FormD} : AtG g T (IsTupl [.str (Str.ofString "face") t, .ref F, v]) → AtG g F (IsTupl [.str (Str.ofString "k") s]) → PlainAt g v a → PlainAt g (.ref T) (.face1 a)
  | face2 {T F : Addr} {t s r : Tok} {v : Value} {a : FormD} : AtG g T (IsTupl [.str (Str.ofString "face") t, .ref F, v]) → AtG g F (IsTupl [.str (Str.ofString "k") s, .str (Str.ofString "l") r]) → PlainAt g v a → PlainAt g (.ref T) (.face2 a)
theorem PlainAt.le {g g' : Heap} {v : Value} {f : FormD} (h : PlainAt g v f) (l : Le g g') : PlainAt g' v f := by
  induction h with
  | text => exact .text
  | seq0 a => exact .seq0 (a.le l)
  | seq1 a _ ih => exact .seq1 (a.le l) ih
  | seq2 a _ _ ih1 ih2 => exact .seq2 (a.le l) ih1 ih2
  | ite a _ _ ih1 ih2 => exact .ite (a.le l) ih1 ih2
  | name a => exact .name (a.le l)
  | width a _ ih => exact .width (a.le l) ih
  | face1 a b _ ih => exact .face1 (a.le l) (b.le l) ih
  | face2 a b _ ih => exact .face2 (a.le l) (b.le l) ih
theorem litlen {t : Str} (h : t ∈ lits) : t.length ≤ 2 := by
  simp only [lits, List.mem_cons, List.not_mem_nil, or_false] at h
  rcases h with rfl | rfl | rfl <;> decide
theorem let19len {t : Str} (h : t ∈ lets19) : t.length = 1 := by
  obtain ⟨c, _, rfl⟩ := List.mem_map.mp h
  rfl
theorem wtext_len {w : Int} (h : w ∈ [(0 : Int), 0, 3, 9]) : (Str.ofString (toString w)).length = 1 := by
  simp only [List.mem_cons, List.not_mem_nil, or_false] at h
  rcases h with rfl | rfl | rfl | rfl <;> decide
theorem itemText_len {i : ItemD} (h : i.ok) : (itemText i).length ≤ 10 := by
  cases i with
  | lit t => unfold itemText; rw [str_app_len, str_app_len]; have := litlen h; have : (Str.ofString "").length = 0 := by decide
             omega
  | fld w c =>
    unfold itemText; rw [str_app_len, str_app_len]
    have := let19len h.2
    have h2 := wtext_len h.1
    have : (Str.ofString "%").length = 1 := by decide
    have : (Str.ofString "").length = 0 := by decide
    split <;> omega
theorem strs_snoc {ys : List Value} {xs : List Str} (h : StrsAre ys xs) (x : Str) (t : Tok) : StrsAre (ys ++ [.str x t]) (xs ++ [x]) := by
  induction h with
  | nil => exact .cons x t .nil
  | cons y u _ ih => exact .cons y u ih
theorem strs_item {ys : List Value} {items : List ItemD} {i : Nat} {it : ItemD} {x : Str} {t : Tok} (h : StrsAre ys ((items.map itemText).take i)) (e : items[i]? = some it) (ex : itemText it = x) : StrsAre (ys ++ [.str x t]) ((items.map itemText).take (i + 1)) := by
  have := strs_snoc h x t
  rw [← ex] at this ⊢
  rwa [take_map_succ itemText items e] at this
structure PLs (d : Nat) : Prop where
  use : ∀ {w : World} {k : Nat} {g : Heap} {R : Led} {v : Value} {f : FormD} {post : Value → Heap → Led → Prop}, FormAt g v f → f.ok → f.dp ≤ d → d + 1 ≤ k → (∀ g' u, Le g g' → PlainAt g' u f → post u g' R) → Sp w k (call (.ref 309) [v]) g R post
local macro_rules | `(tactic| km_fact) => `(tactic| first | with_reducible assumption | (refine' FormAt.le ?kz ?kl; (case kl => with_reducible assumption); (case kz => km_fact)))
local macro_rules | `(tactic| kl_room) => `(tactic| first
  | (with_reducible refine' PLs.use ?pl ?fa ?ok ?dp ?kk ?h); (case pl => with_reducible assumption); (case fa => km_fact); (case ok => with_reducible assumption); (case dp | kk => omega); intro _ _ _ _)
section
set_option maxRecDepth 100000
set_option maxHeartbeats 0
theorem lplain_seq {d : Nat} (ih : ∀ j, d = j + 1 → PLs j) {w : World} {n : Nat} {g : Heap} {R : Led} {T l : Addr} {t : Tok} {vs : List Value} {fs : List FormD} {post : Value → Heap → Led → Prop} (hk : d + 1 ≤ n + 1) (hT : AtG g T (IsTupl [.str (Str.ofString "seq") t, .ref l])) (hl : AtG g l (IsLst vs)) (hfs : All2 (FormAt g) vs fs)
    (hok : ∀ f ∈ fs, f.ok ∧ f.dp + 1 ≤ d) (hlen : fs.length ≤ 2) (h : ∀ g' T' ys s, Le g g' → AtG g' T' (IsTupl (.str (Str.ofString "seq") s :: ys)) → All2 (PlainAt g') ys fs → post (.ref T') g' R) : Sp w (n + 1) (call (.ref 309) [.ref T]) g R post := by
  refine sp_of_cd (cd_fn (ps := [Str.ofString "form"]) (ns := []) (fs := [Str.ofString "form"]) (os := [some (.ref T)])
    (by k_is) (by k_is) rfl rfl rfl rfl (by decide +kernel) (by kernel_rfl) rfl rfl rfl (by kernel_rfl) ?_)
  intro L
  repeat' lge_here
  rename_i g1 d1 l1 T1
  refine' sp_comp (ns := [Str.ofString "part"]) (fun _ => rfl) ?hcl rfl (by kernel_rfl) (by kernel_rfl) (by decide +kernel) ?_
  case hcl => rfl
  repeat' lge_here
  have hvl := hfs.len
  refine compKN (J := fun i ys g' C' => ∃ o, C' = (L, Frm [Str.ofString "form"] [o]) :: R ∧ All2 (PlainAt g') ys (fs.take i)) (itr_list (hl.le l1)) (by rw [sizeLine_eq]; omega) (fun _ _ => rfl) ⟨_, rfl, .nil⟩ ?_ ?_
  · rintro L2 i ys os g' C' R' v X l2 hi ⟨rfl, hv⟩ hy ho ⟨o, rfl, hys⟩
    obtain ⟨f, hf, hfa⟩ := hfs.get hv
    have hfm : f ∈ fs := List.mem_of_getElem? hf
    obtain ⟨hfo, hfd⟩ := hok f hfm
    obtain ⟨j, rfl⟩ : ∃ j, d = j + 1 := ⟨d - 1, by omega⟩
    have hpl := ih j rfl
    obtain ⟨o1, rfl⟩ : ∃ o, os = [o] := by
      cases os with
      | nil => simp at ho
      | cons a r => cases r with
        | nil => exact ⟨a, rfl⟩
        | cons _ _ => simp at ho
    simp only [List.nil_append, List.cons_append]
    repeat' lge_here
    rename_i ga va lea hpa
    refine ⟨[some v], (L, Frm [Str.ofString "form"] [o]) :: R, rfl, .same, o, rfl, ?_⟩
    have := (hys.mono (Q := PlainAt ga) fun _ _ x => x.le lea).snoc hpa
    rwa [show fs.take i ++ [f] = fs.take (i + 1) by rw [List.take_add_one, hf]; rfl] at this
  · rintro D L2 ys os' g' C' l2 hy ⟨o, rfl, hys⟩
    refine ⟨_, _, _, .same, ?_⟩
    repeat' lge_here
    rename_i g2 dd2 ll2 T2 g3 d3 l3 T3
    rw [List.take_of_length_le (by omega)] at hys
    refine' ⟨_, ?ccut, h g3 d3 ys _ (by kle_go) T3 (hys.mono fun _ _ x => x.le (ll2.trans l3))⟩
    case ccut => k_subL
theorem lplain_step (d : Nat) (ih : ∀ j, d = j + 1 → PLs j) : PLs d := by
  refine ⟨fun {w k g R v f post} hf hok hdp hk h => ?_⟩
  obtain ⟨n, rfl⟩ : ∃ n, k = n + 1 := ⟨k - 1, by omega⟩
  cases hf with
  | text hT hl hvs =>
    refine sp_of_cd (cd_fn (ps := [Str.ofString "form"]) (ns := []) (fs := [Str.ofString "form"]) (os := [some (.ref _)])
      (by k_is) (by k_is) rfl rfl rfl rfl (by decide +kernel) (by kernel_rfl) rfl rfl rfl (by kernel_rfl) ?_)
    intro L
    rename_i T l tt vs items
    have hlen := hvs.len
    obtain ⟨hk3, hio⟩ := hok
    repeat' lge_here
    refine' sp_comp (ns := [Str.ofString "mark", Str.ofString "width", Str.ofString "text"]) (fun _ => rfl) ?hcl rfl (by kernel_rfl) (by kernel_rfl) (by decide +kernel) ?_
    case hcl => rfl
    repeat' lge_here
    refine compKN (J := fun i ys g' C' => ∃ o, C' = (L, Frm [Str.ofString "form"] [o]) :: R ∧ StrsAre ys ((items.map itemText).take i)) (itr_list hl) (by rw [sizeLine_eq]; omega) (fun z => by cases z) ⟨_, rfl, .nil⟩ ?_ ?_
    · rintro L2 i ys os g' C' R' v X l2 hi ⟨rfl, hv⟩ hy ho ⟨o, rfl, hys⟩
      obtain ⟨it, hf, hfa⟩ := hvs.get hv
      have hfm : it ∈ items := List.mem_of_getElem? hf
      have hito := hio it hfm
      obtain ⟨o1, o2, o3, rfl⟩ := lis3 ho
      simp only [List.nil_append, List.cons_append]
      have z0 : (Str.ofString "").length = 0 := by decide
      have z1 : (Str.ofString "%").length = 1 := by decide
      cases hfa with
      | lit hT2 =>
        have z2 := litlen hito
        repeat' lge_here
        refine' ⟨_, (L, Frm [Str.ofString "form"] [o]) :: R, ?he1, .same, o, rfl, strs_item hys hf rfl⟩
        case he1 => rfl
      | fld hT2 =>
        have z2 := let19len hito.2
        have z3 := wtext_len hito.1
        have z4 : ∀ w ∈ [(0 : Int), 0, 3, 9], 0 ≤ w ∧ w < 10 := by decide
        have z5 := z4 _ hito.1
        repeat' lge_here
        all_goals refine' ⟨[some (.str _ _), some (.int _ _), some (.str _ _)], (L, Frm [Str.ofString "form"] [o]) :: R, rfl, .same, o, rfl, strs_item hys hf _⟩
        all_goals (dsimp only [itemText]; first | rw [if_pos (by assumption)] | rw [if_neg (by assumption)])
    · rintro D L2 ys os' g' C' l2 hy ⟨o, rfl, hys⟩
      refine ⟨_, _, _, .same, ?_⟩
      rw [List.take_of_length_le (by rw [List.length_map]; omega)] at hys
      repeat' lge_here
      have hsum : ∀ l : List ItemD, (∀ x ∈ l, x.ok) → ((l.map itemText).map (·.length)).sum ≤ 10 * l.length := by
        intro l
        induction l with
        | nil => intro _; simp
        | cons x r ihr =>
          intro hh
          have h1 := itemText_len (hh x (.head _))
          have h2 := ihr fun y hy => hh y (.tail _ hy)
          simp only [List.map_cons, List.sum_cons, List.length_cons] at h2 ⊢
          omega
      refine sp_join Has.head hys (by decide) (by have := hsum items hio; rw [List.length_map]; omega) fun tk => ?_
      repeat' lge_here
      exact ⟨_, .drop (.drop .same), h g' _ l2 .text⟩
  | seq0 hT hl =>
    refine lplain_seq ih hk hT hl .nil (fun _ hf => by cases hf) (by simp) fun g' T' ys s l hT' hys => ?_
    cases hys with
    | nil => exact h g' _ l (.seq0 hT')
  | seq1 hT hl h1 =>
    simp only [FormD.dp] at hdp
    simp only [FormD.ok] at hok
    refine lplain_seq ih hk hT hl (.cons h1 .nil) (fun f hf => by rw [List.mem_singleton.mp hf]; exact ⟨hok, hdp⟩) (by simp) fun g' T' ys s l hT' hys => ?_
    cases hys with
    | cons x hr =>
      cases hr with
      | nil => exact h g' _ l (.seq1 hT' x)
  | seq2 hT hl h1 h2 =>
    simp only [FormD.dp] at hdp
    obtain ⟨ho1, ho2⟩ := hok
    refine lplain_seq ih hk hT hl (.cons h1 (.cons h2 .nil)) (fun f hf => by
      simp only [List.mem_cons, List.not_mem_nil, or_false] at hf
      rcases hf with rfl | rfl
      · exact ⟨ho1, by omega⟩
      · exact ⟨ho2, by omega⟩) (by simp) fun g' T' ys s l hT' hys => ?_
    cases hys with
    | cons x hr =>
      cases hr with
      | cons y hr2 =>
        cases hr2 with
        | nil => exact h g' _ l (.seq2 hT' x y)
  | ite hT h1 h2 =>
    refine sp_of_cd (cd_fn (ps := [Str.ofString "form"]) (ns := []) (fs := [Str.ofString "form"]) (os := [some (.ref _)])
      (by k_is) (by k_is) rfl rfl rfl rfl (by decide +kernel) (by kernel_rfl) rfl rfl rfl (by kernel_rfl) ?_)
    intro L
    simp only [FormD.dp] at hdp
    obtain ⟨j, rfl⟩ : ∃ j, d = j + 1 := ⟨d - 1, by omega⟩
    have hpl := ih j rfl
    obtain ⟨ho0, ho1, ho2⟩ := hok
    repeat' lge_here
    rename_i ga va lea hpa gb vb leb hpb g3 d3 l3 T3
    refine' ⟨_, ?ccut, h g3 _ (by kle_go) (.ite T3 (hpa.le (leb.trans l3)) (hpb.le l3))⟩
    case ccut => k_subL
  | name hT =>
    refine sp_of_cd (cd_fn (ps := [Str.ofString "form"]) (ns := []) (fs := [Str.ofString "form"]) (os := [some (.ref _)])
      (by k_is) (by k_is) rfl rfl rfl rfl (by decide +kernel) (by kernel_rfl) rfl rfl rfl (by kernel_rfl) ?_)
    intro L
    repeat' lge_here
    refine ⟨_, .drop .same, h g _ (Le.refl _) (.name hT)⟩
  | width hT h1 =>
    refine sp_of_cd (cd_fn (ps := [Str.ofString "form"]) (ns := []) (fs := [Str.ofString "form"]) (os := [some (.ref _)])
      (by k_is) (by k_is) rfl rfl rfl rfl (by decide +kernel) (by kernel_rfl) rfl rfl rfl (by kernel_rfl) ?_)
    intro L
    simp only [FormD.dp] at hdp
    obtain ⟨j, rfl⟩ : ∃ j, d = j + 1 := ⟨d - 1, by omega⟩
    have hpl := ih j rfl
    obtain ⟨ho0, ho1⟩ := hok
    repeat' lge_here
    rename_i ga va lea hpa g3 d3 l3 T3
    refine' ⟨_, ?ccut, h g3 _ (by kle_go) (.width T3 (hpa.le l3))⟩
    case ccut => k_subL
  | face1 hT hF h1 =>
    refine sp_of_cd (cd_fn (ps := [Str.ofString "form"]) (ns := []) (fs := [Str.ofString "form"]) (os := [some (.ref _)])
      (by k_is) (by k_is) rfl rfl rfl rfl (by decide +kernel) (by kernel_rfl) rfl rfl rfl (by kernel_rfl) ?_)
    intro L
    simp only [FormD.dp] at hdp
    obtain ⟨j, rfl⟩ : ∃ j, d = j + 1 := ⟨d - 1, by omega⟩
    have hpl := ih j rfl
    simp only [FormD.ok] at hok
    repeat' lge_here
    rename_i ga va lea hpa g3 d3 l3 T3
    refine' ⟨_, ?ccut, h g3 _ (by kle_go) (.face1 T3 (by kpc_g) (hpa.le l3))⟩
    case ccut => k_subL
  | face2 hT hF h1 =>
    refine sp_of_cd (cd_fn (ps := [Str.ofString "form"]) (ns := []) (fs := [Str.ofString "form"]) (os := [some (.ref _)])
      (by k_is) (by k_is) rfl rfl rfl rfl (by decide +kernel) (by kernel_rfl) rfl rfl rfl (by kernel_rfl) ?_)
    intro L
    simp only [FormD.dp] at hdp
    obtain ⟨j, rfl⟩ : ∃ j, d = j + 1 := ⟨d - 1, by omega⟩
    have hpl := ih j rfl
    simp only [FormD.ok] at hok
    repeat' lge_here
    rename_i ga va lea hpa g3 d3 l3 T3
    refine' ⟨_, ?ccut, h g3 _ (by kle_go) (.face2 T3 (by kpc_g) (hpa.le l3))⟩
    case ccut => k_subL
theorem lplain_all : ∀ d, PLs d
  | 0 => lplain_step 0 fun j hj => by omega
  | m + 1 => lplain_step (m + 1) fun j hj => by
    obtain rfl : m = j := by omega
    exact lplain_all m
end

-- what the law says of a letter
section
variable {w : World} {n : Nat} {g : Heap} {N : Led} {env : Env}
noncomputable def ArmS (w : World) (n : Nat) (t : Sem Value) (g : Heap) (N : Led) (x : Str) : Prop := Sp w n t g N (fun v g2 N2 => g2 = g ∧ N2 = N ∧ ∃ t, v = .str x t)
noncomputable def IfS (w : World) (n : Nat) (b o : Sem Value) (post : Value → Heap → Led → Prop) (c : Bool) (g : Heap) (N : Led) : Prop := ∃ x y : Str, ArmS w n b g N x ∧ ArmS w n o g N y ∧ ∀ t, post (.str (if c = true then x else y) t) g N
theorem ifS {b o : Sem Value} {post : Value → Heap → Led → Prop} {c : Bool} {x y : Str} (h1 : ArmS w n b g N x) (h2 : ArmS w n o g N y) (h : ∀ t, post (.str (if c = true then x else y) t) g N) : IfS w n b o post c g N := ⟨x, y, h1, h2, h⟩
theorem arm {t : Sem Value} {x : Str} (h : Sp w n t g N (fun v g2 N2 => g2 = g ∧ N2 = N ∧ ∃ t, v = .str x t)) : ArmS w n t g N x := h
/-- a conditional expression whose arms are texts: no branching -/
theorem sp_ifS {t b o : Expr} {p : Pos} {post : Value → Heap → Led → Prop} (h : Sp w n (isTrue t env (eval t env)) g N (IfS w n (eval b env) (eval o env) post)) : Sp w n (eval (.IfExp t b o p) env) g N post :=
  sp_ifexp (sp_mono h fun c g1 N1 _ ⟨x, y, h1, h2, hp⟩ => ⟨fun hc => sp_mono h1 fun v g2 N2 _ ⟨e1, e2, tk, e3⟩ => by
    subst e1 e2 e3
    have := hp tk
    rwa [if_pos hc] at this, fun hc => sp_mono h2 fun v g2 N2 _ ⟨e1, e2, tk, e3⟩ => by
    subst e1 e2 e3
    have := hp tk
    rwa [if_neg (by rw [hc]; decide)] at this⟩)
end
noncomputable def shareF (part whole : Int) : Int := min 99 (part * 100 / whole)
theorem pct_eq {part whole : Int} : Str.empty ++ two (shareF part whole) ++ Str.ofString "%" = pctF part whole := by
  unfold pctF shareF
  rw [Int.mul_comm]
theorem empty_app (x : Str) : Str.empty ++ x = x := by
  show (⟨#[] ++ x.cps⟩ : Str) = x
  simp
theorem lit_empty : Str.ofString "" = Str.empty := by decide
section
set_option maxRecDepth 100000
set_option maxHeartbeats 0
end
local macro_rules | `(tactic| kl_some) => `(tactic| first
  | with_reducible refine' sp_ifS ?_
  | (with_reducible refine' ifS ?a ?b ?h); (case a => (refine' arm ?ar; (case ar => ((repeat' kl_some); exact ⟨rfl, rfl, _, rfl⟩)))); (case b => (refine' arm ?ar; (case ar => ((repeat' kl_some); exact ⟨rfl, rfl, _, rfl⟩)))); intro _
  | lge_here)
theorem nat99 {x : Int} (h : 0 ≤ x) : (min 99 x).natAbs < 2 ^ 62 := by
  have h1 : 0 ≤ min 99 x := Int.le_min.mpr ⟨by decide, h⟩
  have h2 : min 99 x ≤ 99 := Int.min_le_left _ _
  omega
section
set_option maxRecDepth 100000
set_option maxHeartbeats 0
theorem sp_lpercent {w : World} {n : Nat} {g : Heap} {R : Led} {part whole : Int} {t1 t2 : Tok} {post : Value → Heap → Led → Prop} (h0 : 0 ≤ part) (h1 : part ≤ 10000000) (h2 : 0 < whole) (h3 : whole < 10000000) (h : ∀ tk, post (.str (pctF part whole) tk) g R) :
    Sp w (n + 1) (call (.ref 316) [.int part t1, .int whole t2]) g R post := by
  have hd0 : 0 ≤ part * 100 / whole := Int.ediv_nonneg (by omega) (by omega)
  have hl := int_str_len (a := min 99 (part * 100 / whole)) (by omega) (by omega)
  have hn := nat99 hd0
  have z1 : (Str.ofString " ").length = 1 := by decide
  have z0 : (Str.ofString "").length = 0 := by decide
  have z2 : (Str.ofString "%").length = 1 := by decide
  have z3 : (if decide (min 99 (part * 100 / whole) < 10) = true then Str.ofString " " else Str.ofString "").length ≤ 1 := by split <;> omega
  refine sp_of_cd (cd_fn (ps := [Str.ofString "part", Str.ofString "size_all"]) (ns := [Str.ofString "share"]) (fs := [Str.ofString "part", Str.ofString "size_all", Str.ofString "share"]) (os := [some (.int part t1), some (.int whole t2), none])
    (by k_is) (by k_is) rfl rfl rfl rfl (by decide +kernel) (by kernel_rfl) rfl rfl rfl (by kernel_rfl) ?_)
  intro L
  repeat' kl_some
  refine ⟨_, .drop .same, strOut h ?_⟩
  rw [← pct_eq, empty_app]
  unfold two shareF
  congr 2
  by_cases hs : min 99 (part * 100 / whole) < 10
  · simp [hs]
  · simp [hs, lit_empty]
end
local macro_rules | `(tactic| kl_room) => `(tactic| first
  | ((with_reducible refine' sp_lpercent ?a ?b ?c ?d ?h); (case a | b | c | d => kpt_len); intro _))
section
set_option maxRecDepth 100000
set_option maxHeartbeats 0
theorem lets19_eq : lets19 = [Str.ofString "b", Str.ofString "f", Str.ofString "m", Str.ofString "l", Str.ofString "c", Str.ofString "C", Str.ofString "p", Str.ofString "P", Str.ofString "i", Str.ofString "I", Str.ofString "*", Str.ofString "+", Str.ofString "&", Str.ofString "n", Str.ofString "[", Str.ofString "]", Str.ofString "%", Str.ofString "-", Str.ofString "q"] := by decide +kernel
theorem told18 (F : FD) : toldF F (Str.ofString "-") = Str.ofString "" := by kernel_rfl
noncomputable def lbrk (F : FD) (sign dots : Str) : Str := if decide (F.deep > 5) = true then dots else Txt.mul sign F.deep
theorem lbrk_eq (F : FD) (sign dots : Str) : lbrk F sign dots = brkF F sign dots := by
  unfold lbrk brkF
  by_cases hd : F.deep ≤ 5
  · rw [if_pos hd, if_neg (by simp; omega)]
  · rw [if_neg hd, if_pos (by simp; omega)]
theorem lfact_size {F : FD} {t0 t1 t2 t3 t4 t5 : Tok} (h : F.size ∈ sizes) : ∃ tk, valueAt [((0 : Int), Value.str (Str.ofString "0") t0), ((7 : Int), Value.str (Str.ofString "7") t1), ((130 : Int), Value.str (Str.ofString "130") t2), ((1200 : Int), Value.str (Str.ofString "1.2k") t3), ((45000 : Int), Value.str (Str.ofString "45k") t4), ((3000000 : Int), Value.str (Str.ofString "3.0M") t5)] (1 + F.size - 1) = some (.str (toldF F (Str.ofString "I")) tk) := by
  rw [told9]
  simp only [sizes, List.mem_cons, List.not_mem_nil, or_false] at h
  rcases h with h | h | h | h | h | h
  · exact ⟨t0, by rw [h, show shortF (1 + 0 - 1) = Str.ofString "0" by decide +kernel]; exact VAt.at (by kfm_hd)⟩
  · exact ⟨t1, by rw [h, show shortF (1 + 7 - 1) = Str.ofString "7" by decide +kernel]; exact VAt.at (by kfm_hd)⟩
  · exact ⟨t2, by rw [h, show shortF (1 + 130 - 1) = Str.ofString "130" by decide +kernel]; exact VAt.at (by kfm_hd)⟩
  · exact ⟨t3, by rw [h, show shortF (1 + 1200 - 1) = Str.ofString "1.2k" by decide +kernel]; exact VAt.at (by kfm_hd)⟩
  · exact ⟨t4, by rw [h, show shortF (1 + 45000 - 1) = Str.ofString "45k" by decide +kernel]; exact VAt.at (by kfm_hd)⟩
  · exact ⟨t5, by rw [h, show shortF (1 + 3000000 - 1) = Str.ofString "3.0M" by decide +kernel]; exact VAt.at (by kfm_hd)⟩
theorem lfact_key0 {kvs : List (Str × Value)} {F : FD} {c : Str} {t0 t1 t2 t3 t4 t5 t6 t7 t8 t9 t10 t11 t12 t13 t14 : Tok} (hc : c ∈ lets19) (n1 : ¬ c = Str.ofString "p") (n2 : ¬ c = Str.ofString "P") (n3 : ¬ c = Str.ofString "I")
    (h0 : VAt kvs (Str.ofString "b") (Value.str F.name t0)) (h1 : VAt kvs (Str.ofString "f") (Value.str F.file t1)) (h2 : VAt kvs (Str.ofString "m") (Value.str (Str.ofString "Fundamental") t2)) (h3 : VAt kvs (Str.ofString "l") (Value.str (Str.ofString (toString F.line)) t3)) (h4 : VAt kvs (Str.ofString "c") (Value.str (Str.ofString (toString F.column)) t4)) (h5 : VAt kvs (Str.ofString "C") (Value.str (Str.ofString (toString (F.column + 1))) t5)) (h6 : VAt kvs (Str.ofString "i") (Value.str (Str.ofString (toString (1 + F.size - 1))) t6)) (h7 : VAt kvs (Str.ofString "%") (Value.str (Str.ofString "%") t7)) (h8 : VAt kvs (Str.ofString "n") (Value.str (narF F) t8)) (h9 : VAt kvs (Str.ofString "*") (Value.str (starF F) t9)) (h10 : VAt kvs (Str.ofString "+") (Value.str (plusF F) t10)) (h11 : VAt kvs (Str.ofString "&") (Value.str (ampF F) t11)) (h12 : VAt kvs (Str.ofString "[") (Value.str (brkF F (Str.ofString "[") (Str.ofString "[[[... ")) t12)) (h13 : VAt kvs (Str.ofString "]") (Value.str (brkF F (Str.ofString "]") (Str.ofString " ...]]]")) t13)) (hm : valueAt kvs (Str.ofString "-") = none) (hq : valueAt kvs (Str.ofString "q") = none) :
    ∃ tk, (valueAt kvs c).getD (.str (Str.ofString "") t14) = .str (toldF F c) tk := by
  rw [lets19_eq] at hc
  simp only [List.mem_cons, List.not_mem_nil, or_false] at hc
  rcases hc with rfl | rfl | rfl | rfl | rfl | rfl | rfl | rfl | rfl | rfl | rfl | rfl | rfl | rfl | rfl | rfl | rfl | rfl | rfl
  · exact ⟨t0, by rw [VAt.at h0, told0]; rfl⟩
  · exact ⟨t1, by rw [VAt.at h1, told1]; rfl⟩
  · exact ⟨t2, by rw [VAt.at h2, told2]; rfl⟩
  · exact ⟨t3, by rw [VAt.at h3, told3]; rfl⟩
  · exact ⟨t4, by rw [VAt.at h4, told4]; rfl⟩
  · exact ⟨t5, by rw [VAt.at h5, told5]; rfl⟩
  · exact absurd rfl n1
  · exact absurd rfl n2
  · exact ⟨t6, by rw [VAt.at h6, told8]; rfl⟩
  · exact absurd rfl n3
  · exact ⟨t9, by rw [VAt.at h9, told10]; rfl⟩
  · exact ⟨t10, by rw [VAt.at h10, told11]; rfl⟩
  · exact ⟨t11, by rw [VAt.at h11, told12]; rfl⟩
  · exact ⟨t8, by rw [VAt.at h8, told13]; rfl⟩
  · exact ⟨t12, by rw [VAt.at h12, told14]; rfl⟩
  · exact ⟨t13, by rw [VAt.at h13, told15]; rfl⟩
  · exact ⟨t7, by rw [VAt.at h7, told16]; rfl⟩
  · exact ⟨t14, by rw [hm, told18]; rfl⟩
  · exact ⟨t14, by rw [hq, told17]; rfl⟩
theorem lfact_key {F : FD} {c : Str} {t0 t1 t2 t3 t4 t5 t6 t7 t8 t9 t10 t11 t12 t13 t14 : Tok} (hc : c ∈ lets19) (n1 : ¬ c = Str.ofString "p") (n2 : ¬ c = Str.ofString "P") (n3 : ¬ c = Str.ofString "I") :
    ∃ tk, (valueAt [(Str.ofString "b", Value.str F.name t0), (Str.ofString "f", Value.str F.file t1), (Str.ofString "m", Value.str (Str.ofString "Fundamental") t2), (Str.ofString "l", Value.str (Str.ofString (toString F.line)) t3), (Str.ofString "c", Value.str (Str.ofString (toString F.column)) t4),
      (Str.ofString "C", Value.str (Str.ofString (toString (F.column + 1))) t5), (Str.ofString "i", Value.str (Str.ofString (toString (1 + F.size - 1))) t6), (Str.ofString "%", Value.str (Str.ofString "%") t7), (Str.ofString "n", Value.str (narF F) t8),
      (Str.ofString "*", Value.str (starF F) t9), (Str.ofString "+", Value.str (plusF F) t10), (Str.ofString "&", Value.str (ampF F) t11), (Str.ofString "[", Value.str (lbrk F (Str.ofString "[") (Str.ofString "[[[... ")) t12), (Str.ofString "]", Value.str (lbrk F (Str.ofString "]") (Str.ofString " ...]]]")) t13)] c).getD (.str (Str.ofString "") t14) = .str (toldF F c) tk := by
  rw [lbrk_eq, lbrk_eq]
  exact lfact_key0 hc n1 n2 n3 (by kfm_hd) (by kfm_hd) (by kfm_hd) (by kfm_hd) (by kfm_hd) (by kfm_hd) (by kfm_hd) (by kfm_hd) (by kfm_hd) (by kfm_hd) (by kfm_hd) (by kfm_hd) (by kfm_hd) (by kfm_hd) (valueAt_none (by rfl)) (valueAt_none (by rfl))
theorem lfact_use {F : FD} {c : Str} {t0 t1 t2 t3 t4 t5 t6 t7 t8 t9 t10 t11 t12 t13 t14 : Tok} {post : Value → Prop} (hc : c ∈ lets19) (n1 : ¬ c = Str.ofString "p") (n2 : ¬ c = Str.ofString "P") (n3 : ¬ c = Str.ofString "I") (h : ∀ tk, post (.str (toldF F c) tk)) : post ((valueAt [(Str.ofString "b", Value.str F.name t0), (Str.ofString "f", Value.str F.file t1), (Str.ofString "m", Value.str (Str.ofString "Fundamental") t2), (Str.ofString "l", Value.str (Str.ofString (toString F.line)) t3), (Str.ofString "c", Value.str (Str.ofString (toString F.column)) t4),
      (Str.ofString "C", Value.str (Str.ofString (toString (F.column + 1))) t5), (Str.ofString "i", Value.str (Str.ofString (toString (1 + F.size - 1))) t6), (Str.ofString "%", Value.str (Str.ofString "%") t7), (Str.ofString "n", Value.str (narF F) t8),
      (Str.ofString "*", Value.str (starF F) t9), (Str.ofString "+", Value.str (plusF F) t10), (Str.ofString "&", Value.str (ampF F) t11), (Str.ofString "[", Value.str (lbrk F (Str.ofString "[") (Str.ofString "[[[... ")) t12), (Str.ofString "]", Value.str (lbrk F (Str.ofString "]") (Str.ofString " ...]]]")) t13)] c).getD (.str (Str.ofString "") t14)) := by
  obtain ⟨tk, e⟩ := lfact_key (t0 := t0) (t1 := t1) (t2 := t2) (t3 := t3) (t4 := t4) (t5 := t5) (t6 := t6) (t7 := t7) (t8 := t8) (t9 := t9) (t10 := t10) (t11 := t11) (t12 := t12) (t13 := t13) (t14 := t14) hc n1 n2 n3
  rw [e]; exact h tk
theorem sp_lfact {w : World} {n : Nat} {g : Heap} {R : Led} {f df : Addr} {t : FT} {F : FD} {c : Str} {t1 : Tok} {post : Value → Heap → Led → Prop} (hf : FactsAt g f df t F) (hok : LFOk F) (hc : c ∈ lets19) (h : ∀ tk g', Le g g' → post (.str (toldF F c) tk) g' R) :
    Sp w (n + 2) (call (.ref 323) [.ref f, .str c t1]) g R post := by
  obtain ⟨hi, ha⟩ := hf
  obtain ⟨⟨o1, o2, o3, o4, o5, o6, o7, o8, o9, o10, o11, o12, o13, o14⟩, hsz⟩ := hok
  have hz : ∀ a b (x : Nat), 0 ≤ a → 0 ≤ b → x ≤ 10 → x + (pctF a b).length ≤ sizeLine := by
    intro a b x ha hb hx
    have hd0 : 0 ≤ 100 * a / b := Int.ediv_nonneg (by omega) (by omega)
    have hl := two_len' (a := min 99 (100 * a / b)) (by omega) (by omega)
    unfold pctF
    rw [str_app_len, str_app_len, hl, sizeLine_eq]
    have : (Str.ofString "%").length = 1 := by decide
    have : Str.empty.length = 0 := by decide
    omega
  have hz1 := hz (F.bottom - 1) (1 + F.size - 1) (if decide (F.top ≤ 1) = true then Str.ofString "Top" else Str.ofString "").length (by omega) (by omega) (by split <;> decide)
  refine sp_of_cd (cd_fn (ps := [Str.ofString "facts", Str.ofString "letter"]) (ns := [Str.ofString "is_top", Str.ofString "is_bottom", Str.ofString "size", Str.ofString "tells"]) (fs := [Str.ofString "facts", Str.ofString "letter", Str.ofString "is_top", Str.ofString "is_bottom", Str.ofString "size", Str.ofString "tells"]) (os := [some (.ref f), some (.str c t1), none, none, none, none])
    (by k_is) (by k_is) rfl rfl rfl rfl (by decide +kernel) (by kernel_rfl) rfl rfl rfl (by kernel_rfl) ?_)
  intro L
  have nP : ¬ (Str.ofString "P" = Str.ofString "p") := by decide
  repeat' kl_some
  all_goals try ((with_reducible show IfS _ _ _ _ _ _ _ _); exfalso; lia)
  rotate_right 2
  · with_reducible refine' sp_dictKi ?ki1 ?ki2 ?ki3 ?ki4 ?ki5
    case ki1 => rfl
    case ki2 => rfl
    case ki3 => exact List.cons_ne_nil _ _
    case ki4 => exact Nat.le_of_ble_eq_true rfl
    intro d hd
    repeat' kl_some
    have e : c = Str.ofString "I" := by with_reducible assumption
    subst e
    refine' sp_getDI ?gg1 ?gg2 ?gg3 ?gg4
    case gg1 => exact Has.head
    case gg2 => exact Classical.choose_spec (lfact_size hsz)
    case gg3 => rfl
    case gg4 =>
      repeat' kl_some
      exact ⟨_, .drop (.drop .same), strOut (fun tk => h tk _ (by kle_go)) rfl⟩
  · refine sp_apart fun hne => ?_
    refine' sp_updateK ?ha ?hb ?hc ?hd ?he ?hf ?hg ?hi ?hj ?hk
    case ha => k_clsL
    case hb => with_reducible assumption
    case hc => k_clsL
    case hd => exact fun e => hne e.symm
    case he => rfl
    case hf => rfl
    case hg => kfm_cat1
    case hi => kbo_bools
    case hj => simp
    repeat' kl_some
    refine sp_get2 (by with_reducible assumption) (by k_clsL) ?_
    repeat' kl_some
    refine ⟨R, by k_subL, ?_⟩
    exact lfact_use (post := fun v => post v _ R) hc (by with_reducible assumption) (by with_reducible assumption) (by with_reducible assumption) fun tk => h tk _ (by kle_go)
  all_goals
    refine ⟨_, .drop .same, strOut (fun tk => h tk _ (by kle_go)) ?_⟩
    first
      | (have e : c = Str.ofString "p" := by with_reducible assumption
         subst e
         first
           | exact absurd (show Str.ofString "P" = Str.ofString "p" from Eq.symm (by with_reducible assumption)) nP
           | exact absurd rfl (show ¬ Str.ofString "p" = Str.ofString "p" by with_reducible assumption)
           | (rw [told6]; simp [topF, *]))
      | (have e : c = Str.ofString "P" := by with_reducible assumption
         subst e
         first
           | exact absurd (by with_reducible assumption) nP
           | (rw [told7]; simp [botF, *]))
end

-- the slow reader's cells
theorem pctF_len {a b : Int} (ha : 0 ≤ a) (hb : 0 ≤ b) : (pctF a b).length ≤ 3 := by
  have hd0 : 0 ≤ 100 * a / b := Int.ediv_nonneg (by omega) (by omega)
  have hl := two_len' (a := min 99 (100 * a / b)) (by omega) (by omega)
  unfold pctF
  rw [str_app_len, str_app_len, hl]
  have : (Str.ofString "%").length = 1 := by decide
  have : Str.empty.length = 0 := by decide
  omega
theorem mul_len (x : Str) (k : Int) (hk : k ≤ 100) (hx : x.length = 1) : (Txt.mul x k).length ≤ 100 := by
  unfold Txt.mul
  split
  · decide
  · split
    · omega
    · have key : ∀ (n : Nat) (acc : Array Nat), (List.foldl (fun x1 x2 => x1 ++ x2) acc (List.replicate n x.cps)).size = acc.size + n * x.cps.size := by
        intro n
        induction n with
        | zero => intro acc; simp
        | succ n ih => intro acc; rw [List.replicate_succ, List.foldl_cons, ih, Array.size_append, Nat.succ_mul]; omega
      show (List.foldl (fun x1 x2 => x1 ++ x2) #[] (List.replicate k.toNat x.cps)).size ≤ 100
      rw [key]
      have : x.cps.size = 1 := hx
      rw [this]; simp; omega
theorem shortLoop_bnd : ∀ (k : Nat) (n t p : Int), 0 ≤ n → n ≤ 10000000 → 0 ≤ t → t < 1000 → 0 ≤ (shortLoop k n t p).1 ∧ (shortLoop k n t p).1 ≤ 10000000 ∧ 0 ≤ (shortLoop k n t p).2.1 ∧ (shortLoop k n t p).2.1 < 1000
  | 0, n, t, p, a, b, c, d => ⟨a, b, c, d⟩
  | k + 1, n, t, p, a, b, c, d => by
    unfold shortLoop
    split
    · have h1 := Int.emod_lt_of_pos n (show (0 : Int) < 1000 by omega)
      have h2 := Int.emod_nonneg n (show (1000 : Int) ≠ 0 by omega)
      exact shortLoop_bnd k _ _ _ (by omega) (by omega) (by omega) (by omega)
    · exact ⟨a, b, c, d⟩
theorem shortF_len {a : Int} (h0 : 0 ≤ a) (h1 : a ≤ 10000000) : (shortF a).length ≤ 2002 := by
  have hb := shortLoop_bnd 3 a 0 0 h0 h1 (by omega) (by omega)
  unfold shortF
  dsimp only
  rw [str_app_len, str_app_len, str_app_len]
  have z1 := suf_len (shortLoop 3 a 0 0).2.2
  have z2 := int_str_len hb.1 (by omega)
  have z3 := int_str_len hb.2.2.1 (by omega)
  have z4 : (Str.ofString ".").length = 1 := by decide
  have z5 : Str.empty.length = 0 := by decide
  have z6 : (Str.ofString "").length = 0 := by decide
  have z7 : (pointF (shortLoop 3 a 0 0)).length ≤ 1001 := by
    unfold pointF
    split
    · rw [str_app_len, str_app_len]; omega
    · omega
  omega
theorem toldF_len {F : FD} {c : Str} (ok : FOk F) (hc : c ∈ lets19) : (toldF F c).length ≤ 2002 := by
  obtain ⟨o1, o2, o3, o4, o5, o6, o7, o8, o9, o10, o11, o12, o13, o14⟩ := ok
  rw [lets19_eq] at hc
  simp only [List.mem_cons, List.not_mem_nil, or_false] at hc
  have s1 : ∀ a : Int, 0 ≤ a → a < 2 ^ 60 → (Str.ofString (toString a)).length ≤ 1000 := fun a h h' => int_str_len h h'
  rcases hc with rfl | rfl | rfl | rfl | rfl | rfl | rfl | rfl | rfl | rfl | rfl | rfl | rfl | rfl | rfl | rfl | rfl | rfl | rfl
  · rw [told0]; omega
  · rw [told1]; omega
  · rw [told2]; decide
  · rw [told3]; exact Nat.le_trans (s1 _ (by omega) (by omega)) (by decide)
  · rw [told4]; exact Nat.le_trans (s1 _ (by omega) (by omega)) (by decide)
  · rw [told5]; exact Nat.le_trans (s1 _ (by omega) (by omega)) (by decide)
  · rw [told6]; unfold topF
    have := pctF_len (a := F.top - 1) (b := 1 + F.size - 1) (by omega) (by omega)
    split
    · split <;> decide
    · split
      · decide
      · omega
  · rw [told7]; unfold botF
    have := pctF_len (a := F.bottom - 1) (b := 1 + F.size - 1) (by omega) (by omega)
    split
    · split <;> decide
    · rw [str_app_len]
      have h9 : (if F.top ≤ 1 then Str.ofString "Top" else Str.ofString "").length ≤ 20 := by split <;> decide
      omega
  · rw [told8]; exact Nat.le_trans (s1 _ (by omega) (by omega)) (by decide)
  · rw [told9]; exact shortF_len (by omega) (by omega)
  · rw [told10]; unfold starF; split
    · decide
    · split <;> decide
  · rw [told11]; unfold plusF; split
    · decide
    · split <;> decide
  · rw [told12]; unfold ampF; split <;> decide
  · rw [told13]; unfold narF; split <;> decide
  · rw [told14]; unfold brkF; split
    · exact Nat.le_trans (mul_len _ _ o12 (by decide)) (by decide)
    · decide
  · rw [told15]; unfold brkF; split
    · exact Nat.le_trans (mul_len _ _ o12 (by decide)) (by decide)
    · decide
  · rw [told16]; decide
  · rw [told18]; decide
  · rw [told17]; decide
noncomputable abbrev CellD := Nat × List Str
noncomputable def toCells (x : Str) (fs : List Str) : List CellD := x.cps.toList.map fun c => (c, fs)
noncomputable def itemOut (F : FD) (room : Int) (found : Str) : ItemD → Str
  | .lit t => found ++ t ++ Txt.mul (Str.ofString " ") (max 0 (0 - t.length))
  | .fld w c =>
    let own := if c = Str.ofString "-" then Txt.mul (Str.ofString "-") (max 0 (room - found.length)) else toldF F c
    found ++ own ++ Txt.mul (Str.ofString " ") (max 0 (w - own.length))
noncomputable def textOut (F : FD) (room : Int) (l : List ItemD) : Str := l.foldl (itemOut F room) (Str.ofString "")
noncomputable def nmGet (nm : List (Str × Str)) (x : Str) : Option Str := (nm.find? fun p => decide (p.1 = x)).map (·.2)
noncomputable def lcells (F : FD) (nm : List (Str × Str)) (width : Int) : FormD → List Str → Int → List CellD
  | .text l, fs, done => toCells (textOut F (width - done) l) fs
  | .seq0, _, _ => []
  | .seq1 a, fs, done => lcells F nm width a fs done
  | .seq2 a b, fs, done => let x := lcells F nm width a fs done; x ++ lcells F nm width b fs (done + x.length)
  | .ite x a b, fs, done => if (nmGet nm x).isSome = true then lcells F nm width a fs done else lcells F nm width b fs done
  | .name x, fs, _ => toCells ((nmGet nm x).getD (Str.ofString "")) fs
  | .width k a, fs, done => let x := lcells F nm width a fs done; if k < 0 then x.take (-k).toNat else x ++ List.replicate (k - x.length).toNat (32, [])
  | .face1 a, fs, done => lcells F nm width a ([Str.ofString "k"] ++ fs) done
  | .face2 a, fs, done => lcells F nm width a ([Str.ofString "k", Str.ofString "l"] ++ fs) done
noncomputable def Fc (g : Heap) (v : Value) (fs : List Str) : Prop := ∃ F vs, v = .ref F ∧ AtG g F (IsTupl vs) ∧ StrsAre vs fs
theorem Fc.le {g g' : Heap} {v : Value} {fs : List Str} (h : Fc g v fs) (l : Le g g') : Fc g' v fs := let ⟨F, vs, e, a, b⟩ := h; ⟨F, vs, e, a.le l, b⟩
noncomputable def LCell (g : Heap) (v : Value) (c : CellD) : Prop := ∃ T t fv, v = .ref T ∧ AtG g T (IsTupl [.str ⟨#[c.1]⟩ t, fv]) ∧ Fc g fv c.2
theorem LCell.le {g g' : Heap} {v : Value} {c : CellD} (h : LCell g v c) (l : Le g g') : LCell g' v c := let ⟨T, t, fv, e, a, b⟩ := h; ⟨T, t, fv, e, a.le l, b.le l⟩
structure NmAt (w : World) (g : Heap) (d : Addr) (nm : List (Str × Str)) : Prop where
  mods : (d == sysModules) = false
  at_ : ∃ kvs, AtG g d (Dic w kvs) ∧ All2 (fun (p : Str × Value) (q : Str × Str) => p.1 = q.1 ∧ ∃ t, p.2 = .str q.2 t) kvs nm
theorem NmAt.le {w : World} {g g' : Heap} {d : Addr} {nm : List (Str × Str)} (h : NmAt w g d nm) (l : Le g g') : NmAt w g' d nm := ⟨h.mods, let ⟨k, a, b⟩ := h.at_; ⟨k, a.le l, b⟩⟩
theorem nm_value {kvs : List (Str × Value)} {nm : List (Str × Str)} (h : All2 (fun (p : Str × Value) (q : Str × Str) => p.1 = q.1 ∧ ∃ t, p.2 = .str q.2 t) kvs nm) (x : Str) :
    (nmGet nm x = none ∧ valueAt kvs x = none) ∨ ∃ s t, nmGet nm x = some s ∧ valueAt kvs x = some (.str s t) := by
  induction h with
  | nil => exact .inl ⟨rfl, rfl⟩
  | cons hp _ ih =>
    rename_i p q _ _ _
    obtain ⟨e, t, e2⟩ := hp
    obtain ⟨k, v⟩ := p
    obtain ⟨k', s⟩ := q
    simp only at e e2
    subst e e2
    by_cases hk : k = x
    · exact .inr ⟨s, t, by simp [nmGet, hk], by simp [valueAt, hk]⟩
    · unfold nmGet valueAt at ih ⊢
      rw [List.find?_cons, List.find?_cons, decide_eq_false hk]
      exact ih
theorem sc1 {k : Str} {s : Tok} {vs : List Value} {fs : List Str} (h : StrsAre vs fs) : StrsAre ([.str k s] ++ vs) ([k] ++ fs) := .cons k s h
theorem sc2 {k k' : Str} {s s' : Tok} {vs : List Value} {fs : List Str} (h : StrsAre vs fs) : StrsAre ([.str k s, .str k' s'] ++ vs) ([k, k'] ++ fs) := .cons k s (.cons k' s' h)
theorem All2.take {α β : Type} {P : α → β → Prop} {as : List α} {bs : List β} (h : All2 P as bs) : ∀ n, All2 P (as.take n) (bs.take n) := by
  induction h with
  | nil => intro n; simp; exact .nil
  | cons x _ ih => intro n; cases n with
    | zero => exact .nil
    | succ n => exact .cons x (ih n)
theorem All2.app {α β : Type} {P : α → β → Prop} {as as' : List α} {bs bs' : List β} (h : All2 P as bs) (h' : All2 P as' bs') : All2 P (as ++ as') (bs ++ bs') := by
  induction h with
  | nil => exact h'
  | cons x _ ih => exact .cons x ih
theorem All2.rep {α β : Type} {P : α → β → Prop} {a : α} {b : β} (h : P a b) : ∀ n, All2 P (List.replicate n a) (List.replicate n b)
  | 0 => .nil
  | n + 1 => .cons h (All2.rep h n)
theorem Fc.mk {g : Heap} {F : Addr} {vs : List Value} {fs : List Str} (a : AtG g F (IsTupl vs)) (b : StrsAre vs fs) : Fc g (.ref F) fs := ⟨F, vs, rfl, a, b⟩
theorem sp_inDb {w : World} {n : Nat} {g : Heap} {N : Led} {d : Addr} {kvs : List (Str × Value)} {x : Str} {t : Tok} {b : Bool} {post : Value → Heap → Led → Prop} (hm : (d == sysModules) = false) (hd : Has g N d (Dic w kvs)) (hv : (valueAt kvs x).isSome = b) (h : post (.bool b) g N) : Sp w n (compareOp .In (.str x t) (.ref d)) g N post := sp_inD hm hd (hv ▸ h)
noncomputable def bnd (d : Nat) : Nat := 7000 * 2 ^ d
structure LCs (d : Nat) : Prop where
  use : ∀ {w : World} {k : Nat} {g : Heap} {R : Led} {v fv : Value} {f : FormD} {fa df dn : Addr} {t : FT} {F : FD} {nm : List (Str × Str)} {fs : List Str} {done : Int} {width : Int} {t1 t2 : Tok} {post : Value → Heap → Led → Prop},
    FormAt g v f → f.ok → f.dp ≤ d → f.dp ≤ 3 → d + 4 ≤ k → FactsAt g fa df t F → LFOk F → NmAt w g dn nm → (∀ p ∈ nm, p.2.length ≤ 10) → Fc g fv fs → fs.length + 2 * f.dp ≤ 1000 → 0 ≤ done → done ≤ 200000 * (4 - (f.dp : Int)) → 0 ≤ width → width ≤ 40 →
    (∀ g' a vs, Le g g' → All2 (LCell g') vs (lcells F nm width f fs done) → vs.length ≤ bnd f.dp → vs.length ≤ 60000 → post (.ref a) g' ((a, IsLst vs) :: R)) →
    Sp w k (call (.ref 328) [v, .ref fa, .ref dn, fv, .int done t1, .int width t2]) g R post
theorem cells_len (x : Str) (fs : List Str) : (toCells x fs).length = x.length := by
  unfold toCells; rw [List.length_map]; rfl
local macro_rules | `(tactic| kxi_size) => `(tactic| first | ((with_reducible refine' sc1 ?kq); (case kq => with_reducible assumption)) | ((with_reducible refine' sc2 ?kq); (case kq => with_reducible assumption)))
local macro_rules | `(tactic| kt_fact) => `(tactic| first | with_reducible assumption | ((with_reducible refine' Fc.mk ?ka ?kb); (case ka => with_reducible assumption); (case kb => kxi_size)) | (refine' Fc.le ?kz ?kl; (case kl => with_reducible assumption); (case kz => kt_fact)))
local macro_rules | `(tactic| l_fact) => `(tactic| first | with_reducible assumption | (refine' FactsAt.le ?kz ?kl; (case kl => with_reducible assumption); (case kz => l_fact)))
local macro_rules | `(tactic| kxi_fact) => `(tactic| first | with_reducible assumption | (refine' NmAt.le ?kz ?kl; (case kl => with_reducible assumption); (case kz => kxi_fact)))
local macro_rules | `(tactic| kl_room) => `(tactic| first
  | (with_reducible refine' LCs.use ?lc ?fa ?ok ?dp ?d3 ?kk ?fx ?fok ?nx ?nl ?fc ?fl ?dn0 ?dn ?w0 ?w1 ?h); (case lc => with_reducible assumption); (case fa => km_fact); (case ok => with_reducible assumption); (case dp | d3 | kk => omega); (case fx => l_fact); (case fok => with_reducible assumption); (case nx => kxi_fact); (case nl => with_reducible assumption); (case fc => kt_fact); (case fl => first | omega | (simp only [List.length_append, List.length_cons, List.length_nil]; omega)); (case dn0 | dn | w0 | w1 => omega); intro _ _ _ _ _ _ _
  | (with_reducible refine' sp_lfact ?a ?b ?c ?h); (case a => l_fact); (case b | c => with_reducible assumption); intro _ _ _)
noncomputable def FormD.isSeq : FormD → Bool
  | .seq0 => true
  | .seq1 _ => true
  | .seq2 _ _ => true
  | _ => false
theorem bnd_mono {a b : Nat} (h : a ≤ b) : bnd a ≤ bnd b := Nat.mul_le_mul_left _ (Nat.pow_le_pow_right (by decide) h)
theorem bnd_succ (a : Nat) : bnd (a + 1) = 2 * bnd a := by unfold bnd; rw [Nat.pow_succ]; omega
theorem bnd_le2 {e : Nat} (h : e ≤ 2) : bnd e ≤ 28000 := Nat.le_trans (bnd_mono h) (by decide)
noncomputable def lseqF (F : FD) (nm : List (Str × Str)) (width : Int) (fs : List Str) (done : Int) (parts : List FormD) : List CellD := parts.foldl (fun acc f => acc ++ lcells F nm width f fs (done + (acc.length : Int))) []
inductive LSJ (F : FD) (nm : List (Str × Str)) (width done : Int) (fs : List Str) (parts : List FormD) (e : Nat) (L T fa dn : Addr) (t1 t2 : Tok) (R : Led) (i : Nat) (g' : Heap) (C' : Led) : Prop where
  | mk (a : Addr) (vs : List Value) (o : Option Value) (q : C' = (a, IsLst vs) :: (L, Frm [Str.ofString "form", Str.ofString "facts", Str.ofString "name_list", Str.ofString "done", Str.ofString "width", Str.ofString "found", Str.ofString "mark", Str.ofString "wide", Str.ofString "text", Str.ofString "own", Str.ofString "part"] [some (.ref T), some (.ref fa), some (.ref dn), some (.int done t1), some (.int width t2), some (.ref a), none, none, none, none, o]) :: R) (h1 : All2 (LCell g') vs (lseqF F nm width fs done (parts.take i))) (h2 : vs.length ≤ i * bnd e)
section
set_option maxRecDepth 100000
set_option maxHeartbeats 0
theorem lcells_seq {d e : Nat} (ih : ∀ j, d = j + 1 → LCs j) {w : World} {n : Nat} {g : Heap} {R : Led} {T l fa df dn : Addr} {tT : Tok} {fv : Value} {vs0 : List Value} {parts : List FormD} {t : FT} {F : FD} {nm : List (Str × Str)} {fs : List Str} {done : Int} {width : Int} {t1 t2 : Tok} {post : Value → Heap → Led → Prop}
    (hT : AtG g T (IsTupl [.str (Str.ofString "seq") tT, .ref l])) (hl : AtG g l (IsLst vs0)) (hfs : All2 (FormAt g) vs0 parts) (hok : ∀ f ∈ parts, f.ok ∧ f.dp ≤ e ∧ fs.length + 2 * f.dp ≤ 1000 ∧ done ≤ 200000 * (3 - (e : Int))) (hlen : parts.length ≤ 2) (he : parts = [] ∨ e + 1 ≤ d) (he3 : e ≤ 2) (hk : d + 4 ≤ n + 1)
    (hfx : FactsAt g fa df t F) (hfok : LFOk F) (hnx : NmAt w g dn nm) (hnl : ∀ p ∈ nm, p.2.length ≤ 10) (hfc : Fc g fv fs) (hdn0 : 0 ≤ done) (hw0 : 0 ≤ width) (hw1 : width ≤ 40)
    (h : ∀ g' a vs, Le g g' → All2 (LCell g') vs (lseqF F nm width fs done parts) → vs.length ≤ bnd (e + 1) → (parts.length ≤ 1 → vs.length ≤ bnd e) → post (.ref a) g' ((a, IsLst vs) :: R)) :
    Sp w (n + 1) (call (.ref 328) [.ref T, .ref fa, .ref dn, fv, .int done t1, .int width t2]) g R post := by
  refine sp_of_cd (cd_fnC (bs := [(Str.ofString "form", .ref T), (Str.ofString "facts", .ref fa), (Str.ofString "name_list", .ref dn), (Str.ofString "faces", fv), (Str.ofString "done", .int done t1), (Str.ofString "width", .int width t2)])
    (fs := [Str.ofString "form", Str.ofString "facts", Str.ofString "name_list", Str.ofString "done", Str.ofString "width", Str.ofString "found", Str.ofString "mark", Str.ofString "wide", Str.ofString "text", Str.ofString "own", Str.ofString "part"])
    (os := [some (.ref T), some (.ref fa), some (.ref dn), some (.int done t1), some (.int width t2), none, none, none, none, none, none]) (ce := fun L => [(L + 1, IsCel (some fv))])
    (by k_is) (by k_is) rfl (by decide +kernel) (by kernel_rfl) (by decide +kernel) (fun L => .loc (by rfl) .here (.loc (by rfl) (.there .here) (.loc (by rfl) (.there (.there .here)) (.cel (by rfl) (.loc (by rfl) (.there (.there (.there .here))) (.loc (by rfl) (.there (.there (.there (.there .here)))) .nil)))))) (fun L => by rfl) rfl rfl rfl ?_)
  intro L
  simp only [List.cons_append, List.nil_append]
  with_reducible refine sp_freeze1 (a := L + 1) (.there .here) fun g1 l1 c1 => ?_
  have hvl := hfs.len
  have hbe := bnd_le2 he3
  have hbs := bnd_succ e
  repeat' lge_here
  rename_i a0 it
  refine cd_forN (Jr := fun _ _ _ => False) (J := LSJ F nm width done fs parts e L T fa dn t1 t2 R)
    (itr_list (hl.le l1)) (fun _ _ => rfl) ⟨_, _, _, rfl, .nil, by simp⟩ ?_ ?_ (fun _ _ _ _ z => z.elim)
  · rintro i g' C' R' v X l2 hi ⟨rfl, hv⟩ ⟨a, vs, o, rfl, hys, hvs⟩
    simp only [List.nil_append, List.cons_append]
    obtain ⟨f, hf, hfa⟩ := hfs.get hv
    have hfm : f ∈ parts := List.mem_of_getElem? hf
    obtain ⟨hfo, hfd, hfl, hdn⟩ := hok f hfm
    obtain ⟨j, rfl⟩ : ∃ j, d = j + 1 := ⟨d - 1, he.elim (fun z => by subst z; cases hfm) (fun z => by omega)⟩
    have hde : e ≤ j := he.elim (fun z => by subst z; cases hfm) (fun z => by omega)
    have hlc := ih j rfl
    have hvs28 : vs.length ≤ 28000 := by
      have : i = 0 ∨ i = 1 := by omega
      rcases this with rfl | rfl <;> omega
    repeat' lge_here
    rename_i ga a2 vs2 lea hv2 hb hb4 a3
    have hbm := bnd_mono hfd
    have hvl2 := hys.len
    refine' turnK_next _ ?ccut ⟨a3, vs ++ vs2, some v, rfl, ?_, ?_⟩
    case ccut => exact .take .here (.drop (.drop (.take .here .same)))
    · have e2 : parts.take (i + 1) = parts.take i ++ [f] := by rw [List.take_add_one, hf]; rfl
      rw [e2]
      unfold lseqF at hys hvl2 ⊢
      rw [List.foldl_append]
      simp only [List.foldl_cons, List.foldl_nil]
      rw [hvl2] at hv2
      exact (hys.mono fun _ _ x => x.le lea).app hv2
    · rw [List.length_append, Nat.succ_mul]; omega
  · rintro g' C' l2 ⟨a, vs, o, rfl, hys, hvs⟩
    refine seqK_next ?_
    repeat' lge_here
    rw [List.take_of_length_le (by omega)] at hys
    refine' ⟨_, ?ccut, h g' a vs (l1.trans l2) hys ?_ ?_⟩
    case ccut => k_subL
    · rw [hbs]; exact Nat.le_trans hvs (Nat.mul_le_mul_right _ (by omega))
    · intro h1; exact Nat.le_trans hvs (by have := Nat.mul_le_mul_right (bnd e) (show vs0.length ≤ 1 by omega); omega)
end

-- the slow reader, walked
inductive LTJ (F : FD) (width done : Int) (items : List ItemD) (L T fa dn : Addr) (t1 t2 : Tok) (R : Led) (i : Nat) (g' : Heap) (C' : Led) : Prop where
  | mk (found : Str) (tf : Tok) (o1 o2 o3 o4 o5 : Option Value) (e : C' = (L, Frm [Str.ofString "form", Str.ofString "facts", Str.ofString "name_list", Str.ofString "done", Str.ofString "width", Str.ofString "found", Str.ofString "mark", Str.ofString "wide", Str.ofString "text", Str.ofString "own", Str.ofString "part"] [some (.ref T), some (.ref fa), some (.ref dn), some (.int done t1), some (.int width t2), some (.str found tf), o1, o2, o3, o4, o5]) :: R) (h1 : found = (items.take i).foldl (itemOut F (width - done)) (Str.ofString "")) (h2 : found.length ≤ 2200 * i)
section
set_option maxRecDepth 100000
set_option maxHeartbeats 0
theorem lcells_step (d : Nat) (ih : ∀ j, d = j + 1 → LCs j) : LCs d := by
  refine ⟨fun {w k g R v fv f fa df dn t F nm fs done width t1 t2 post} hf hok hdp hd3 hk hfx hfok hnx hnl hfc hfl hdn0 hdn hw0 hw1 h => ?_⟩
  obtain ⟨n, rfl⟩ : ∃ n, k = n + 1 := ⟨k - 1, by omega⟩
  rcases hseq : f.isSeq with _ | _
  · refine sp_of_cd (cd_fnC (bs := [(Str.ofString "form", v), (Str.ofString "facts", .ref fa), (Str.ofString "name_list", .ref dn), (Str.ofString "faces", fv), (Str.ofString "done", .int done t1), (Str.ofString "width", .int width t2)])
      (fs := [Str.ofString "form", Str.ofString "facts", Str.ofString "name_list", Str.ofString "done", Str.ofString "width", Str.ofString "found", Str.ofString "mark", Str.ofString "wide", Str.ofString "text", Str.ofString "own", Str.ofString "part"])
      (os := [some v, some (.ref fa), some (.ref dn), some (.int done t1), some (.int width t2), none, none, none, none, none, none]) (ce := fun L => [(L + 1, IsCel (some fv))])
      (by k_is) (by k_is) rfl (by decide +kernel) (by kernel_rfl) (by decide +kernel) (fun L => .loc (by rfl) .here (.loc (by rfl) (.there .here) (.loc (by rfl) (.there (.there .here)) (.cel (by rfl) (.loc (by rfl) (.there (.there (.there .here))) (.loc (by rfl) (.there (.there (.there (.there .here)))) .nil)))))) (fun L => by rfl) rfl rfl rfl ?_)
    intro L
    simp only [List.cons_append, List.nil_append]
    with_reducible refine sp_freeze1 (a := L + 1) (.there .here) fun g1 l1 c1 => ?_
    cases hf with
    | @ite T tT sT x va ub fA fB hT h1 h2 =>
      simp only [FormD.dp] at hdp hfl hd3 hdn
      obtain ⟨j, rfl⟩ : ∃ j, d = j + 1 := ⟨d - 1, by omega⟩
      have hlc := ih j rfl
      obtain ⟨ho0, ho1, ho2⟩ := hok
      obtain ⟨kvs, hkv, hall⟩ := hnx.at_
      have hmods := hnx.mods
      repeat' lge_here
      rcases nm_value hall x with ⟨e1, e2⟩ | ⟨s, ts, e1, e2⟩
      · refine sp_inDb (b := false) hmods (by k_clsL) (by rw [e2]; rfl) ?_
        repeat' lge_here
        rename_i ga a vs lea hv hb hb4
        refine' ⟨_, ?ccut, h ga a vs (l1.trans lea) (by unfold lcells; rw [e1]; exact hv) ?bb hb4⟩
        case ccut => k_subL
        case bb => refine Nat.le_trans hb ?_; unfold bnd; exact Nat.mul_le_mul_left _ (Nat.pow_le_pow_right (by decide) (by simp only [FormD.dp]; omega))
      · refine sp_inDb (b := true) hmods (by k_clsL) (by rw [e2]; rfl) ?_
        repeat' lge_here
        rename_i ga a vs lea hv hb hb4
        refine' ⟨_, ?ccut, h ga a vs (l1.trans lea) (by unfold lcells; rw [e1]; exact hv) ?bb hb4⟩
        case ccut => k_subL
        case bb => refine Nat.le_trans hb ?_; unfold bnd; exact Nat.mul_le_mul_left _ (Nat.pow_le_pow_right (by decide) (by simp only [FormD.dp]; omega))
    | @name T tT sT x hT =>
      obtain ⟨kvs, hkv, hall⟩ := hnx.at_
      have hmods := hnx.mods
      repeat' lge_here
      refine' sp_comp (ns := [Str.ofString "letter"]) (fun _ => rfl) ?hcl rfl (by kernel_rfl) (by kernel_rfl) (by decide +kernel) ?_
      case hcl => rfl
      repeat' lge_here
      refine sp_get2 hmods (by k_clsL) ?_
      have key : ∀ t0, ∃ s ts, (nmGet nm x).getD (Str.ofString "") = s ∧ (valueAt kvs x).getD (.str (Str.ofString "") t0) = .str s ts ∧ s.length ≤ 10 := by
        intro t0
        rcases nm_value hall x with ⟨e1, e2⟩ | ⟨s, ts, e1, e2⟩
        · exact ⟨Str.ofString "", t0, by rw [e1]; rfl, by rw [e2]; rfl, by decide⟩
        · refine ⟨s, ts, by rw [e1]; rfl, by rw [e2]; rfl, ?_⟩
          unfold nmGet at e1
          rw [Option.map_eq_some_iff] at e1
          obtain ⟨q, hq, rfl⟩ := e1
          exact hnl q (List.mem_of_find?_eq_some hq)
      obtain ⟨s, _, hs, _, hs10⟩ := key 0
      have k2 : ∀ t0 : Tok, ∃ ts : Tok, (valueAt kvs x).getD (.str (Str.ofString "") t0) = .str s ts := fun t0 => by
        obtain ⟨s', ts, hs', hv, _⟩ := key t0
        exact ⟨ts, by rw [hv, hs'.symm.trans hs]⟩
      obtain ⟨ts, hv⟩ := Classical.skolem.mp k2
      rw [hv]
      refine sp_iterS fun it => ?_
      refine compKN (J := fun i ys g' C' => ∃ oo, C' = (L, Frm [Str.ofString "form", Str.ofString "facts", Str.ofString "name_list", Str.ofString "done", Str.ofString "width", Str.ofString "found", Str.ofString "mark", Str.ofString "wide", Str.ofString "text", Str.ofString "own", Str.ofString "part"] oo) :: R ∧ All2 (LCell g') ys ((toCells s fs).take i)) itr_str (by rw [sizeLine_eq]; have : s.cps.size = s.length := rfl; omega) (fun _ _ => rfl) ⟨_, rfl, .nil⟩ ?_ ?_
      · rintro L2 i ys os g' C' R' v X l2 hi ⟨rfl, cc, tc, hcc, rfl⟩ hy ho ⟨oo, rfl, hys⟩
        obtain ⟨o1, rfl⟩ := lis1 ho
        simp only [List.nil_append, List.cons_append]
        repeat' lge_here
        rename_i g3 d3 l3 T3
        have hc1 : LCell g3 (.ref d3) (cc, fs) := ⟨d3, _, _, rfl, T3, (hfc.le l1).le (l2.trans l3)⟩
        refine ⟨[some (.str ⟨#[cc]⟩ tc)], _, rfl, .same, oo, rfl, ?_⟩
        have hcc' : s.cps.toList[i]? = some cc := by rw [Array.getElem?_toList]; exact hcc
        have := (hys.mono (Q := LCell g3) fun _ _ x => x.le l3).snoc hc1
        rwa [show (toCells s fs).take i ++ [(cc, fs)] = (toCells s fs).take (i + 1) from take_map_succ (fun c => (c, fs)) s.cps.toList hcc'] at this
      · rintro D L2 ys os' g' C' l2 hy ⟨oo, rfl, hys⟩
        refine ⟨_, _, _, .same, ?_⟩
        repeat' lge_here
        have hlen := cells_len s fs
        have hsz : s.cps.size = s.length := rfl
        rw [List.take_of_length_le (by omega)] at hys
        have h1b : 10 ≤ bnd (FormD.name x).dp := by unfold bnd; simp [FormD.dp]
        refine' ⟨_, ?ccut, h g' D ys (l1.trans l2) (by unfold lcells; rw [hs]; exact hys) (by omega) (by omega)⟩
        case ccut => k_subL
    | @width T tT sT k va fA hT h1 =>
      simp only [FormD.dp] at hdp hfl hd3 hdn
      obtain ⟨j, rfl⟩ : ∃ j, d = j + 1 := ⟨d - 1, by omega⟩
      have hlc := ih j rfl
      obtain ⟨ho0, ho1⟩ := hok
      have hk9 : ∀ x ∈ [(4 : Int), 9, -2, -5, 0], -5 ≤ x ∧ x ≤ 9 := by decide
      have hk5 := hk9 k ho0
      repeat' lge_here
      · rename_i ga a vs lea hv hb hb4 hbk sl
        refine sp_sliceL (ws := vs.take (0 - k).toNat) (lo := none) (hi := some (0 - k)) (st := none) (by k_clsL) Has.head .none (.int _ _) .none (by simp) (by rw [sizeLine_eq]; omega) (by
          have e : (0 - k : Int) = (((0 - k).toNat : Nat) : Int) := by omega
          have := pick_upto vs (0 - k).toNat
          rwa [← e] at this) rfl fun dd => ?_
        repeat' lge_here
        have hle : (vs.take (0 - k).toNat).length ≤ vs.length := by rw [List.length_take]; exact Nat.min_le_right _ _
        refine' ⟨_, ?ccut, h ga dd _ (l1.trans lea) (by
          unfold lcells; dsimp only
          rw [if_pos hbk, show (-k) = 0 - k by omega]
          exact hv.take _) ?bb (by omega)⟩
        case ccut => k_subL
        case bb => refine Nat.le_trans (Nat.le_trans hle hb) ?_; unfold bnd; exact Nat.mul_le_mul_left _ (Nat.pow_le_pow_right (by decide) (by simp only [FormD.dp]; omega))
      · rename_i ga a vs lea hv hb hb4 hbk g2 d2 l2 T2 g3 d3 l3 T3 xx da db
        have hvl := hv.len
        have e : (max 0 (k - (vs.length : Int))).toNat = (k - ((lcells F nm width fA fs done).length : Int)).toNat := by rw [← hvl]; exact max_toN _
        have hsp : LCell g3 (.ref d3) (32, []) := ⟨d3, _, _, rfl, T3, ⟨d2, [], rfl, T2.le l3, .nil⟩⟩
        have hlen' : (vs ++ List.replicate (max 0 (k - (vs.length : Int))).toNat (Value.ref d3)).length ≤ max vs.length 9 := by rw [List.length_append, List.length_replicate]; exact bnd9 hk5.2
        refine' ⟨_, ?ccut, h g3 db _ (by kle_go) (by
          unfold lcells; dsimp only
          rw [if_neg hbk, ← e]
          exact (hv.mono fun _ _ x => x.le (l2.trans l3)).app (All2.rep hsp _)) ?bb (by omega)⟩
        case ccut => k_subL
        case bb =>
          refine Nat.le_trans hlen' ?_
          have h5 : bnd fA.dp ≤ bnd (FormD.width k fA).dp := by unfold bnd; exact Nat.mul_le_mul_left _ (Nat.pow_le_pow_right (by decide) (by simp only [FormD.dp]; omega))
          have h6 : 7000 ≤ bnd (FormD.width k fA).dp := by unfold bnd; exact Nat.le_mul_of_pos_right _ (Nat.pow_pos (by decide))
          omega
    | face1 hT hF h1 =>
      simp only [FormD.dp] at hdp hfl hd3 hdn
      obtain ⟨j, rfl⟩ : ∃ j, d = j + 1 := ⟨d - 1, by omega⟩
      have hlc := ih j rfl
      simp only [FormD.ok] at hok
      obtain ⟨FF, fvs, rfl, hfa, hfs⟩ := id hfc
      have hfsl := strs_len hfs
      repeat' lge_here
      rename_i ga a vs lea hv hb hb4
      refine' ⟨_, ?ccut, h ga a vs (by kle_go) hv ?bb hb4⟩
      case ccut => k_subL
      case bb => refine Nat.le_trans hb ?_; unfold bnd; exact Nat.mul_le_mul_left _ (Nat.pow_le_pow_right (by decide) (by simp only [FormD.dp]; omega))
    | face2 hT hF h1 =>
      simp only [FormD.dp] at hdp hfl hd3 hdn
      obtain ⟨j, rfl⟩ : ∃ j, d = j + 1 := ⟨d - 1, by omega⟩
      have hlc := ih j rfl
      simp only [FormD.ok] at hok
      obtain ⟨FF, fvs, rfl, hfa, hfs⟩ := id hfc
      have hfsl := strs_len hfs
      repeat' lge_here
      rename_i ga a vs lea hv hb hb4
      refine' ⟨_, ?ccut, h ga a vs (by kle_go) hv ?bb hb4⟩
      case ccut => k_subL
      case bb => refine Nat.le_trans hb ?_; unfold bnd; exact Nat.mul_le_mul_left _ (Nat.pow_le_pow_right (by decide) (by simp only [FormD.dp]; omega))
    | @text T l tT vs items hT hl hvs =>
      have hlen := hvs.len
      obtain ⟨hk3, hio⟩ := hok
      obtain ⟨n, rfl⟩ : ∃ n2, n = n2 + 3 := ⟨n - 3, by omega⟩
      have z0 : (Str.ofString "").length = 0 := by decide
      have z1 : (Str.ofString " ").length = 1 := by decide
      have z2 : (Str.ofString "-").length = 1 := by decide
      repeat' lge_here
      refine cd_forN (Jr := fun _ _ _ => False) (J := LTJ F width done items L T fa dn t1 t2 R)
        (itr_list (hl.le l1)) (fun z => by cases z) ⟨_, _, _, _, _, _, _, rfl, rfl, by decide⟩ ?_ ?_ (fun _ _ _ _ z => z.elim)
      · rintro i g' C' R' v X l2 hi ⟨rfl, hv⟩ ⟨found, tf, o1, o2, o3, o4, o5, rfl, hfo, hfl2⟩
        obtain ⟨it, hf, hfa⟩ := hvs.get hv
        have hfm : it ∈ items := List.mem_of_getElem? hf
        have hito := hio it hfm
        have hi3 : i < 3 := by omega
        simp only [List.nil_append, List.cons_append]
        cases hfa with
        | @lit T2 tx _ _ _ hT2 =>
          have z3 := litlen hito
          have z4 := mul_len (Str.ofString " ") (max 0 (0 - (tx.length : Int))) (by omega) (by decide)
          repeat' lge_here
          refine turnK_next _ .same ⟨_, _, _, _, _, _, _, rfl, ?_, ?_⟩
          · rw [List.take_add_one, hf, List.foldl_append, ← hfo]; rfl
          · rw [str_app_len, str_app_len]; omega
        | @fld T2 ww tx _ _ _ hT2 =>
          have hl19 : tx ∈ lets19 := hito.2
          have z3 := let19len hito.2
          have z4 : ∀ w ∈ [(0 : Int), 0, 3, 9], 0 ≤ w ∧ w < 10 := by decide
          have z5 := z4 _ hito.1
          have z6 := toldF_len (c := tx) hfok.ok hito.2
          have z7 := mul_len (Str.ofString " ") (max 0 (ww - ((toldF F tx).length : Int))) (by omega) (by decide)
          have z8 := mul_len (Str.ofString "-") (max 0 (width - done - (found.length : Int))) (by omega) (by decide)
          have z9 := mul_len (Str.ofString " ") (max 0 (ww - ((Txt.mul (Str.ofString "-") (max 0 (width - done - (found.length : Int)))).length : Int))) (by omega) (by decide)
          repeat' lge_here
          · refine turnK_next _ .same ⟨_, _, _, _, _, _, _, rfl, ?_, ?_⟩
            · rw [List.take_add_one, hf, List.foldl_append, ← hfo]
              show _ = itemOut F _ found (.fld ww tx)
              unfold itemOut
              dsimp only
              rw [if_pos (by assumption)]
            · rw [str_app_len, str_app_len]; omega
          · refine turnK_next _ .same ⟨_, _, _, _, _, _, _, rfl, ?_, ?_⟩
            · rw [List.take_add_one, hf, List.foldl_append, ← hfo]
              show _ = itemOut F _ found (.fld ww tx)
              unfold itemOut
              dsimp only
              rw [if_neg (by assumption)]
            · rw [str_app_len, str_app_len]; omega
      · rintro g' C' l2 ⟨found, tf, o1, o2, o3, o4, o5, rfl, hfo, hfl2⟩
        rw [List.take_of_length_le (by omega)] at hfo
        refine seqK_next ?_
        repeat' lge_here
        refine' sp_comp (ns := [Str.ofString "letter"]) (fun _ => rfl) ?hcl rfl (by kernel_rfl) (by kernel_rfl) (by decide +kernel) ?_
        case hcl => rfl
        repeat' lge_here
        rename_i itt
        have hsz : found.cps.size = found.length := rfl
        refine compKN (J := fun i ys g' C' => ∃ oo, C' = (L, Frm [Str.ofString "form", Str.ofString "facts", Str.ofString "name_list", Str.ofString "done", Str.ofString "width", Str.ofString "found", Str.ofString "mark", Str.ofString "wide", Str.ofString "text", Str.ofString "own", Str.ofString "part"] oo) :: R ∧ All2 (LCell g') ys ((toCells found fs).take i)) itr_str (by rw [sizeLine_eq]; omega) (fun _ _ => rfl) ⟨_, rfl, .nil⟩ ?_ ?_
        · rintro L2 i ys os g2 C' R' v X l3 hi ⟨rfl, cc, tc, hcc, rfl⟩ hy ho ⟨oo, rfl, hys⟩
          obtain ⟨o1, rfl⟩ := lis1 ho
          simp only [List.nil_append, List.cons_append]
          repeat' lge_here
          rename_i g3 d3 l4 T3
          have hc1 : LCell g3 (.ref d3) (cc, fs) := ⟨d3, _, _, rfl, T3, (hfc.le l1).le (l2.trans (l3.trans l4))⟩
          refine ⟨[some (.str ⟨#[cc]⟩ tc)], _, rfl, .same, oo, rfl, ?_⟩
          have hcc' : found.cps.toList[i]? = some cc := by rw [Array.getElem?_toList]; exact hcc
          have := (hys.mono (Q := LCell g3) fun _ _ x => x.le l4).snoc hc1
          rwa [show (toCells found fs).take i ++ [(cc, fs)] = (toCells found fs).take (i + 1) from take_map_succ (fun c => (c, fs)) found.cps.toList hcc'] at this
        · rintro D L2 ys os' g2 C' l3 hy ⟨oo, rfl, hys⟩
          refine ⟨_, _, _, .same, ?_⟩
          repeat' lge_here
          have hcl := cells_len found fs
          rw [List.take_of_length_le (by omega)] at hys
          have h1b : 7000 ≤ bnd (FormD.text items).dp := by unfold bnd; simp [FormD.dp]
          refine' ⟨_, ?ccut, h g2 D ys (l1.trans (l2.trans l3)) (by unfold lcells textOut; rw [← hfo]; exact hys) (by omega) (by omega)⟩
          case ccut => k_subL
    | seq0 _ _ => exact Bool.noConfusion hseq
    | seq1 _ _ _ => exact Bool.noConfusion hseq
    | seq2 _ _ _ _ => exact Bool.noConfusion hseq
  · cases hf with
    | seq0 hT hl =>
      simp only [FormD.dp] at hdn hfl
      refine lcells_seq (e := 0) ih hT hl .nil (fun _ hf => by cases hf) (by simp) (.inl rfl) (by omega) hk hfx hfok hnx hnl hfc hdn0 hw0 hw1 fun g' a vs l hys _ _ => ?_
      cases hys with
      | nil => exact h g' a [] l .nil (by simp) (by simp)
    | @seq1 T l tT va fA hT hl h1 =>
      simp only [FormD.dp] at hdp hfl hd3 hdn
      simp only [FormD.ok] at hok
      refine lcells_seq (e := fA.dp) ih hT hl (.cons h1 .nil) (fun f hf => by rw [List.mem_singleton.mp hf]; exact ⟨hok, Nat.le_refl _, by omega, by omega⟩) (by simp) (.inr (by omega)) (by omega) hk hfx hfok hnx hnl hfc hdn0 hw0 hw1 fun g' a vs l hys hb1 hb2 => ?_
      have e0 : lseqF F nm width fs done [fA] = lcells F nm width fA fs done := by unfold lseqF; simp
      rw [e0] at hys
      refine h g' a vs l hys hb1 ?_
      have := bnd_mono hd3
      have : bnd 3 ≤ 60000 := by decide
      have hb1 : vs.length ≤ bnd (fA.dp + 1) := hb1
      omega
    | @seq2 T l tT va vb fA fB hT hl h1 h2 =>
      simp only [FormD.dp] at hdp hfl hd3 hdn
      obtain ⟨ho1, ho2⟩ := hok
      refine lcells_seq (e := max fA.dp fB.dp) ih hT hl (.cons h1 (.cons h2 .nil)) (fun f hf => by
        simp only [List.mem_cons, List.not_mem_nil, or_false] at hf
        rcases hf with rfl | rfl
        · exact ⟨ho1, by omega, by omega, by omega⟩
        · exact ⟨ho2, by omega, by omega, by omega⟩) (by simp) (.inr (by omega)) (by omega) hk hfx hfok hnx hnl hfc hdn0 hw0 hw1 fun g' a vs l hys hb1 hb2 => ?_
      have e0 : lseqF F nm width fs done [fA, fB] = lcells F nm width (.seq2 fA fB) fs done := by unfold lseqF; simp [lcells]
      rw [e0] at hys
      refine h g' a vs l hys hb1 ?_
      have := bnd_mono hd3
      have : bnd 3 ≤ 60000 := by decide
      have hb1 : vs.length ≤ bnd (max fA.dp fB.dp + 1) := hb1
      omega
    | ite _ _ _ => exact Bool.noConfusion hseq
    | name _ => exact Bool.noConfusion hseq
    | width _ _ => exact Bool.noConfusion hseq
    | face1 _ _ _ => exact Bool.noConfusion hseq
    | face2 _ _ _ => exact Bool.noConfusion hseq
    | text _ _ _ => exact Bool.noConfusion hseq
theorem lcells_all : ∀ d, LCs d
  | 0 => lcells_step 0 fun j hj => by omega
  | m + 1 => lcells_step (m + 1) fun j hj => by
    obtain rfl : m = j := by omega
    exact lcells_all m
end

-- pieces, fits, told
section
variable {w : World} {n : Nat} {g : Heap} {N : Led} {env : Env}
theorem sp_frz {α : Type} {t : Sem α} {post : α → Heap → Led → Prop} (h : Sp w n t g N (fun v g1 N1 => ∃ F R', Cut N1 (F ++ R') ∧ ∀ g2, Le g1 g2 → (∀ p ∈ F, AtG g2 p.1 p.2) → post v g2 R')) : Sp w n t g N post :=
  fun A s Q hA hs k => h A s Q hA hs fun a g1 N1 h1 tk1 l1 hs1 ⟨F, R', c, p⟩ => by
    obtain ⟨g2, l, hs2, f⟩ := H.freeze F (hs1.cutN c)
    exact k a g2 R' h1 tk1 (l1.trans l) hs2 (p g2 l fun p hp => f p hp)
theorem sp_extendB {l b : Addr} {vs ws : List Value} {N' : Led} {post : Value → Heap → Led → Prop} (hl : Chg l (IsLst vs) (IsLst (vs ++ ws)) N N') (hb : Has g N b (IsLst ws)) (hz : vs.length + ws.length < 10000000) (h : post .none g N') : Sp w n (call (.builtin "list.extend") [.ref l, .ref b]) g N post :=
  fun A s Q hA hs K => by
    obtain ⟨k, ho⟩ := IsLst.get (hs.nw _ hl.mem)
    obtain ⟨k2, hb⟩ := IsLst.get (hb.at hs)
    have hz' : vs.toArray.size + ws.toArray.size ≤ sizeLine := by rw [List.size_toArray, List.size_toArray, sizeLine_eq]; omega
    refine call_meets PySem.F.slot_list_extend ⟨_, ho, rfl⟩ PySem.F.entry_list_extend (PySem.F.args_list_extend_2 _ _) (AutoSeq1.list_extend_list_list_0 l vs.toArray k b ws.toArray k2 (extend_door hz') (Nat.le_trans (Nat.le_add_right _ _) hz') (Nat.le_succ_of_le hz')) ⟨ho, hb, ?_⟩
    have e : vs.toArray ++ ws.toArray = (vs ++ ws).toArray := by simp
    obtain ⟨k', ho'⟩ : ∃ k', (s.heap.update l (Obj.mapSeq fun x => x ++ ws.toArray)).get? l = some { cls := .type "list", data := .seq (vs ++ ws).toArray k' } := by
      rw [Heap.get?_update_self _ ho rfl]
      exact ⟨_, congrArg (fun z => some ({ cls := .type "list", data := .seq z _ } : Obj)) e⟩
    exact K _ g N' _ s.toks (Le.refl g) (hs.chg hl (Heap.SameBut.update ..) ⟨_, ho', _, rfl⟩) h
end
noncomputable abbrev pieceNames : List Str := [Str.ofString "form", Str.ofString "faces", Str.ofString "has_signs"]
noncomputable abbrev fitNames : List Str := [Str.ofString "begin", Str.ofString "width"]
noncomputable abbrev faceNames : List Str := [Str.ofString "parts", Str.ofString "parents"]
structure PieceAt (g : Heap) (x dx : Addr) (f fa b : Value) : Prop where
  inst : AtG g x (IsInst 116 dx)
  attr : AtG g dx (Atr pieceNames [some f, some fa, some b])
structure FitAt (g : Heap) (x dx : Addr) (b k : Value) : Prop where
  inst : AtG g x (IsInst 137 dx)
  attr : AtG g dx (Atr fitNames [some b, some k])
theorem PieceAt.le {g g' : Heap} {x dx : Addr} {a b c : Value} (h : PieceAt g x dx a b c) (l : Le g g') : PieceAt g' x dx a b c := ⟨h.inst.le l, h.attr.le l⟩
theorem FitAt.le {g g' : Heap} {x dx : Addr} {a b : Value} (h : FitAt g x dx a b) (l : Le g g') : FitAt g' x dx a b := ⟨h.inst.le l, h.attr.le l⟩
local macro_rules | `(tactic| kl_room) => `(tactic| first
  | ((with_reducible refine' sp_extendB ?a ?b ?z ?h); (case a => kbo_bools); (case b => k_clsL); (case z => kpt_len)))
section
set_option maxRecDepth 100000
set_option maxHeartbeats 0
theorem sp_Piece {w : World} {n : Nat} {g : Heap} {R : Led} {f fa b : Value} {post : Value → Heap → Led → Prop} (hf : handedIn f = true) (hfa : handedIn fa = true) (hb : handedIn b = true)
    (h : ∀ g' x dx, Le g g' → PieceAt g' x dx f fa b → post (.ref x) g' R) : Sp w (n + 2) (call (.ref 116) [f, fa, b]) g R post := by
  refine sp_frz (sp_of_cd (cd_newO (fI := 113) (ns := pieceNames) (os := [none, none, none]) (by k_is) (by k_is) (by k_is) (by decide +kernel) (by decide) rfl fun x dx => ?_))
  refine cd_fn (ps := [Str.ofString "self", Str.ofString "form", Str.ofString "faces", Str.ofString "has_signs"]) (ns := []) (fs := [Str.ofString "self", Str.ofString "form", Str.ofString "faces", Str.ofString "has_signs"])
    (os := [some (.ref x), some f, some fa, some b])
    (by k_is) (by k_is) rfl rfl rfl rfl (by decide +kernel) (by kernel_rfl) rfl rfl rfl (by kernel_rfl) ?_
  intro L
  repeat' lge_here
  exact ⟨_, .drop .same, rfl, [(x, _), (dx, _)], R, .same, fun g2 l2 q => h g2 x dx l2 ⟨q _ (.head _), q _ (.tail _ (.head _))⟩⟩
theorem sp_Fit {w : World} {n : Nat} {g : Heap} {R : Led} {b k : Value} {post : Value → Heap → Led → Prop}
    (h : ∀ g' x dx, Le g g' → FitAt g' x dx b k → post (.ref x) g' R) : Sp w (n + 2) (call (.ref 137) [b, k]) g R post := by
  refine sp_frz (sp_of_cd (cd_newO (fI := 134) (ns := fitNames) (os := [none, none]) (by k_is) (by k_is) (by k_is) (by decide +kernel) (by decide) rfl fun x dx => ?_))
  refine cd_fn (ps := [Str.ofString "self", Str.ofString "begin", Str.ofString "width"]) (ns := []) (fs := [Str.ofString "self", Str.ofString "begin", Str.ofString "width"])
    (os := [some (.ref x), some b, some k])
    (by k_is) (by k_is) rfl rfl rfl rfl (by decide +kernel) (by kernel_rfl) rfl rfl rfl (by kernel_rfl) ?_
  intro L
  repeat' lge_here
  exact ⟨_, .drop .same, rfl, [(x, _), (dx, _)], R, .same, fun g2 l2 q => h g2 x dx l2 ⟨q _ (.head _), q _ (.tail _ (.head _))⟩⟩
theorem sp_Told {w : World} {n : Nat} {g : Heap} {R : Led} {post : Value → Heap → Led → Prop}
    (h : ∀ g' x dx l, Le g g' → AtG g' x (IsInst 170 dx) → post (.ref x) g' ((l, IsLst []) :: (dx, Atr [Str.ofString "cells"] [some (.ref l)]) :: R)) : Sp w (n + 2) (call (.ref 170) []) g R post := by
  refine sp_frz (sp_of_cd (cd_newO (fI := 155) (ns := [Str.ofString "cells"]) (os := [none]) (by k_is) (by k_is) (by k_is) (by decide +kernel) (by decide) rfl fun x dx => ?_))
  refine cd_fn (ps := [Str.ofString "self"]) (ns := []) (fs := [Str.ofString "self"])
    (os := [some (.ref x)])
    (by k_is) (by k_is) rfl rfl rfl rfl (by decide +kernel) (by kernel_rfl) rfl rfl rfl (by kernel_rfl) ?_
  intro L
  repeat' lge_here
  rename_i l
  refine' ⟨_, .same, rfl, [(x, _)], (l, IsLst []) :: (dx, Atr [Str.ofString "cells"] [some (.ref l)]) :: R, ?ccut, fun g2 l2 q => h g2 x dx l l2 (q _ (.head _))⟩
  case ccut => exact .take (.there (.there .here)) (.take .here (.drop .same))
end

-- put and keep
noncomputable def TCell (g : Heap) (v : Value) (c : CellD) : Prop := ∃ T t fv, v = .ref T ∧ AtG g T (IsTupl [.int (c.1 : Int) t, fv]) ∧ Fc g fv c.2
theorem TCell.le {g g' : Heap} {v : Value} {c : CellD} (h : TCell g v c) (l : Le g g') : TCell g' v c := let ⟨T, t, fv, e, a, b⟩ := h; ⟨T, t, fv, e, a.le l, b.le l⟩
noncomputable def keepF (b : Nat) (k : Int) (cs : List CellD) : List CellD := if k > (cs.length : Int) - b then cs ++ List.replicate (k - ((cs.length : Int) - b)).toNat (32, []) else if k < 0 then cs.take (b + (min ((cs.length : Int) - b) (0 - k)).toNat) else cs
theorem keep_e1 {v c : Nat} {b k : Int} (h : v = c) (hb0 : 0 ≤ b) : (k - ((v : Int) - b)).toNat = (k - ((c : Int) - (b.toNat : Int))).toNat := by
  rw [h, Int.toNat_of_nonneg hb0]
theorem keep_e2 {v c : Nat} {b k : Int} (h : v = c) (hb0 : 0 ≤ b) (hb : b ≤ v) (hk : k < 0) : (b + min ((v : Int) - b) (0 - k)).toNat = b.toNat + (min ((c : Int) - (b.toNat : Int)) (0 - k)).toNat := by
  have hm : 0 ≤ min ((v : Int) - b) (0 - k) := Int.le_min.mpr ⟨by omega, by omega⟩
  rw [← h, Int.toNat_of_nonneg hb0]
  generalize min ((v : Int) - b) (0 - k) = m at hm ⊢
  exact Int.toNat_add hb0 hm
theorem keep_e3 {v : Nat} {b k : Int} (hb0 : 0 ≤ b) (hb : b ≤ v) (hk : k < 0) : (b + min ((v : Int) - b) (0 - k) : Int) = (((b + min ((v : Int) - b) (0 - k)).toNat : Nat) : Int) := by
  have hm : 0 ≤ min ((v : Int) - b) (0 - k) := Int.le_min.mpr ⟨by omega, by omega⟩
  exact (Int.toNat_of_nonneg (Int.add_nonneg hb0 hm)).symm
section
set_option maxRecDepth 100000
set_option maxHeartbeats 0
theorem sp_put {w : World} {n : Nat} {g : Heap} {R : Led} {x dx l : Addr} {vs : List Value} {s : Str} {ts : Tok} {fv : Value} {fs : List Str} {post : Value → Heap → Led → Prop} (hx : AtG g x (IsInst 170 dx)) (hfc : Fc g fv fs) (hs : s.length ≤ 100000) (hv : vs.length ≤ 5000000)
    (h : ∀ g' ws, Le g g' → All2 (TCell g') ws (toCells s fs) → post .none g' ((l, IsLst (vs ++ ws)) :: (dx, Atr [Str.ofString "cells"] [some (.ref l)]) :: R)) :
    Sp w (n + 2) (call (.ref 160) [.ref x, .str s ts, fv]) g ((l, IsLst vs) :: (dx, Atr [Str.ofString "cells"] [some (.ref l)]) :: R) post := by
  refine sp_of_cd (cd_fnC (bs := [(Str.ofString "self", .ref x), (Str.ofString "text", .str s ts), (Str.ofString "faces", fv)])
    (fs := [Str.ofString "self", Str.ofString "text"])
    (os := [some (.ref x), some (.str s ts)]) (ce := fun L => [(L + 1, IsCel (some fv))])
    (by k_is) (by k_is) rfl (by decide +kernel) (by kernel_rfl) (by decide +kernel) (fun L => .loc (by rfl) .here (.loc (by rfl) (.there .here) (.cel (by rfl) .nil))) (fun L => by rfl) rfl rfl rfl ?_)
  intro L
  simp only [List.cons_append, List.nil_append]
  with_reducible refine sp_freeze1 (a := L + 1) (.there .here) fun g1 l1 c1 => ?_
  have hsz : s.cps.size = s.length := rfl
  repeat' lge_here
  refine' sp_comp (ns := [Str.ofString "letter"]) (fun _ => rfl) ?hcl rfl (by kernel_rfl) (by kernel_rfl) (by decide +kernel) ?_
  case hcl => rfl
  repeat' lge_here
  refine compKN (J := fun i ys g' C' => C' = (L, Frm [Str.ofString "self", Str.ofString "text"] [some (.ref x), some (.str s ts)]) :: (l, IsLst vs) :: (dx, Atr [Str.ofString "cells"] [some (.ref l)]) :: R ∧ All2 (TCell g') ys ((toCells s fs).take i)) itr_str (by rw [sizeLine_eq]; omega) (fun _ _ => rfl) ⟨rfl, .nil⟩ ?_ ?_
  · rintro L2 i ys os g' C' R' v X l2 hi ⟨rfl, cc, tc, hcc, rfl⟩ hy ho ⟨rfl, hys⟩
    obtain ⟨o1, rfl⟩ := lis1 ho
    simp only [List.nil_append, List.cons_append]
    repeat' lge_here
    rename_i g3 d3 l3 T3
    have hc1 : TCell g3 (.ref d3) (cc, fs) := ⟨d3, _, _, rfl, T3, (hfc.le l1).le (l2.trans l3)⟩
    refine ⟨[some (.str ⟨#[cc]⟩ tc)], _, rfl, .same, rfl, ?_⟩
    have hcc' : s.cps.toList[i]? = some cc := by rw [Array.getElem?_toList]; exact hcc
    have := (hys.mono (Q := TCell g3) fun _ _ x => x.le l3).snoc hc1
    rwa [show (toCells s fs).take i ++ [(cc, fs)] = (toCells s fs).take (i + 1) from take_map_succ (fun c => (c, fs)) s.cps.toList hcc'] at this
  · rintro D L2 ys os' g' C' l2 hy ⟨rfl, hys⟩
    refine ⟨_, _, _, .same, ?_⟩
    have hlen := cells_len s fs
    rw [List.take_of_length_le (by omega)] at hys
    repeat' lge_here
    refine' ⟨_, ?ccut, h g' ys (l1.trans l2) hys⟩
    case ccut => k_subL
theorem sp_keep {w : World} {n : Nat} {g : Heap} {R : Led} {x dx l f df : Addr} {vs : List Value} {cs : List CellD} {b k : Int} {t1 t2 : Tok} {post : Value → Heap → Led → Prop} (hx : AtG g x (IsInst 170 dx)) (hf : FitAt g f df (.int b t1) (.int k t2)) (hvs : All2 (TCell g) vs cs)
    (hb0 : 0 ≤ b) (hb : b ≤ vs.length) (hk0 : -5 ≤ k) (hk1 : k ≤ 9) (hv : vs.length ≤ 5000000)
    (h : ∀ g' l' ws, Le g g' → All2 (TCell g') ws (keepF b.toNat k cs) → ws.length ≤ vs.length + 9 → post .none g' ((l', IsLst ws) :: (dx, Atr [Str.ofString "cells"] [some (.ref l')]) :: R)) :
    Sp w (n + 2) (call (.ref 167) [.ref x, .ref f]) g ((l, IsLst vs) :: (dx, Atr [Str.ofString "cells"] [some (.ref l)]) :: R) post := by
  refine sp_of_cd (cd_fn (ps := [Str.ofString "self", Str.ofString "fit"]) (ns := [Str.ofString "have"]) (fs := [Str.ofString "self", Str.ofString "fit", Str.ofString "have"])
    (os := [some (.ref x), some (.ref f), none])
    (by k_is) (by k_is) rfl rfl rfl rfl (by decide +kernel) (by kernel_rfl) rfl rfl rfl (by kernel_rfl) ?_)
  intro L
  obtain ⟨hf1, hf2⟩ := hf
  have hlen := hvs.len
  repeat' lge_here
  · rename_i hgt g2 d2 l2 T2 g3 d3 l3 T3 a1 a2
    have hsp : TCell g3 (.ref d3) (32, []) := ⟨d3, _, _, rfl, T3, ⟨d2, [], rfl, T2.le l3, .nil⟩⟩
    refine' ⟨_, ?ccut, h g3 l _ (l2.trans l3) ?_ ?_⟩
    case ccut => k_subL
    · unfold keepF
      rw [if_pos (show k > (cs.length : Int) - (b.toNat : Int) by omega)]
      have e := keep_e1 (k := k) hlen hb0
      rw [e]
      exact (hvs.mono fun _ _ x => x.le (l2.trans l3)).app (All2.rep hsp _)
    · rw [List.length_append, List.length_replicate]; omega
  · rename_i hgt hlt sl
    refine sp_sliceL (ws := vs.take (b + min ((vs.length : Int) - b) (0 - k)).toNat) (lo := none) (hi := some (b + min ((vs.length : Int) - b) (0 - k))) (st := none) (by k_clsL) Has.head .none (.int _ _) .none (by simp) (by rw [sizeLine_eq]; omega) (by
      have e := keep_e3 hb0 hb hlt
      have := pick_upto vs (b + min ((vs.length : Int) - b) (0 - k)).toNat
      rwa [← e] at this) rfl fun dd => ?_
    repeat' lge_here
    refine' ⟨_, ?ccut, h g dd _ (Le.refl g) ?_ ?_⟩
    case ccut => k_subL
    · unfold keepF
      rw [if_neg (show ¬ k > (cs.length : Int) - (b.toNat : Int) by omega), if_pos hlt]
      have e := keep_e2 hlen hb0 hb hlt
      rw [e]
      exact hvs.take _
    · rw [List.length_take]; exact Nat.le_trans (Nat.min_le_right _ _) (Nat.le_add_right _ _)
  · rename_i hgt hlt
    refine' ⟨_, ?ccut, h g l _ (Le.refl g) ?_ ?_⟩
    case ccut => k_subL
    · unfold keepF
      rw [if_neg (show ¬ k > (cs.length : Int) - (b.toNat : Int) by omega), if_neg hlt]
      exact hvs
    · omega
end

-- the pieces within a piece
inductive Pc where
  | form (f : FormD) (fs : List Str)
  | txt (s : Str) (fs : List Str)
  | fit (b : Nat) (k : Int)
inductive PcAt (g : Heap) : Value → Pc → Prop where
  | form {x dx : Addr} {u fv : Value} {f : FormD} {fs : List Str} : PieceAt g x dx u fv (.bool true) → PlainAt g u f → Fc g fv fs → PcAt g (.ref x) (.form f fs)
  | txt {x dx : Addr} {fv : Value} {s : Str} {t : Tok} {fs : List Str} : PieceAt g x dx (.str s t) fv (.bool false) → Fc g fv fs → PcAt g (.ref x) (.txt s fs)
  | fit {x dx : Addr} {b : Nat} {k : Int} {t1 t2 : Tok} : FitAt g x dx (.int b t1) (.int k t2) → PcAt g (.ref x) (.fit b k)
theorem PcAt.le {g g' : Heap} {v : Value} {c : Pc} (h : PcAt g v c) (l : Le g g') : PcAt g' v c := by
  cases h with
  | form a b c => exact .form (a.le l) (b.le l) (c.le l)
  | txt a b => exact .txt (a.le l) (b.le l)
  | fit a => exact .fit (a.le l)
noncomputable def innerF (nm : List (Str × Str)) (fs : List Str) : FormD → List Pc
  | .text _ => []
  | .seq0 => []
  | .seq1 a => [.form a fs]
  | .seq2 a b => [.form a fs, .form b fs]
  | .ite x a b => [.form (if (nmGet nm x).isSome = true then a else b) fs]
  | .name x => [.txt ((nmGet nm x).getD (Str.ofString "")) fs]
  | .width _ a => [.form a fs]
  | .face1 a => [.form a ([Str.ofString "k"] ++ fs)]
  | .face2 a => [.form a ([Str.ofString "k", Str.ofString "l"] ++ fs)]
theorem handed_plain {g : Heap} {v : Value} {f : FormD} (h : PlainAt g v f) : handedIn v = true := by cases h <;> rfl
local macro_rules | `(tactic| kl_room) => `(tactic| first
  | (with_reducible refine' sp_Piece ?a ?b ?c ?h); (case a => first | rfl | assumption); (case b => first | rfl | assumption); (case c => first | rfl | assumption); intro _ _ _ _ _
  | with_reducible refine' sp_isiStr ?h
  | (with_reducible refine' sp_isiTup ?a ?h); (case a => kpc_g))
section
set_option maxRecDepth 100000
set_option maxHeartbeats 0
theorem inner_seq {w : World} {n : Nat} {g : Heap} {R : Led} {x dx dn T : Addr} {tT : Tok} {fv : Value} {vs0 : List Value} {parts : List FormD} {fs : List Str} {post : Value → Heap → Led → Prop}
    (hp : PieceAt g x dx (.ref T) fv (.bool true)) (hT : AtG g T (IsTupl (.str (Str.ofString "seq") tT :: vs0))) (hfs : All2 (PlainAt g) vs0 parts) (hlen : vs0.length ≤ 2) (hfc : Fc g fv fs)
    (h : ∀ g' a ps, Le g g' → All2 (PcAt g') ps (parts.map fun f => Pc.form f fs) → post (.ref a) g' ((a, IsLst ps) :: R)) :
    Sp w (n + 3) (call (.ref 191) [.ref x, .ref dn]) g R post := by
  refine sp_of_cd (cd_fnC (bs := [(Str.ofString "piece", .ref x), (Str.ofString "names", .ref dn)])
    (fs := [Str.ofString "names", Str.ofString "form", Str.ofString "held"])
    (os := [some (.ref dn), none, none]) (ce := fun L => [(L + 1, IsCel (some (.ref x)))])
    (by k_is) (by k_is) rfl (by decide +kernel) (by kernel_rfl) (by decide +kernel) (fun L => .cel (by rfl) (.loc (by rfl) .here .nil)) (fun L => by rfl) rfl rfl rfl ?_)
  intro L
  simp only [List.cons_append, List.nil_append]
  with_reducible refine sp_freeze1 (a := L + 1) (.there .here) fun g1 l1 c1 => ?_
  obtain ⟨hp1, hp2⟩ := hp
  obtain ⟨FF, fvs, rfl, hfa, hfs2⟩ := id hfc
  have hvl := hfs.len
  repeat' lge_here
  refine' sp_comp (ns := [Str.ofString "part"]) (fun _ => rfl) ?hcl rfl (by kernel_rfl) (by kernel_rfl) (by decide +kernel) ?_
  case hcl => rfl
  repeat' lge_here
  rename_i sl g2 d2 l2 T2 it
  generalize tkI 1 _ _ _ = tsl
  refine compKN (J := fun i ys g' C' => C' = (sl, IsSl (.int 1 tsl) .none .none) :: (L, Frm [Str.ofString "names", Str.ofString "form", Str.ofString "held"] [some (.ref dn), some (.ref T), none]) :: R ∧ All2 (PcAt g') ys ((parts.map fun f => Pc.form f fs).take i)) (itr_tuple T2) (by rw [sizeLine_eq]; simp only [List.drop_succ_cons, List.drop_zero]; omega) (fun _ _ => rfl) ⟨rfl, .nil⟩ ?_ ?_
  · rintro L2 i ys os g' C' R' v X l3 hi ⟨rfl, hv⟩ hy ho ⟨rfl, hys⟩
    obtain ⟨o1, rfl⟩ := lis1 ho
    simp only [List.nil_append, List.cons_append]
    obtain ⟨f, hf, hfa⟩ := hfs.get (by simpa using hv)
    have hvh := handed_plain hfa
    repeat' lge_here
    rename_i g3 xx ddx l4 hpa
    refine ⟨[some v], _, rfl, .same, rfl, ?_⟩
    have := (hys.mono (Q := PcAt g3) fun _ _ x => x.le l4).snoc (PcAt.form hpa (hfa.le (by kle_go)) (hfc.le (by kle_go)))
    rwa [show (parts.map fun f => Pc.form f fs).take i ++ [Pc.form f fs] = (parts.map fun f => Pc.form f fs).take (i + 1) from take_map_succ (fun f => Pc.form f fs) parts hf] at this
  · rintro D L2 ys os' g' C' l3 hy ⟨rfl, hys⟩
    refine ⟨_, _, _, .same, ?_⟩
    rw [List.take_of_length_le (by simp only [List.length_map, List.drop_succ_cons, List.drop_zero]; omega)] at hys
    repeat' lge_here
    refine' ⟨_, ?ccut, h g' D ys (by kle_go) hys⟩
    case ccut => k_subL
theorem sp_inner {w : World} {n : Nat} {g : Heap} {R : Led} {x dx dn T : Addr} {fv : Value} {f : FormD} {fs : List Str} {nm : List (Str × Str)} {post : Value → Heap → Led → Prop}
    (hp : PieceAt g x dx (.ref T) fv (.bool true)) (hf : PlainAt g (.ref T) f) (hfc : Fc g fv fs) (hnx : NmAt w g dn nm) (hfl : fs.length ≤ 1000)
    (h : ∀ g' a ps, Le g g' → All2 (PcAt g') ps (innerF nm fs f) → post (.ref a) g' ((a, IsLst ps) :: R)) :
    Sp w (n + 3) (call (.ref 191) [.ref x, .ref dn]) g R post := by
  rcases hseq : f.isSeq with _ | _
  · refine sp_of_cd (cd_fnC (bs := [(Str.ofString "piece", .ref x), (Str.ofString "names", .ref dn)])
      (fs := [Str.ofString "names", Str.ofString "form", Str.ofString "held"])
      (os := [some (.ref dn), none, none]) (ce := fun L => [(L + 1, IsCel (some (.ref x)))])
      (by k_is) (by k_is) rfl (by decide +kernel) (by kernel_rfl) (by decide +kernel) (fun L => .cel (by rfl) (.loc (by rfl) .here .nil)) (fun L => by rfl) rfl rfl rfl ?_)
    intro L
    simp only [List.cons_append, List.nil_append]
    with_reducible refine sp_freeze1 (a := L + 1) (.there .here) fun g1 l1 c1 => ?_
    obtain ⟨hp1, hp2⟩ := hp
    obtain ⟨FF, fvs, rfl, hfa, hfs⟩ := id hfc
    have hfsl := strs_len hfs
    cases hf with
    | seq0 _ => exact Bool.noConfusion hseq
    | seq1 _ _ => exact Bool.noConfusion hseq
    | seq2 _ _ _ => exact Bool.noConfusion hseq
    | @ite _ tT sT y va vb fA fB hT h1 h2 =>
      have hh1 := handed_plain h1
      have hh2 := handed_plain h2
      obtain ⟨kvs, hkv, hall⟩ := hnx.at_
      have hmods := hnx.mods
      repeat' lge_here
      rcases nm_value hall y with ⟨e1, e2⟩ | ⟨s, ts, e1, e2⟩
      · refine sp_inDb (b := false) hmods (by k_clsL) (by rw [e2]; rfl) ?_
        repeat' lge_here
        rename_i g3 xx ddx l3 hpa aa
        refine' ⟨_, ?ccut, h g3 aa _ (by kle_go) (.cons ?pp .nil)⟩
        case ccut => k_subL
        case pp => rw [e1]; exact .form hpa ((h2.le l1).le l3) ((hfc.le l1).le l3)
      · refine sp_inDb (b := true) hmods (by k_clsL) (by rw [e2]; rfl) ?_
        repeat' lge_here
        rename_i g3 xx ddx l3 hpa aa
        refine' ⟨_, ?ccut, h g3 aa _ (by kle_go) (.cons ?pp .nil)⟩
        case ccut => k_subL
        case pp => rw [e1]; exact .form hpa ((h1.le l1).le l3) ((hfc.le l1).le l3)
    | @name _ tT sT y hT =>
      obtain ⟨kvs, hkv, hall⟩ := hnx.at_
      have hmods := hnx.mods
      repeat' lge_here
      refine sp_get2 hmods (by k_clsL) ?_
      have key : ∀ t0, ∃ s ts, (nmGet nm y).getD (Str.ofString "") = s ∧ (valueAt kvs y).getD (.str (Str.ofString "") t0) = .str s ts := by
        intro t0
        rcases nm_value hall y with ⟨e1, e2⟩ | ⟨s, ts, e1, e2⟩
        · exact ⟨Str.ofString "", t0, by rw [e1]; rfl, by rw [e2]; rfl⟩
        · exact ⟨s, ts, by rw [e1]; rfl, by rw [e2]; rfl⟩
      obtain ⟨s, _, hs, _⟩ := key 0
      have k2 : ∀ t0 : Tok, ∃ ts : Tok, (valueAt kvs y).getD (.str (Str.ofString "") t0) = .str s ts := fun t0 => by
        obtain ⟨s', ts, hs', hv⟩ := key t0
        exact ⟨ts, by rw [hv, hs'.symm.trans hs]⟩
      obtain ⟨ts, hv⟩ := Classical.skolem.mp k2
      rw [hv]
      repeat' lge_here
      rename_i g3 xx ddx l3 hpa aa
      refine' ⟨_, ?ccut, h g3 aa _ (by kle_go) (.cons ?pp .nil)⟩
      case ccut => k_subL
      case pp => rw [hs]; exact .txt hpa ((hfc.le l1).le l3)
    | @width _ tT sT k va fA hT h1 =>
      have hh1 := handed_plain h1
      repeat' lge_here
      rename_i g3 xx ddx l3 hpa aa
      refine' ⟨_, ?ccut, h g3 aa _ (by kle_go) (.cons (.form hpa ((h1.le l1).le l3) ((hfc.le l1).le l3)) .nil)⟩
      case ccut => k_subL
    | @face1 _ F tT sT va fA hT hF h1 =>
      have hh1 := handed_plain h1
      repeat' lge_here
      rename_i g3 d3 l3 T3 g4 xx ddx l4 hpa aa
      refine' ⟨_, ?ccut, h g4 aa _ (by kle_go) (.cons (.form hpa ((h1.le l1).le (l3.trans l4)) ⟨d3, _, rfl, T3.le l4, sc1 hfs⟩) .nil)⟩
      case ccut => k_subL
    | @face2 _ F tT sT rT va fA hT hF h1 =>
      have hh1 := handed_plain h1
      repeat' lge_here
      rename_i g3 d3 l3 T3 g4 xx ddx l4 hpa aa
      refine' ⟨_, ?ccut, h g4 aa _ (by kle_go) (.cons (.form hpa ((h1.le l1).le (l3.trans l4)) ⟨d3, _, rfl, T3.le l4, sc2 hfs⟩) .nil)⟩
      case ccut => k_subL
  · cases hf with
    | seq0 hT => exact inner_seq hp hT .nil (by simp) hfc h
    | seq1 hT h1 => exact inner_seq hp hT (.cons h1 .nil) (by simp) hfc h
    | seq2 hT h1 h2 => exact inner_seq hp hT (.cons h1 (.cons h2 .nil)) (by simp) hfc h
    | ite _ _ _ => exact Bool.noConfusion hseq
    | name _ => exact Bool.noConfusion hseq
    | width _ _ => exact Bool.noConfusion hseq
    | face1 _ _ _ => exact Bool.noConfusion hseq
    | face2 _ _ _ => exact Bool.noConfusion hseq
end

-- field_width
theorem fw_dig {w : Int} (h : w ∈ [(0 : Int), 0, 3, 9]) : (w = 0) ∨ (w = 3) ∨ (w = 9) := by simpa using h
theorem cps_get {x : Str} {pre post : List Nat} {c : Nat} (h : x.cps.toList = pre ++ c :: post) : x.cps[pre.length]? = some c := by
  rw [← Array.getElem?_toList, h, List.getElem?_append_right (Nat.le_refl _), Nat.sub_self]; rfl
theorem cps_len {x : Str} {l : List Nat} (h : x.cps.toList = l) : x.length = l.length := by
  show x.cps.size = _; rw [← h, Array.length_toList]
theorem slice1 {x : Str} {pre post : List Nat} {c : Nat} {i : Int} (h : x.cps.toList = pre ++ c :: post) (hi : i = pre.length) : Txt.slice x (some i) (some (i + 1)) = ⟨#[c]⟩ := by
  have hl := cps_len h
  rw [List.length_append, List.length_cons] at hl
  have := PyProof.Rows.slice_closesL (x := x) (i := i) (j := i + 1) (by omega) (by omega) (by omega)
  rw [eq_of_beq this, h]
  have e : i.toNat = pre.length := by omega
  have e2 : (i + 1 - i).toNat = 1 := by omega
  rw [e, e2, List.drop_left]
  rfl
noncomputable def figs : Str := Str.ofString "0123456789"
section
set_option maxRecDepth 100000
set_option maxHeartbeats 0
theorem sp_fw0 {w : World} {n : Nat} {g : Heap} {R : Led} {x : Str} {t1 t2 : Tok} {a : Int} {pre post' : List Nat} {c : Nat} {post : Value → Heap → Led → Prop}
    (hx : x.cps.toList = pre ++ c :: post') (ha : a = pre.length) (hc : Txt.contains figs ⟨#[c]⟩ = false) (hz : x.length ≤ 1000)
    (h : ∀ g' T u v, Le g g' → AtG g' T (IsTupl [.int 0 u, .int a v]) → post (.ref T) g' R) :
    Sp w (n + 1) (call (.ref 181) [.str x t1, .int a t2]) g R post := by
  refine sp_of_cd (cd_fn (ps := [Str.ofString "text", Str.ofString "at"]) (ns := [Str.ofString "end"]) (fs := [Str.ofString "text", Str.ofString "at", Str.ofString "end"])
    (os := [some (.str x t1), some (.int a t2), none])
    (by k_is) (by k_is) rfl rfl rfl rfl (by decide +kernel) (by kernel_rfl) rfl rfl rfl (by kernel_rfl) ?_)
  intro L
  have hl := cps_len hx
  rw [List.length_append, List.length_cons] at hl
  have hg := cps_get hx
  have hg2 : x.cps[a.toNat]? = some c := by rw [show a.toNat = pre.length by omega]; exact hg
  have ha0 : 0 ≤ a := by omega
  repeat' lge_here
  refine sp_while (J := fun m g' N' => m = 0 ∧ g' = g ∧ N' = (L, Frm [Str.ofString "text", Str.ofString "at", Str.ofString "end"] [some (.str x t1), some (.int a t2), some (.int a t2)]) :: R) 0 ⟨rfl, rfl, rfl⟩ ?_
  rintro m g' N' l ⟨rfl, rfl, rfl⟩
  repeat' lge_here
  · exact Bool.noConfusion (Eq.trans (Eq.symm (by assumption : Txt.contains figs ⟨#[c]⟩ = true)) hc)
  · exfalso; omega
  · refine' ⟨_, ?ccut, h _ _ _ _ (by assumption) (by assumption)⟩
    case ccut => k_subL
  all_goals (exfalso; omega)
theorem sp_fw1 {w : World} {n : Nat} {g : Heap} {R : Led} {x : Str} {t1 t2 : Tok} {a k : Int} {pre post' : List Nat} {d c : Nat} {post : Value → Heap → Led → Prop}
    (hx : x.cps.toList = pre ++ d :: c :: post') (ha : a = pre.length) (hd : (d = 51 ∧ k = 3) ∨ (d = 57 ∧ k = 9)) (hc : Txt.contains figs ⟨#[c]⟩ = false) (hz : x.length ≤ 1000)
    (h : ∀ g' T u v, Le g g' → AtG g' T (IsTupl [.int k u, .int (a + 1) v]) → post (.ref T) g' R) :
    Sp w (n + 1) (call (.ref 181) [.str x t1, .int a t2]) g R post := by
  refine sp_of_cd (cd_fn (ps := [Str.ofString "text", Str.ofString "at"]) (ns := [Str.ofString "end"]) (fs := [Str.ofString "text", Str.ofString "at", Str.ofString "end"])
    (os := [some (.str x t1), some (.int a t2), none])
    (by k_is) (by k_is) rfl rfl rfl rfl (by decide +kernel) (by kernel_rfl) rfl rfl rfl (by kernel_rfl) ?_)
  intro L
  have hl := cps_len hx
  simp only [List.length_append, List.length_cons] at hl
  have hg := cps_get hx
  have hg2 : x.cps[a.toNat]? = some d := by rw [show a.toNat = pre.length by omega]; exact hg
  have hg3 : x.cps[(a + 1).toNat]? = some c := by
    rw [show (a + 1).toNat = (pre ++ [d]).length by rw [List.length_append, List.length_singleton]; omega]
    exact cps_get (post := post') (by rw [hx]; simp)
  have ha0 : 0 ≤ a := by omega
  have hdc : Txt.contains figs ⟨#[d]⟩ = true := by rcases hd with ⟨rfl, _⟩ | ⟨rfl, _⟩ <;> decide +kernel
  have hint : PySem.intText? ⟨#[d]⟩ = some k := by rcases hd with ⟨rfl, rfl⟩ | ⟨rfl, rfl⟩ <;> decide +kernel
  repeat' lge_here
  refine sp_while (J := fun m g' N' => g' = g ∧ ∃ e te, N' = (L, Frm [Str.ofString "text", Str.ofString "at", Str.ofString "end"] [some (.str x t1), some (.int a t2), some (.int e te)]) :: R ∧ (m = 1 ∧ e = a ∨ m = 0 ∧ e = a + 1)) 1 ⟨rfl, _, _, rfl, .inl ⟨rfl, rfl⟩⟩ ?_
  rintro m g' N' l ⟨rfl, e, te, rfl, ⟨rfl, rfl⟩ | ⟨rfl, rfl⟩⟩
  · repeat' lge_here
    · exact whlK_next ⟨0, _, by omega, .same, rfl, _, _, rfl, .inr ⟨rfl, rfl⟩⟩
    all_goals exfalso; first | omega | exact Bool.noConfusion (Eq.trans (Eq.symm hdc) (by assumption))
  · repeat' lge_here
    · exfalso; exact Bool.noConfusion (Eq.trans (Eq.symm (by assumption : Txt.contains figs ⟨#[c]⟩ = true)) hc)
    all_goals try (exfalso; omega)
    refine sp_sliceS (lo := some (a, t2)) (hi := some (a + 1, te)) Has.head rfl rfl rfl (by rw [sizeLine_eq]; omega) fun tk => ?_
    dsimp only [Option.map]
    rw [slice1 hx ha]
    repeat' lge_here
    refine sp_intS hint (show (1 : Nat) ≤ 640 by decide) fun _ => ?_
    repeat' lge_here
    refine' ⟨_, ?ccut, h _ _ _ _ (by assumption) (by assumption)⟩
    case ccut => k_subL
noncomputable def digs (w : Int) : List Nat := if w = 3 then [51] else if w = 9 then [57] else []
theorem sp_fw {w : World} {n : Nat} {g : Heap} {R : Led} {x : Str} {t1 t2 : Tok} {a k : Int} {pre post' : List Nat} {c : Nat} {post : Value → Heap → Led → Prop}
    (hx : x.cps.toList = pre ++ (digs k ++ c :: post')) (ha : a = pre.length) (hk : k ∈ [(0 : Int), 0, 3, 9]) (hc : Txt.contains figs ⟨#[c]⟩ = false) (hz : x.length ≤ 1000)
    (h : ∀ g' T u v, Le g g' → AtG g' T (IsTupl [.int k u, .int (a + (digs k).length) v]) → post (.ref T) g' R) :
    Sp w (n + 1) (call (.ref 181) [.str x t1, .int a t2]) g R post := by
  rcases fw_dig hk with rfl | rfl | rfl
  · exact sp_fw0 hx ha hc hz fun g' T u v l H => h g' T u v l (by simpa [digs] using H)
  · exact sp_fw1 (d := 51) (k := 3) hx ha (.inl ⟨rfl, rfl⟩) hc hz fun g' T u v l H => h g' T u v l H
  · exact sp_fw1 (d := 57) (k := 9) hx ha (.inr ⟨rfl, rfl⟩) hc hz fun g' T u v l H => h g' T u v l H
end

-- told_text
inductive TokD where
  | ch (c : Nat)
  | fld (w : Int) (c : Nat)
noncomputable def TokD.chars : TokD → List Nat
  | .ch c => [c]
  | .fld w c => 37 :: (digs w ++ [c])
noncomputable def TokD.ok : TokD → Prop
  | .ch c => c ≠ 37
  | .fld w c => w ∈ [(0 : Int), 0, 3, 9] ∧ (⟨#[c]⟩ : Str) ∈ lets19
noncomputable def tokOut (F : FD) (room : Int) (out : Str) : TokD → Str
  | .ch c => out ++ ⟨#[c]⟩
  | .fld w c => itemOut F room out (.fld w ⟨#[c]⟩)
theorem join_snoc (xs : List Str) (x : Str) : Txt.join (Str.ofString "") (xs ++ [x]) = Txt.join (Str.ofString "") xs ++ x := by
  have e : (Str.ofString "").cps = #[] := by decide
  cases xs with
  | nil =>
    show (⟨_⟩ : Str) = _
    rw [show Txt.join (Str.ofString "") [] = Str.empty from rfl, empty_app]; rfl
  | cons a r =>
    show (⟨List.foldl (fun acc p => acc ++ (Str.ofString "").cps ++ p.cps) a.cps (r ++ [x])⟩ : Str) = (⟨_ ++ x.cps⟩ : Str)
    rw [List.foldl_append]
    simp only [List.foldl_cons, List.foldl_nil, e, Array.append_empty]
    rfl
theorem lets_nofig {c : Nat} (h : (⟨#[c]⟩ : Str) ∈ lets19) : Txt.contains figs ⟨#[c]⟩ = false := by
  have key : ∀ y ∈ lets19, Txt.contains figs y = false := by
    rw [lets19_eq]; decide +kernel
  exact key _ h
theorem lets_ltrs {y : Str} (h : y ∈ lets19) (hn : ¬ y = Str.ofString "-") : y ∈ Ltrs := by
  have key : ∀ y ∈ lets19, y = Str.ofString "-" ∨ y ∈ Ltrs := by
    rw [lets19_eq]; decide +kernel
  exact (key _ h).resolve_left hn
theorem ne_pct {c : Nat} (h : c ≠ 37) : ¬ (⟨#[c]⟩ : Str) = Str.ofString "%" := by
  intro e
  have e2 : (Str.ofString "%") = ⟨#[37]⟩ := by decide
  rw [e2, Str.mk.injEq, Array.mk.injEq, List.cons.injEq] at e
  exact h e.1
noncomputable def Stop (p : Prop) : Prop := p
theorem nbF {P : Prop} [d : Decidable P] (hn : ¬ P) (hb : (!decide P) = false) : False := by
  rw [decide_eq_false hn] at hb
  cases hb
theorem stop {p : Prop} (h : Stop p) : p := h
theorem unstop {p : Prop} (h : p) : Stop p := h
theorem sp_cont {w : World} {n : Nat} {g : Heap} {N : Led} {env : Env} {p : Pos} {post : Flow → Heap → Led → Prop} (h : post .cont g N) : Sp w n (exec (.Continue p) env) g N post :=
  fun A s Q hA hs k => wpAny_Continue (k _ g N s.heap s.toks (Le.refl g) hs h)
local macro_rules | `(tactic| kl_room) => `(tactic| first
  | ((with_reducible refine' sp_told ?a ?b ?c ?h); (case a => l_fact); (case b => with_reducible assumption); (case c => first | with_reducible assumption | exact lets_ltrs (by with_reducible assumption) (by with_reducible assumption)); intro _ _ _))
local macro_rules | `(tactic| kl_no) => `(tactic| first
  | with_reducible refine' sp_cont ?_)
local macro_rules | `(tactic| kfm_num) => `(tactic| first
  | ((with_reducible show Sp _ _ (eval (Expr.Call (Expr.Name (Str.ofString "sum") _) _ _ _) _) _ _ _); (with_reducible refine stop ?_)))
theorem str_assoc (a b c : Str) : a ++ b ++ c = a ++ (b ++ c) := by
  show (⟨a.cps ++ b.cps ++ c.cps⟩ : Str) = ⟨a.cps ++ (b.cps ++ c.cps)⟩
  rw [Array.append_assoc]
theorem sum_cast (xs : List Str) : (xs.map fun s => (s.length : Int)).sum = ((xs.map (·.length)).sum : Nat) := by
  induction xs with
  | nil => rfl
  | cons a r ih => simp only [List.map_cons, List.sum_cons, ih]; omega
theorem strs_getV {vs : List Value} {ys : List Str} (h : StrsAre vs ys) {i : Nat} {v : Value} (e : vs[i]? = some v) : ∃ x t, v = .str x t ∧ ys[i]? = some x := by
  induction h generalizing i with
  | nil => simp at e
  | cons n t _ ih =>
    cases i with
    | zero => simp at e; subst e; exact ⟨n, t, rfl, rfl⟩
    | succ i => simpa using ih (by simpa using e)
theorem len_le_sum {xs : List Str} {x : Str} (h : x ∈ xs) : x.length ≤ (xs.map (·.length)).sum := by
  induction xs with
  | nil => cases h
  | cons a r ih =>
    simp only [List.map_cons, List.sum_cons]
    rcases List.mem_cons.mp h with rfl | h
    · omega
    · have := ih h; omega
structure TJ (F : FD) (room : Int) (dn : List TokD) (ys : List Value) (xs : List Str) : Prop where
  sts : StrsAre ys xs
  jn : Txt.join (Str.ofString "") xs = dn.foldl (tokOut F room) (Str.ofString "")
  sum : (xs.map (·.length)).sum = (Txt.join (Str.ofString "") xs).length
  bd : (Txt.join (Str.ofString "") xs).length ≤ 2200 * dn.length
  len : xs.length = dn.length
theorem TJ.snoc {F : FD} {room : Int} {dn : List TokD} {ys : List Value} {xs : List Str} {k : TokD} {y : Str} (h : TJ F room dn ys xs) (e : tokOut F room (Txt.join (Str.ofString "") xs) k = Txt.join (Str.ofString "") xs ++ y) (hy : y.length ≤ 2200) (t : Tok) : TJ F room (dn ++ [k]) (ys ++ [.str y t]) (xs ++ [y]) := by
  obtain ⟨a, b, c, d, f⟩ := h
  have hsn := join_snoc xs y
  have hln : (Txt.join (Str.ofString "") (xs ++ [y])).length = (Txt.join (Str.ofString "") xs).length + y.length := by rw [hsn, str_app_len]
  refine ⟨strs_snoc a _ _, ?_, ?_, ?_, ?_⟩
  · rw [hsn, List.foldl_append, List.foldl_cons, List.foldl_nil, ← b, e]
  · rw [List.map_append, List.sum_append, c, hln]; simp
  · rw [hln, List.length_append]; simp only [List.length_cons, List.length_nil]; omega
  · simp only [List.length_append, List.length_cons, List.length_nil]; omega
inductive TTJ (F : FD) (room : Int) (toks : List TokD) (lf L fa : Addr) (x : Str) (t1 t2 : Tok) (R : Led) (m : Nat) (g' : Heap) (N' : Led) : Prop where
  | mk (dn rest : List TokD) (ys : List Value) (xs : List Str) (tat : Tok) (o1 o2 o3 o4 : Option Value) (h1 : toks = dn ++ rest) (h2 : m = rest.length) (e : N' = (lf, IsLst ys) :: (L, Frm [Str.ofString "text", Str.ofString "facts", Str.ofString "room", Str.ofString "found", Str.ofString "at", Str.ofString "width", Str.ofString "place", Str.ofString "letter", Str.ofString "own"] [some (.str x t1), some (.ref fa), some (.int room t2), some (.ref lf), some (.int ((dn.flatMap TokD.chars).length : Nat) tat), o1, o2, o3, o4]) :: R)
    (h3 : TJ F room dn ys xs)
section
set_option maxRecDepth 100000
set_option maxHeartbeats 0
theorem sp_ttext {w : World} {n : Nat} {g : Heap} {R : Led} {fa df : Addr} {t : FT} {F : FD} {x : Str} {room : Int} {t1 t2 : Tok} {toks : List TokD} {post : Value → Heap → Led → Prop}
    (hx : x.cps.toList = toks.flatMap TokD.chars) (hok : ∀ k ∈ toks, k.ok) (hlen : toks.length ≤ 10) (hfx : FactsAt g fa df t F) (hfok : FOk F) (hr0 : -10000000 ≤ room) (hr1 : room ≤ 100)
    (h : ∀ g' tk, Le g g' → (toks.foldl (tokOut F room) (Str.ofString "")).length ≤ 2200 * toks.length → post (.str (toks.foldl (tokOut F room) (Str.ofString "")) tk) g' R) :
    Sp w (n + 4) (call (.ref 186) [.str x t1, .ref fa, .int room t2]) g R post := by
  refine sp_of_cd (cd_fn (ps := [Str.ofString "text", Str.ofString "facts", Str.ofString "room"]) (ns := [Str.ofString "found", Str.ofString "at", Str.ofString "width", Str.ofString "place", Str.ofString "letter", Str.ofString "own"]) (fs := [Str.ofString "text", Str.ofString "facts", Str.ofString "room", Str.ofString "found", Str.ofString "at", Str.ofString "width", Str.ofString "place", Str.ofString "letter", Str.ofString "own"])
    (os := [some (.str x t1), some (.ref fa), some (.int room t2), none, none, none, none, none, none])
    (by k_is) (by k_is) rfl rfl rfl rfl (by decide +kernel) (by kernel_rfl) rfl rfl rfl (by kernel_rfl) ?_)
  intro L
  have hxl := cps_len hx
  repeat' lge_here
  rename_i lf g1 d1 l1 T1
  refine sp_while (J := TTJ F room toks lf L fa x t1 t2 R) toks.length
    ⟨[], toks, [], [], _, none, none, none, none, rfl, rfl, rfl, ⟨.nil, rfl, by decide, by decide, rfl⟩⟩ ?_
  rintro m g' N' l2 ⟨dn, rest, ys, xs, tat, o1, o2, o3, o4, hdr, rfl, rfl, hTJ⟩
  have hys := hTJ.sts
  have hjn := hTJ.jn
  have hsum := hTJ.sum
  have hbd := hTJ.bd
  have hxl2 := hTJ.len
  have hylen := strs_len hys
  have hxs : x.cps.toList = dn.flatMap TokD.chars ++ rest.flatMap TokD.chars := by rw [hx, hdr, List.flatMap_append]
  have hxz : x.length ≤ 1000 := by
    have key : ∀ l : List TokD, (l.flatMap TokD.chars).length ≤ 3 * l.length := by
      intro l
      induction l with
      | nil => simp
      | cons k r ih =>
        rw [List.flatMap_cons, List.length_append, List.length_cons]
        have : k.chars.length ≤ 3 := by
          cases k with
          | ch c => simp [TokD.chars]
          | fld w c => unfold TokD.chars digs; by_cases h3 : w = 3 <;> by_cases h9 : w = 9 <;> simp [h3, h9]
        omega
    have := key toks
    omega
  have hdl : dn.length ≤ 10 := by have := congrArg List.length hdr; rw [List.length_append] at this; omega
  cases rest with
  | nil =>
    have hxl3 : (x.length : Int) = ((dn.flatMap TokD.chars).length : Nat) := by rw [cps_len hxs]; simp
    repeat' lge_here
    all_goals try (exfalso; omega)
    rw [List.append_nil] at hdr
    subst hdr
    refine sp_join Has.head hys (by decide) (by rw [hsum]; omega) fun tk => ?_
    repeat' lge_here
    rw [hjn]
    refine' ⟨_, ?ccut, h _ _ (l1.trans l2) (by rw [← hjn]; exact hbd)⟩
    case ccut => k_subL
  | cons k rest =>
    have hkok := hok k (by rw [hdr]; simp)
    have hP0 : (0 : Int) ≤ ((dn.flatMap TokD.chars).length : Nat) := Int.natCast_nonneg _
    rw [List.flatMap_cons] at hxs
    cases k with
    | ch c =>
      have hc37 : c ≠ 37 := hkok
      have hne := ne_pct hc37
      have hg : x.cps[(((dn.flatMap TokD.chars).length : Nat) : Int).toNat]? = some c := by rw [Int.toNat_natCast]; exact cps_get hxs
      have hltx : (((dn.flatMap TokD.chars).length : Nat) : Int) < x.length := by rw [cps_len hxs, List.length_append, List.length_append]; simp only [TokD.chars, List.length_cons, List.length_nil]; omega
      repeat' lge_here
      all_goals try (exfalso; omega)
      all_goals try exact (nbF hne (by assumption)).elim
      generalize tkS ⟨#[c]⟩ _ _ _ = tkc
      generalize tkI ((((dn.flatMap TokD.chars).length : Nat) : Int) + 1) _ _ _ = tkn
      refine whlK_cont ⟨rest.length, _, by simp, .same, dn ++ [.ch c], rest, ys ++ [.str ⟨#[c]⟩ tkc], xs ++ [⟨#[c]⟩], tkn, o1, o2, o3, o4, by rw [hdr]; simp, rfl, ?_, hTJ.snoc (y := ⟨#[c]⟩) rfl (show (1 : Nat) ≤ 2200 by decide) _⟩
      have e : (((dn ++ [TokD.ch c]).flatMap TokD.chars).length : Nat) = (dn.flatMap TokD.chars).length + 1 := by simp [TokD.chars]
      rw [e]; rfl
    | fld wd c =>
      have hg : x.cps[(((dn.flatMap TokD.chars).length : Nat) : Int).toNat]? = some 37 := by rw [Int.toNat_natCast]; exact cps_get hxs
      have hltx : (((dn.flatMap TokD.chars).length : Nat) : Int) < x.length := by rw [cps_len hxs, List.length_append, List.length_append]; simp only [TokD.chars, List.length_cons, List.length_nil]; omega
      have hwd := hkok.1
      have hc19 := hkok.2
      have hx1 : x.cps.toList = (dn.flatMap TokD.chars ++ [37]) ++ (digs wd ++ c :: rest.flatMap TokD.chars) := by rw [hxs]; simp [TokD.chars]
      have hx2 : x.cps.toList = (dn.flatMap TokD.chars ++ [37] ++ digs wd) ++ c :: rest.flatMap TokD.chars := by rw [hxs]; simp [TokD.chars]
      repeat' lge_here
      all_goals try (exfalso; omega)
      refine sp_fw hx1 (by simp) hwd (lets_nofig hc19) hxz fun g2 T2 u2 v2 l3 HT2 => ?_
      repeat' lge_here
      rename_i sl7
      refine sp_sliceS (lo := some (_, v2)) (hi := some (_, _)) Has.head rfl rfl rfl (by rw [sizeLine_eq]; omega) fun tk8 => ?_
      dsimp only [Option.map]
      rw [slice1 hx2 (by simp only [List.length_append, List.length_cons, List.length_nil]; omega)]
      have hwd9 : 0 ≤ wd ∧ wd ≤ 9 := (by decide : ∀ w ∈ [(0 : Int), 0, 3, 9], 0 ≤ w ∧ w ≤ 9) _ hwd
      have hll := let19len hc19
      have hfe : (((dn ++ [TokD.fld wd c]).flatMap TokD.chars).length : Int) = ((dn.flatMap TokD.chars).length : Nat) + 1 + ((digs wd).length : Nat) + 1 := by simp [TokD.chars]; omega
      have htl := toldF_len hfok hc19
      have hml := mul_len (Str.ofString " ") (max 0 (wd - ((toldF F ⟨#[c]⟩).length : Int))) (by omega) (by decide)
      repeat' lge_here
      · refine unstop (sp_borrow (F := [(lf, IsLst ys)]) (.drop (.take .here .same)) fun g3 l4 fz => ?_)
        have hlf : AtG g3 lf (IsLst ys) := fz _ (.head _)
        refine sp_callN ?_
        repeat' lge_here
        refine' sp_comp (ns := [Str.ofString "piece"]) (fun _ => rfl) ?hcl rfl (by kernel_rfl) (by kernel_rfl) (by decide +kernel) ?_
        case hcl => rfl
        repeat' lge_here
        have hyl : ys.length ≤ 10 := by omega
        rename_i hbm it
        generalize tkI ((((dn.flatMap TokD.chars).length : Nat) : Int) + 1 + (((digs wd).length : Nat) : Int) + 1) _ _ _ = tka
        refine compKN (J := fun i zs g' C' => C' = (L, Frm [Str.ofString "text", Str.ofString "facts", Str.ofString "room", Str.ofString "found", Str.ofString "at", Str.ofString "width", Str.ofString "place", Str.ofString "letter", Str.ofString "own"] [some (.str x t1), some (.ref fa), some (.int room t2), some (.ref lf), some (.int (((dn.flatMap TokD.chars).length : Nat) + 1 + ((digs wd).length : Nat) + 1) tka), some (.int wd u2), some (.int (((dn.flatMap TokD.chars).length : Nat) + 1 + ((digs wd).length : Nat)) v2), some (.str ⟨#[c]⟩ tk8), o4]) :: R ∧ IntsAre zs ((xs.map fun s => (s.length : Int)).take i)) (itr_list hlf) (by rw [sizeLine_eq]; omega) (fun _ _ => rfl) ⟨rfl, .nil⟩ ?_ ?_
        · rintro L2 i zs os g5 C' R' v X l5 hi ⟨rfl, hv⟩ hy ho ⟨rfl, hzs⟩
          refine hideG fun Q hQ => ?_
          obtain ⟨q1, rfl⟩ := lis1 ho
          obtain ⟨xv, tv, rfl, hxv⟩ := strs_getV hys hv
          refine hQ ?_; clear hQ Q
          simp only [List.nil_append, List.cons_append]
          have hxvl : xv.length ≤ 100000 := by
            have h1 : xv.length ≤ (xs.map (·.length)).sum := len_le_sum (List.mem_of_getElem? hxv)
            omega
          repeat' lge_here
          refine ⟨[some (.str xv tv)], _, rfl, .same, rfl, ?_⟩
          exact ints_to (take_map_succ (fun s => (s.length : Int)) xs hxv) (ints_snoc hzs xv.length _)
        · rintro D L2 zs os' g5 C' l5 hy ⟨rfl, hzs⟩
          refine ⟨_, _, _, .same, ?_⟩
          rw [List.take_of_length_le (by rw [List.length_map]; omega)] at hzs
          repeat' lge_here
          refine sp_sum Has.head hzs (fun z hz => ?_) (by rw [List.length_map]; omega) fun tks => ?_
          · obtain ⟨q, hq, rfl⟩ := List.mem_map.mp hz
            have := len_le_sum hq
            omega
          rw [sum_cast, hsum]
          refine ⟨by k_subL, ?_⟩
          simp only [List.cons_append, List.nil_append]
          have hm2 := mul_len (Str.ofString "-") (max 0 (room - ((Txt.join (Str.ofString "") xs).length : Int))) (by omega) (by decide)
          have hm3 := mul_len (Str.ofString " ") (max 0 (wd - ((Txt.mul (Str.ofString "-") (max 0 (room - ((Txt.join (Str.ofString "") xs).length : Int)))).length : Int))) (by omega) (by decide)
          have zd : (Str.ofString "-").length = 1 := by decide
          have zs1 : (Str.ofString " ").length = 1 := by decide
          repeat' lge_here
          refine whlK_next ⟨rest.length, _, by simp, .same, dn ++ [.fld wd c], rest, ys ++ [.str (Txt.mul (Str.ofString "-") (max 0 (room - ((Txt.join (Str.ofString "") xs).length : Int))) ++ Txt.mul (Str.ofString " ") (max 0 (wd - ((Txt.mul (Str.ofString "-") (max 0 (room - ((Txt.join (Str.ofString "") xs).length : Int)))).length : Int)))) _], xs ++ [Txt.mul (Str.ofString "-") (max 0 (room - ((Txt.join (Str.ofString "") xs).length : Int))) ++ Txt.mul (Str.ofString " ") (max 0 (wd - ((Txt.mul (Str.ofString "-") (max 0 (room - ((Txt.join (Str.ofString "") xs).length : Int)))).length : Int)))], tka, _, _, _, _, by rw [hdr]; simp, rfl, (by rw [hfe]), ?_⟩
          · refine hTJ.snoc ?_ (by rw [str_app_len]; omega) _
            show itemOut F room _ (.fld wd _) = _
            unfold itemOut
            dsimp only
            rw [if_pos hbm, str_assoc]
      · refine whlK_next ⟨rest.length, _, by simp, .drop .same, dn ++ [.fld wd c], rest, ys ++ [.str (toldF F ⟨#[c]⟩ ++ Txt.mul (Str.ofString " ") (max 0 (wd - ((toldF F ⟨#[c]⟩).length : Int)))) _], xs ++ [toldF F ⟨#[c]⟩ ++ Txt.mul (Str.ofString " ") (max 0 (wd - ((toldF F ⟨#[c]⟩).length : Int)))], _, _, _, _, _, by rw [hdr]; simp, rfl, (by rw [hfe]), ?_⟩
        · refine hTJ.snoc ?_ (by rw [str_app_len]; omega) _
          show itemOut F room _ (.fld wd _) = _
          unfold itemOut
          dsimp only
          rw [if_neg (show ¬ (⟨#[c]⟩ : Str) = Str.ofString "-" by assumption), str_assoc]
end

-- the worklist, in plain words
theorem join_chars (xs : List Str) : (Txt.join (Str.ofString "") xs).cps.toList = xs.flatMap (·.cps.toList) := by
  have e : (Str.ofString "").cps = #[] := by decide
  have key : ∀ (r : List Str) (acc : Array Nat), (List.foldl (fun acc (p : Str) => acc ++ (Str.ofString "").cps ++ p.cps) acc r).toList = acc.toList ++ r.flatMap (·.cps.toList) := by
    intro r
    induction r with
    | nil => intro acc; simp
    | cons a r ih => intro acc; rw [List.foldl_cons, ih]; simp [e]
  cases xs with
  | nil => rfl
  | cons a r => exact key r a.cps
noncomputable def itemToks : ItemD → List TokD
  | .lit t => t.cps.toList.map .ch
  | .fld w c => [.fld w (c.cps.toList.headD 0)]
theorem app_chars (a b : Str) : (a ++ b).cps.toList = a.cps.toList ++ b.cps.toList := by
  show (a.cps ++ b.cps).toList = _; rw [Array.toList_append]
theorem let19_one {c : Str} (h : c ∈ lets19) : ∃ n, c = ⟨#[n]⟩ := by
  obtain ⟨n, _, rfl⟩ := List.mem_map.mp h
  exact ⟨n, rfl⟩
theorem item_chars {i : ItemD} (h : i.ok) : (itemText i).cps.toList = (itemToks i).flatMap TokD.chars := by
  have e : (Str.ofString "").cps.toList = [] := by decide
  cases i with
  | lit t =>
    unfold itemText itemToks
    rw [app_chars, app_chars, e, List.nil_append, List.nil_append, List.flatMap_map]
    simp [TokD.chars]
  | fld w c =>
    obtain ⟨n, rfl⟩ := let19_one h.2
    unfold itemText itemToks
    have e2 : (Str.ofString "%").cps.toList = [37] := by decide
    have e3 : ∀ w ∈ [(0 : Int), 0, 3, 9], (if w > 0 then Str.ofString (toString w) else Str.ofString "").cps.toList = digs w := by decide +kernel
    rw [app_chars, app_chars, e2, e3 w h.1]
    simp [TokD.chars]
theorem plain_chars {l : List ItemD} (h : ∀ i ∈ l, i.ok) : (plainText l).cps.toList = (l.flatMap itemToks).flatMap TokD.chars := by
  unfold plainText
  rw [join_chars]
  induction l with
  | nil => rfl
  | cons a r ih => rw [List.map_cons, List.flatMap_cons, List.flatMap_cons, List.flatMap_append, item_chars (h a (.head _)), ih fun i hi => h i (.tail _ hi)]
theorem lit_ok {t : Str} (h : t ∈ lits) : (∀ c ∈ t.cps.toList, c ≠ 37) ∧ t.length ≤ 2 := by
  have key : ∀ t ∈ lits, (∀ c ∈ t.cps.toList, c ≠ 37) ∧ t.length ≤ 2 := by decide
  exact key t h
theorem toks_ok {l : List ItemD} (h : ∀ i ∈ l, i.ok) : ∀ k ∈ l.flatMap itemToks, k.ok := by
  intro k hk
  obtain ⟨i, hi, hk⟩ := List.mem_flatMap.mp hk
  have ho := h i hi
  cases i with
  | lit t =>
    obtain ⟨c, hc, rfl⟩ := List.mem_map.mp hk
    exact (lit_ok ho).1 c hc
  | fld w c =>
    obtain ⟨n, rfl⟩ := let19_one ho.2
    rw [List.mem_singleton.mp hk]
    exact ho
theorem toks_len {l : List ItemD} (h : ∀ i ∈ l, i.ok) : (l.flatMap itemToks).length ≤ 2 * l.length := by
  induction l with
  | nil => simp
  | cons a r ih =>
    rw [List.flatMap_cons, List.length_append, List.length_cons]
    have := ih fun i hi => h i (.tail _ hi)
    have h2 : (itemToks a).length ≤ 2 := by
      have ho := h a (.head _)
      cases a with
      | lit t => unfold itemToks; rw [List.length_map]; exact (lit_ok ho).2
      | fld w c => simp [itemToks]
    omega
theorem app_empty (x : Str) : x ++ Str.empty = x := by
  obtain ⟨c⟩ := x
  show (⟨c ++ #[]⟩ : Str) = _
  rw [Array.append_empty]
theorem chs_out (F : FD) (room : Int) (cs : List Nat) : ∀ out : Str, (cs.map TokD.ch).foldl (tokOut F room) out = out ++ ⟨cs.toArray⟩ := by
  induction cs with
  | nil => intro out; exact (app_empty out).symm
  | cons c r ih =>
    intro out
    rw [List.map_cons, List.foldl_cons, ih]
    show (⟨out.cps ++ #[c] ++ r.toArray⟩ : Str) = ⟨out.cps ++ (c :: r).toArray⟩
    congr 1
    apply Array.ext'
    simp
theorem item_out {F : FD} {room : Int} {i : ItemD} (h : i.ok) (out : Str) : (itemToks i).foldl (tokOut F room) out = itemOut F room out i := by
  cases i with
  | lit t =>
    unfold itemToks itemOut
    rw [chs_out]
    have e : Txt.mul (Str.ofString " ") (max 0 (0 - (t.length : Int))) = Str.empty := by
      rw [show max 0 (0 - (t.length : Int)) = 0 by omega]
      decide +kernel
    dsimp only
    rw [e, app_empty]
  | fld w c =>
    obtain ⟨n, rfl⟩ := let19_one h.2
    rfl
theorem text_out {F : FD} {room : Int} {l : List ItemD} (h : ∀ i ∈ l, i.ok) : (l.flatMap itemToks).foldl (tokOut F room) (Str.ofString "") = textOut F room l := by
  unfold textOut
  generalize Str.ofString "" = out
  induction l generalizing out with
  | nil => rfl
  | cons a r ih => rw [List.flatMap_cons, List.foldl_append, List.foldl_cons, item_out (h a (.head _)), ih fun i hi => h i (.tail _ hi)]
noncomputable def runS (F : FD) (nm : List (Str × Str)) (width : Int) : List Pc → List CellD → List CellD
  | [], cs => cs
  | .form f fs :: r, cs => runS F nm width r (cs ++ lcells F nm width f fs (cs.length : Int))
  | .txt s fs :: r, cs => runS F nm width r (cs ++ toCells s fs)
  | .fit b k :: r, cs => runS F nm width r (keepF b k cs)
noncomputable def pushF (nm : List (Str × Str)) (fs : List Str) (n : Nat) : FormD → List Pc
  | .width k a => [.form a fs, .fit n k]
  | f => innerF nm fs f
theorem min_toN (x : Nat) (i : Int) : (min (x : Int) i).toNat = min x i.toNat := by
  rcases Int.le_total (x : Int) i with q | q
  · rw [Int.min_eq_left q, Int.toNat_natCast, Nat.min_eq_left (by omega)]
  · rw [Int.min_eq_right q, Nat.min_eq_right (by omega)]
theorem keep_app (cs x : List CellD) (k : Int) : keepF cs.length k (cs ++ x) = cs ++ (if k < 0 then x.take (-k).toNat else x ++ List.replicate (k - x.length).toNat (32, [])) := by
  unfold keepF
  have e : (((cs ++ x).length : Nat) : Int) - (cs.length : Nat) = x.length := by rw [List.length_append]; omega
  rw [e]
  by_cases h1 : k > (x.length : Int)
  · rw [if_pos h1, if_neg (by omega), List.append_assoc]
  · rw [if_neg h1]
    by_cases h2 : k < 0
    · rw [if_pos h2, if_pos h2, List.take_append, List.take_of_length_le (by omega)]
      congr 1
      rw [Nat.add_sub_cancel_left, min_toN, Int.zero_sub]
      rcases Nat.le_total x.length (-k).toNat with q | q
      · rw [Nat.min_eq_left q, List.take_of_length_le (Nat.le_refl _), List.take_of_length_le q]
      · rw [Nat.min_eq_right q]
    · rw [if_neg h2, if_neg h2, show (k - (x.length : Int)).toNat = 0 by omega]
      simp
theorem run_push (F : FD) (nm : List (Str × Str)) (width : Int) (f : FormD) (fs : List Str) (r : List Pc) (cs : List CellD) (h : ∀ l, f ≠ .text l) :
    runS F nm width (pushF nm fs cs.length f ++ r) cs = runS F nm width (.form f fs :: r) cs := by
  cases f with
  | text l => exact absurd rfl (h l)
  | seq0 => simp [pushF, innerF, runS, lcells]
  | seq1 a => simp [pushF, innerF, runS, lcells]
  | seq2 a b => simp [pushF, innerF, runS, lcells]
  | ite x a b =>
    simp only [pushF, innerF, runS, lcells, List.cons_append, List.nil_append]
    split <;> rfl
  | name x => simp [pushF, innerF, runS, lcells]
  | width k a =>
    simp only [pushF, runS, lcells, List.cons_append, List.nil_append, keep_app]
  | face1 a => simp [pushF, innerF, runS, lcells]
  | face2 a => simp [pushF, innerF, runS, lcells]
noncomputable def FormD.cost : FormD → Nat
  | .text _ => 1
  | .seq0 => 1
  | .seq1 a => a.cost + 1
  | .seq2 a b => a.cost + b.cost + 1
  | .ite _ a b => max a.cost b.cost + 1
  | .name _ => 2
  | .width _ a => a.cost + 2
  | .face1 a => a.cost + 1
  | .face2 a => a.cost + 1
theorem cost_le (f : FormD) : f.cost + 1 ≤ 3 * 2 ^ f.dp := by
  have p0 : ∀ n, 1 ≤ 2 ^ n := fun n => Nat.pow_pos (by decide)
  have mono : ∀ a b : Nat, a ≤ b → 2 ^ a ≤ 2 ^ b := fun a b h => Nat.pow_le_pow_right (by decide) h
  induction f with
  | text _ => simp [FormD.cost, FormD.dp]
  | seq0 => simp [FormD.cost, FormD.dp]
  | name _ => simp [FormD.cost, FormD.dp]
  | seq1 a ih => simp only [FormD.cost, FormD.dp, Nat.pow_succ]; have := p0 a.dp; omega
  | seq2 a b iha ihb =>
    simp only [FormD.cost, FormD.dp, Nat.pow_succ]
    have := mono a.dp (max a.dp b.dp) (by omega)
    have := mono b.dp (max a.dp b.dp) (by omega)
    omega
  | ite _ a b iha ihb =>
    simp only [FormD.cost, FormD.dp, Nat.pow_succ]
    have := mono a.dp (max a.dp b.dp) (by omega)
    have := mono b.dp (max a.dp b.dp) (by omega)
    omega
  | width _ a ih => simp only [FormD.cost, FormD.dp, Nat.pow_succ]; have := p0 a.dp; omega
  | face1 a ih => simp only [FormD.cost, FormD.dp, Nat.pow_succ]; have := p0 a.dp; omega
  | face2 a ih => simp only [FormD.cost, FormD.dp, Nat.pow_succ]; have := p0 a.dp; omega
theorem cost23 {f : FormD} (h : f.dp ≤ 3) : f.cost ≤ 23 := by
  have := cost_le f
  have := Nat.pow_le_pow_right (show 1 ≤ 2 by decide) h
  omega
noncomputable def Pc.cost : Pc → Nat
  | .form f _ => f.cost
  | .txt _ _ => 1
  | .fit _ _ => 1
noncomputable def costs : List Pc → Nat
  | [] => 0
  | p :: r => p.cost + costs r
theorem costs_app (a b : List Pc) : costs (a ++ b) = costs a + costs b := by
  induction a with
  | nil => simp [costs]
  | cons p r ih => simp [costs, ih]; omega
theorem push_cost (nm : List (Str × Str)) (fs : List Str) (n : Nat) (f : FormD) : costs (pushF nm fs n f) + 1 ≤ f.cost := by
  cases f with
  | ite x a b => simp only [pushF, innerF, costs, Pc.cost, FormD.cost]; split <;> omega
  | _ => simp [pushF, innerF, costs, Pc.cost, FormD.cost] <;> omega
noncomputable def stOk : List Pc → Nat → Prop
  | [], _ => True
  | .form f fs :: r, n => f.ok ∧ fs.length + 2 * f.dp ≤ 900 ∧ stOk r n
  | .txt s _ :: r, n => s.length ≤ 10 ∧ stOk r n
  | .fit b k :: r, n => b ≤ n ∧ -5 ≤ k ∧ k ≤ 9 ∧ stOk r b
theorem stOk.mono : ∀ {st : List Pc} {n m : Nat}, stOk st n → n ≤ m → stOk st m
  | [], _, _, _, _ => trivial
  | .form _ _ :: _, _, _, h, l => ⟨h.1, h.2.1, stOk.mono h.2.2 l⟩
  | .txt _ _ :: _, _, _, h, l => ⟨h.1, stOk.mono h.2 l⟩
  | .fit _ _ :: _, _, _, h, l => ⟨Nat.le_trans h.1 l, h.2⟩
theorem stOk.push {nm : List (Str × Str)} (hnl : ∀ p ∈ nm, p.2.length ≤ 10) {f : FormD} {fs : List Str} {r : List Pc} {n : Nat} (h : stOk (.form f fs :: r) n) : stOk (pushF nm fs n f ++ r) n := by
  obtain ⟨h1, h2, h3⟩ := h
  cases f with
  | text l => exact h3
  | seq0 => exact h3
  | seq1 a => exact ⟨h1, by simp only [FormD.dp] at h2; omega, h3⟩
  | seq2 a b => exact ⟨h1.1, by simp only [FormD.dp] at h2; omega, h1.2, by simp only [FormD.dp] at h2; omega, h3⟩
  | ite x a b =>
    simp only [pushF, innerF, List.cons_append, List.nil_append]
    simp only [FormD.dp] at h2
    split
    · exact ⟨h1.2.1, by omega, h3⟩
    · exact ⟨h1.2.2, by omega, h3⟩
  | name x =>
    refine ⟨?_, h3⟩
    cases e : nmGet nm x with
    | none => decide
    | some s =>
      unfold nmGet at e
      rw [Option.map_eq_some_iff] at e
      obtain ⟨q, hq, rfl⟩ := e
      exact hnl q (List.mem_of_find?_eq_some hq)
  | width k a =>
    have hk := (by decide : ∀ k ∈ [(4 : Int), 9, -2, -5, 0], -5 ≤ k ∧ k ≤ 9) k h1.1
    exact ⟨h1.2, by simp only [FormD.dp] at h2; omega, Nat.le_refl _, hk.1, hk.2, h3⟩
  | face1 a => exact ⟨h1, by simp only [FormD.dp] at h2; rw [List.length_append]; simp; omega, h3⟩
  | face2 a => exact ⟨h1, by simp only [FormD.dp] at h2; rw [List.length_append]; simp; omega, h3⟩
theorem All2.unsnoc {α β : Type} {P : α → β → Prop} {as : List α} {bs : List β} {b : β} (h : All2 P as (bs ++ [b])) : ∃ as' a, as = as' ++ [a] ∧ All2 P as' bs ∧ P a b := by
  induction bs generalizing as with
  | nil =>
    have h : All2 P as [b] := h
    cases h with
    | cons hp t => cases t; exact ⟨[], _, rfl, .nil, hp⟩
  | cons y ys ih =>
    have h : All2 P as (y :: (ys ++ [b])) := h
    cases h with
    | cons hp t => obtain ⟨as', a, e, h1, h2⟩ := ih t; exact ⟨_ :: as', a, by rw [e]; rfl, .cons hp h1, h2⟩
theorem All2.rev {α β : Type} {P : α → β → Prop} {as : List α} {bs : List β} (h : All2 P as bs) : All2 P as.reverse bs.reverse := by
  induction h with
  | nil => exact .nil
  | cons x _ ih => rw [List.reverse_cons, List.reverse_cons]; exact ih.snoc x
theorem keep_len {b : Nat} {k : Int} {cs : List CellD} (h : b ≤ cs.length) : b ≤ (keepF b k cs).length ∧ (keepF b k cs).length ≤ max cs.length (b + k.toNat) := by
  unfold keepF
  split
  · rw [List.length_append, List.length_replicate]; exact ⟨by omega, Nat.le_trans (by omega) (Nat.le_max_right _ _)⟩
  · split
    · rw [List.length_take]; exact ⟨Nat.le_min.mpr ⟨Nat.le_add_right _ _, h⟩, Nat.le_trans (Nat.min_le_right _ _) (Nat.le_max_left _ _)⟩
    · exact ⟨h, Nat.le_max_left _ _⟩

-- told_cells
theorem sp_sliceLs {w : World} {n : Nat} {g : Heap} {N : Led} {value slice : Expr} {l sl : Addr} {vs ws : List Value} {a b c : Value} {lo hi st : Option Int} {post : Value → Heap → Led → Prop} (hl : Has g N l (IsLst vs)) (hsl : Has g N sl (IsSl a b c)) (ha : IsPart a lo) (hb : IsPart b hi) (hc : IsPart c st) (h0 : st ≠ some 0)
    (hz : vs.length ≤ sizeLine) (hw : (slicePick vs.toArray lo hi st).toList = ws)
    (hs : subscripted slice false (.ref l) (.ref sl) = operate [.ref l, .ref sl] (getItem (.ref l) (.ref sl))) (h : ∀ d, post (.ref d) g ((d, IsLst ws) :: N)) : Sp w n (subscriptTail value slice (.ref l) (.ref sl)) g N post :=
  fun A s Q hA hs' K => tail_any (IsLst.isList (hl.at hs')).typeIs slot_list_getitem.lookup (PySem.wpAny_getItem_list_slice (IsLst.isList (hl.at hs')) (IsSl.isSliceOf (hsl.at hs')) ha hb hc h0
    (K _ g _ _ _ (Le.refl g) (hs'.push (P := IsLst ws) ⟨0, by rw [← hw, Array.toArray_toList]⟩) (h _)) (by rw [List.size_toArray]; exact hz)) hs
noncomputable def isStop (a : Nat) : Bool := [186, 160, 167, 191, 252, 259, 198, 278, 269, 224, 247, 304, 292, 328, 309, 203].contains a
theorem stopC {w : World} {n : Nat} {g : Heap} {N : Led} {a : Addr} {args : List Value} {post : Value → Heap → Led → Prop} (hs : isStop a = true) (h : Stop (Sp w n (call (.ref a) args) g N post)) : Sp w n (call (.ref a) args) g N post := h
local macro_rules | `(tactic| kl_room) => `(tactic| first
  | (with_reducible refine' sp_isiNo ?a ?b ?c ?d ?e ?f ?g ?i ?j ?h); (case a | b => k_clsL); (case c => kin_no); (case d | e | f | g | i | j => k_is)
  | (with_reducible refine' sp_isiYes ?a ?b ?c ?h); (case a | b => k_clsL); (case c => k_is)
  | (with_reducible refine' stopC ?st ?h); (case st => rfl)
  | (with_reducible refine' sp_Fit ?h); intro _ _ _ _ _)
local macro_rules | `(tactic| ksl_some) => `(tactic| first
  | ((with_reducible show Sp _ _ (subscriptTail _ (Expr.Slice none none _ _) _ _) _ _ _); (with_reducible refine stop ?_)))
theorem plain_sort {g : Heap} {u : Value} {f : FormD} (h : PlainAt g u f) : (∃ items t, u = .str (plainText items) t ∧ f = .text items) ∨
    (∃ T tT sT k va a, u = .ref T ∧ f = .width k a ∧ AtG g T (IsTupl [.str (Str.ofString "width") tT, .int k sT, va])) ∨
    (∃ T tT sx rest, u = .ref T ∧ AtG g T (IsTupl (.str sx tT :: rest)) ∧ ¬ sx = Str.ofString "width" ∧ (∀ l, f ≠ .text l) ∧ ∀ nm fs n, pushF nm fs n f = innerF nm fs f) := by
  have d1 : ¬ Str.ofString "seq" = Str.ofString "width" := by decide
  have d2 : ¬ Str.ofString "if" = Str.ofString "width" := by decide
  have d3 : ¬ Str.ofString "name" = Str.ofString "width" := by decide
  have d4 : ¬ Str.ofString "face" = Str.ofString "width" := by decide
  cases h with
  | text => exact .inl ⟨_, _, rfl, rfl⟩
  | width a _ => exact .inr (.inl ⟨_, _, _, _, _, _, rfl, rfl, a⟩)
  | seq0 a => exact .inr (.inr ⟨_, _, _, _, rfl, a, d1, (fun l z => FormD.noConfusion z), fun _ _ _ => rfl⟩)
  | seq1 a _ => exact .inr (.inr ⟨_, _, _, _, rfl, a, d1, (fun l z => FormD.noConfusion z), fun _ _ _ => rfl⟩)
  | seq2 a _ _ => exact .inr (.inr ⟨_, _, _, _, rfl, a, d1, (fun l z => FormD.noConfusion z), fun _ _ _ => rfl⟩)
  | ite a _ _ => exact .inr (.inr ⟨_, _, _, _, rfl, a, d2, (fun l z => FormD.noConfusion z), fun _ _ _ => rfl⟩)
  | name a => exact .inr (.inr ⟨_, _, _, _, rfl, a, d3, (fun l z => FormD.noConfusion z), fun _ _ _ => rfl⟩)
  | face1 a _ _ => exact .inr (.inr ⟨_, _, _, _, rfl, a, d4, (fun l z => FormD.noConfusion z), fun _ _ _ => rfl⟩)
  | face2 a _ _ => exact .inr (.inr ⟨_, _, _, _, rfl, a, d4, (fun l z => FormD.noConfusion z), fun _ _ _ => rfl⟩)
inductive TCJ (F : FD) (nm : List (Str × Str)) (width : Int) (f : FormD) (dxT lw L fa dn xT : Addr) (v : Value) (t1 : Tok) (R : Led) (m : Nat) (g' : Heap) (N' : Led) : Prop where
  | mk (st : List Pc) (ps vs : List Value) (cs : List CellD) (lc : Addr) (left : Int) (tl : Tok) (o1 o2 : Option Value) (e : N' = (lw, IsLst ps) :: (lc, IsLst vs) :: (dxT, Atr [Str.ofString "cells"] [some (.ref lc)]) :: (L, Frm [Str.ofString "form", Str.ofString "facts", Str.ofString "names", Str.ofString "width", Str.ofString "told", Str.ofString "waiting", Str.ofString "left", Str.ofString "piece", Str.ofString "room"] [some v, some (.ref fa), some (.ref dn), some (.int width t1), some (.ref xT), some (.ref lw), some (.int left tl), o1, o2]) :: R)
    (h1 : All2 (PcAt g') ps st.reverse) (h2 : All2 (TCell g') vs cs) (h3 : runS F nm width st cs = lcells F nm width f [] 0) (h4 : m = costs st) (h5 : (m : Int) ≤ left) (h6 : left ≤ 200) (h7 : cs.length + 20000 * m ≤ 480000) (h8 : stOk st cs.length)
section
set_option maxRecDepth 100000
set_option maxHeartbeats 0
theorem sp_tcells {w : World} {n : Nat} {g : Heap} {R : Led} {fa df dn : Addr} {t : FT} {F : FD} {nm : List (Str × Str)} {v : Value} {f : FormD} {width : Int} {t1 : Tok} {post : Value → Heap → Led → Prop}
    (hf : PlainAt g v f) (hok : f.ok) (hd3 : f.dp ≤ 3) (hfx : FactsAt g fa df t F) (hfok : LFOk F) (hnx : NmAt w g dn nm) (hnl : ∀ p ∈ nm, p.2.length ≤ 10) (hw0 : 0 ≤ width) (hw1 : width ≤ 40)
    (h : ∀ g' a vs, Le g g' → All2 (TCell g') vs (lcells F nm width f [] 0) → vs.length ≤ 500000 → post (.ref a) g' ((a, IsLst vs) :: R)) :
    Sp w (n + 5) (call (.ref 198) [v, .ref fa, .ref dn, .int width t1]) g R post := by
  refine sp_of_cd (cd_fn (ps := [Str.ofString "form", Str.ofString "facts", Str.ofString "names", Str.ofString "width"]) (ns := [Str.ofString "told", Str.ofString "waiting", Str.ofString "left", Str.ofString "piece", Str.ofString "room"]) (fs := [Str.ofString "form", Str.ofString "facts", Str.ofString "names", Str.ofString "width", Str.ofString "told", Str.ofString "waiting", Str.ofString "left", Str.ofString "piece", Str.ofString "room"])
    (os := [some v, some (.ref fa), some (.ref dn), some (.int width t1), none, none, none, none, none])
    (by k_is) (by k_is) rfl rfl rfl rfl (by decide +kernel) (by kernel_rfl) rfl rfl rfl (by kernel_rfl) ?_)
  intro L
  have hvh := handed_plain hf
  repeat' lge_here
  refine sp_Told fun g1 xT dxT lc l1 hT => ?_
  repeat' lge_here
  rename_i g2 dE l2 TE g3 xp dxp l3 hp lw g4 dt l4 Tt
  have hle : Le g g4 := by kle_go
  refine' sp_cut (N' := (lw, IsLst [.ref xp]) :: (lc, IsLst []) :: (dxT, Atr [Str.ofString "cells"] [some (.ref lc)]) :: (L, Frm [Str.ofString "form", Str.ofString "facts", Str.ofString "names", Str.ofString "width", Str.ofString "told", Str.ofString "waiting", Str.ofString "left", Str.ofString "piece", Str.ofString "room"] _) :: R) ?ccut ?_
  case ccut => k_subL
  refine sp_while (J := TCJ F nm width f dxT lw L fa dn xT v t1 R) f.cost
    ⟨[.form f []], [.ref xp], [], [], lc, 200, _, none, none, rfl, .cons (.form (hp.le l4) (hf.le hle) ⟨dE, [], rfl, TE.le (l3.trans l4), .nil⟩) .nil, .nil, by simp [runS], by simp [costs, Pc.cost], by have := cost23 hd3; omega, by omega, by have := cost23 hd3; simp; omega, hok, by simp; omega, trivial⟩ ?_
  rintro m g' N' l5 ⟨st, ps, vs, cs, lc, left, tl, o1, o2, rfl, hps, hvs, hrun, rfl, hml, hl2, hcl, hst⟩
  have hvl := hvs.len
  have hT2 : AtG g' xT (IsInst 170 dxT) := (hT.le (l2.trans (l3.trans l4))).le l5
  have hfx2 := (hfx.le hle).le l5
  have hnx2 := (hnx.le hle).le l5
  have hle2 : Le g g' := hle.trans l5
  clear l5 l4 l3 l2 l1 hle Tt hp TE hT hfx hnx
  have hsl : ps.length ≤ 1000 := by
    have h1 : ∀ st : List Pc, st.length ≤ costs st := by
      intro st
      induction st with
      | nil => simp [costs]
      | cons p r ih =>
        simp only [costs, List.length_cons]
        have : 1 ≤ p.cost := by
          cases p with
          | form f fs => show 1 ≤ f.cost; cases f <;> simp [FormD.cost]
          | txt _ _ => exact Nat.le_refl 1
          | fit _ _ => exact Nat.le_refl 1
        omega
    have := h1 st
    have := hps.len
    rw [List.length_reverse] at this
    omega
  cases st with
  | nil =>
    cases hps with
    | nil =>
    repeat' lge_here
    refine' ⟨_, ?ccut, h _ _ vs hle2 (by rw [← hrun]; exact hvs) (by omega)⟩
    case ccut => k_subL
  | cons pc st =>
    rw [List.reverse_cons] at hps
    refine hideG fun Q hQ => ?_
    obtain ⟨ps, p, rfl, hps2, hpc⟩ := hps.unsnoc
    clear hps
    have hne : ¬ (ps ++ [p] = []) := by simp
    rw [List.length_append] at hsl
    simp only [costs] at hml hcl
    cases hpc with
    | @fit x dx b k tb tk hfit =>
      obtain ⟨hf1, hf2⟩ := id hfit
      obtain ⟨hs1, hs2, hs3, hs4⟩ := hst
      refine hQ ?_; clear hQ Q
      repeat' lge_here
      all_goals try exact (nbF hne (by assumption)).elim
      refine unstop ?_
      refine' sp_cut (N' := (lc, IsLst vs) :: (dxT, Atr [Str.ofString "cells"] [some (.ref lc)]) :: (lw, IsLst ps) :: (L, Frm [Str.ofString "form", Str.ofString "facts", Str.ofString "names", Str.ofString "width", Str.ofString "told", Str.ofString "waiting", Str.ofString "left", Str.ofString "piece", Str.ofString "room"] _) :: R) ?ccut (sp_keep hT2 hfit hvs (by omega) (by omega) hs2 hs3 (by omega) fun g7 lc' ws l7 hws hwl => ?_)
      case ccut => k_subL
      have hkl := keep_len (b := b) (k := k) (cs := cs) hs1
      have hwl2 := hws.len
      rw [Int.toNat_natCast] at hws hwl2
      repeat' lge_here
      refine' whlK_next ⟨costs st, _, by simp [costs, Pc.cost], ?ccut, st, ps, ws, keepF b k cs, lc', left, tl, _, _, rfl, hps2.mono fun _ _ x => x.le l7, hws, hrun, rfl, by omega, hl2, ?_, hs4.mono hkl.1⟩
      case ccut => k_subL
      · have hc1 : (Pc.fit b k).cost = 1 := rfl
        rw [hc1] at hcl
        have h2 := hkl.2
        omega
    | @txt x dx fv s ts fs hpi hfc =>
      obtain ⟨hf1, hf2⟩ := id hpi
      obtain ⟨hs1, hs2⟩ := hst
      obtain ⟨FF, fvs, rfl, hfa, hfs⟩ := id hfc
      have hc1 : (Pc.txt s fs).cost = 1 := rfl
      rw [hc1] at hcl hml
      refine hQ ?_; clear hQ Q
      repeat' lge_here
      all_goals try exact (nbF hne (by assumption)).elim
      all_goals try (exfalso; omega)
      rename_i tk1 _ tk2
      refine unstop ?_
      refine' sp_cut (N' := (lc, IsLst vs) :: (dxT, Atr [Str.ofString "cells"] [some (.ref lc)]) :: (lw, IsLst ps) :: (L, Frm [Str.ofString "form", Str.ofString "facts", Str.ofString "names", Str.ofString "width", Str.ofString "told", Str.ofString "waiting", Str.ofString "left", Str.ofString "piece", Str.ofString "room"] _) :: R) ?ccut (sp_put hT2 hfc (by omega) (by omega) fun g7 ws l7 hws => ?_)
      case ccut => k_subL
      have hwl2 := hws.len
      rw [cells_len] at hwl2
      repeat' lge_here
      refine' whlK_next ⟨costs st, _, by simp [costs, Pc.cost], ?ccut, st, ps, vs ++ ws, cs ++ toCells s fs, lc, left - 1, _, _, _, rfl, hps2.mono fun _ _ x => x.le l7, (hvs.mono fun _ _ x => x.le l7).app hws, hrun, rfl, by omega, by omega, ?_, hs2.mono (by rw [List.length_append]; omega)⟩
      case ccut => k_subL
      · rw [List.length_append, cells_len]; omega
    | @form x dx u fv ff fs hpi hpl hfc =>
      obtain ⟨hf1, hf2⟩ := id hpi
      obtain ⟨hs1, hs2, hs3⟩ := id hst
      obtain ⟨FF, fvs, rfl, hfa, hfs⟩ := id hfc
      have hc0 : (Pc.form ff fs).cost = ff.cost := rfl
      rw [hc0] at hcl hml
      have hffc : 1 ≤ ff.cost := by cases ff <;> simp [FormD.cost]
      rcases plain_sort hpl with ⟨items, tk0, rfl, rfl⟩ | ⟨T, tT, sT, k, va, a, rfl, rfl, hT⟩ | ⟨T, tT, sx, rest, rfl, hT, hsx, hnt, hpush⟩
      · have ho1 := hs1.1
        have ho2 := hs1.2
        have htl := toks_len ho2
        refine hQ ?_; clear hQ Q
        repeat' lge_here
        all_goals try exact (nbF hne (by assumption)).elim
        all_goals try (exfalso; omega)
        refine unstop (sp_ttext (plain_chars ho2) (toks_ok ho2) (by omega) hfx2 hfok.ok (by omega) (by omega) fun g6 tk6 l6 hl6 => ?_)
        rw [text_out ho2] at hl6 ⊢
        repeat' lge_here
        refine unstop ?_
        refine' sp_cut (N' := (lc, IsLst vs) :: (dxT, Atr [Str.ofString "cells"] [some (.ref lc)]) :: (lw, IsLst ps) :: (L, Frm [Str.ofString "form", Str.ofString "facts", Str.ofString "names", Str.ofString "width", Str.ofString "told", Str.ofString "waiting", Str.ofString "left", Str.ofString "piece", Str.ofString "room"] _) :: R) ?ccut (sp_put (hT2.le l6) (hfc.le l6) (by omega) (by omega) fun g7 ws l7 hws => ?_)
        case ccut => k_subL
        have hwl2 := hws.len
        rw [cells_len] at hwl2
        rw [hvl] at hws
        repeat' lge_here
        refine' whlK_next ⟨costs st, _, by simp [costs, Pc.cost, FormD.cost], ?ccut, st, ps, vs ++ ws, cs ++ lcells F nm width (.text items) fs (cs.length : Int), lc, left - 1, _, _, _, rfl, hps2.mono fun _ _ x => x.le (l6.trans l7), (hvs.mono fun _ _ x => x.le (l6.trans l7)).app hws, hrun, rfl, by omega, by omega, ?_, hs3.mono (by rw [List.length_append]; omega)⟩
        case ccut => k_subL
        · have e1 : (lcells F nm width (.text items) fs (cs.length : Int)).length = ws.length := (hws.len).symm
          rw [List.length_append, e1]
          omega
      · refine hQ ?_; clear hQ Q
        repeat' lge_here
        all_goals try exact (nbF hne (by assumption)).elim
        all_goals try (exfalso; omega)
        rename_i g5 xf dxf l5 hfit
        refine unstop (sp_inner (hpi.le (by kle_go)) (hpl.le (by kle_go)) (hfc.le (by kle_go)) (hnx2.le (by kle_go)) (by omega) fun g6 a6 qs l6 hqs => ?_)
        have hql := hqs.len
        have hqs1 : qs.length = 1 := hql
        repeat' lge_here
        refine unstop (sp_sliceLs (ws := qs.reverse) (lo := none) (hi := none) (st := some (-1)) (by k_clsL) Has.head .none .none (.int _ _) (by simp) (by rw [sizeLine_eq]; omega) (pick_rev qs) rfl fun dd => ?_)
        have hqr : qs.reverse.length = 1 := by rw [List.length_reverse]; exact hqs1
        repeat' lge_here
        rw [hvl] at hfit
        have hpc := push_cost nm fs cs.length (.width k a)
        have hca := costs_app (pushF nm fs cs.length (.width k a)) st
        have hpa : All2 (PcAt g6) (ps ++ [Value.ref xf] ++ qs.reverse) (pushF nm fs cs.length (.width k a) ++ st).reverse := by
          have z := ((hps2.mono (Q := PcAt g6) fun _ _ x => x.le (l5.trans l6)).app (.cons (PcAt.fit (hfit.le l6)) .nil)).app hqs.rev
          have e : (pushF nm fs cs.length (.width k a) ++ st).reverse = st.reverse ++ [Pc.fit cs.length k] ++ (innerF nm fs (.width k a)).reverse := by simp [pushF, innerF]
          rw [e]; exact z
        refine' whlK_next ⟨costs (pushF nm fs cs.length (.width k a) ++ st), _, ?_, ?ccut, pushF nm fs cs.length (.width k a) ++ st, _, vs, cs, lc, left - 1, _, _, _, rfl, hpa, hvs.mono fun _ _ x => x.le (l5.trans l6), (run_push F nm width (.width k a) fs st cs (fun l z => FormD.noConfusion z)).trans hrun, rfl, ?_, by omega, ?_, stOk.push hnl hst⟩
        case ccut => k_subL
        all_goals (try simp only [costs, Pc.cost]); omega
      · refine hQ ?_; clear hQ Q
        repeat' lge_here
        all_goals try exact (nbF hne (by assumption)).elim
        all_goals try (exfalso; first | omega | contradiction)
        refine unstop (sp_inner (hpi.le (by kle_go)) (hpl.le (by kle_go)) (hfc.le (by kle_go)) (hnx2.le (by kle_go)) (by omega) fun g6 a6 qs l6 hqs => ?_)
        have hql := hqs.len
        have hqs2 : qs.length ≤ 2 := by rw [hql]; cases ff <;> simp [innerF]
        repeat' lge_here
        refine unstop (sp_sliceLs (ws := qs.reverse) (lo := none) (hi := none) (st := some (-1)) (by k_clsL) Has.head .none .none (.int _ _) (by simp) (by rw [sizeLine_eq]; omega) (pick_rev qs) rfl fun dd => ?_)
        have hqr : qs.reverse.length ≤ 2 := by rw [List.length_reverse]; exact hqs2
        repeat' lge_here
        have hpc := push_cost nm fs cs.length ff
        have hca := costs_app (pushF nm fs cs.length ff) st
        have hpa : All2 (PcAt g6) (ps ++ qs.reverse) (pushF nm fs cs.length ff ++ st).reverse := by
          have z := (hps2.mono (Q := PcAt g6) fun _ _ x => x.le l6).app hqs.rev
          rw [hpush, List.reverse_append]; exact z
        refine' whlK_next ⟨costs (pushF nm fs cs.length ff ++ st), _, ?_, ?ccut, pushF nm fs cs.length ff ++ st, _, vs, cs, lc, left - 1, _, _, _, rfl, hpa, hvs.mono fun _ _ x => x.le l6, (run_push F nm width ff fs st cs hnt).trans hrun, rfl, ?_, by omega, ?_, stOk.push hnl hst⟩
        case ccut => k_subL
        all_goals (try simp only [costs, Pc.cost]); omega
end

-- faces and their table
section
variable {w : World} {n : Nat} {g : Heap} {N : Led} {env : Env}
theorem cd_fnD {f dT : Addr} {vs us : List Value} {name qual : Str} {params : Arguments} {body : List Stmt} {scope : Scope} {kV doc pm cdv ct oc : Value} {an od : Option Addr} {osl : Array (Option Value)} {ps ns fs : List Str} {os : List (Option Value)} {items : Array Value} {kk : Option (Array Value) → Sem (List (Str × Value))}
    {post : Value → Heap → Led → Prop}
    (ho : (hd0.heap_1 w.params).lookup f = some ⟨oc, od, .func (fnOf name qual params body scope (.ref dT) kV doc pm an cdv ct), osl⟩) (hcd : codeIn (hd0.heap_1 w.params) cdv qual = true)
    (hT : (hd0.heap_1 w.params).lookup dT = some { cls := .type "tuple", data := .seq items })
    (hb1 : bindArgs (fnOf name qual params body scope (.ref dT) kV doc pm an cdv ct) ⟨vs, []⟩ = seqItems? (.ref dT) >>= kk) (hb2 : kk (some items) = pure (ps.zip us)) (hlen : ps.length = us.length) (hfs : fs = ps ++ ns) (hos : os = us.map some ++ List.replicate ns.length none) (hnd : fs.Nodup)
    (hloc : (ps.all fun x => decide (scope.names.lookup x = some .local)) = true) (hco : scope.isCoroutine = false) (hgen : scope.isGenerator = false) (hk : scope.kind = .function) (hcell : (scope.names.all fun x => x.2 != .cell) = true)
    (h : ∀ L, Sp w n (execs body (envOf qual scope L f cdv)) g ((L, Frm fs os) :: N) (fun fl g' N' => ∃ N'', Cut N' N'' ∧ post (retOf fl) g' N'')) :
    Cd w (n + 1) (.ref f) vs g N post :=
  fun A s R hA hs k => by
    subst hfs hos
    refine (codeAny_call_function hA.depth (hs.keep _ _ (hs.good.k _ _ ho)) rfl hco hgen rfl (codeRec_of (hs.good.k.keeps hs.keep) hcd) ?_)
    refine BindsTo.of_defaults (s := s) rfl (hs.keep _ _ (hs.good.k _ _ hT)) rfl hb1 hb2 _ _ _ _ ?_
    refine (wpAny_newFunctionEnv (by
      intro x hx; have := List.all_eq_true.mp hcell x hx; simpa using this) (by
      intro x hx
      have := (List.of_mem_zip (a := x.1) (b := x.2) hx).1
      exact of_decide_eq_true (List.all_eq_true.mp hloc _ this)) (fun h₁ hns hsb => ?_) hk)
    obtain ⟨_, _, _, _, _, T⟩ := (hs.good.le hs.keep).top
    refine ⟨T.nolimit.fresh _ hsb, codeAny_func ?_⟩
    have hs1 : H w g ((s.heap.objs.size, Frm (ps ++ ns) (us.map some ++ List.replicate ns.length none)) :: N) h₁ := by
      have z : H w g ((s.heap.objs.size, fun _ => True) :: N) (s.heap.push { cls := .type "frame", data := .dict #[] }) := hs.push trivial
      exact z.set hsb (frm_of_ns hnd (ns_congr hns fun y => look_binds hlen hnd (look_nones ns _) y))
    have hA' : Room (A.deeper (envOf qual scope s.heap.objs.size f cdv)) n := by
      obtain ⟨hh, a, b⟩ := hA
      refine ⟨hh, ?_, ?_⟩
      · show A.depth + 1 + 4 * n < _; omega
      · show A.units + 3 + 16 * n < _; omega
    exact wpAny_mono (h _ _ { s with heap := h₁, toks := s.toks + (ps.zip us).length } (fun fl s' => R (.ok (.ret (retOf fl))) s') hA' hs1 fun fl g' N' h' tk' l hs' ⟨N'', c, p⟩ => k _ g' N'' h' tk' l (hs'.cutN c) p)
      (fun fl s' z => by cases fl <;> exact z) (fun _ _ z => z.elim)
end
theorem tupI_at {g : Heap} {d : Addr} {ws : List Value} {ks : List Int} (h : AtG g d (IsTupl ws)) (hi : IntsAre ws ks) : AtG g d (TupI ks) := let ⟨o, e, p⟩ := h; ⟨o, e, ws, p, hi⟩
theorem sp_ret0 {w : World} {n : Nat} {g : Heap} {N : Led} {env : Env} {p : Pos} {post : Flow → Heap → Led → Prop} (h : post (.ret .none) g N) : Sp w n (exec (.Return none p) env) g N post :=
  fun A s Q hA hs k => wpAny_Return_none (k _ g N s.heap s.toks (Le.refl g) hs h)
structure FaceAt (g : Heap) (x dx pa : Addr) : Prop where
  inst : AtG g x (IsInst 224 dx)
  attr : AtG g dx (Atr faceNames [some (.ref pa), some (.ref 213)])
theorem FaceAt.le {g g' : Heap} {x dx pa : Addr} (h : FaceAt g x dx pa) (l : Le g g') : FaceAt g' x dx pa := ⟨h.inst.le l, h.attr.le l⟩
noncomputable abbrev tabNames : List Str := [Str.ofString "by_name", Str.ofString "looks", Str.ofString "numbers"]
structure TabO (g : Heap) (x dx bn lk nb : Addr) : Prop where
  inst : AtG g x (IsInst 269 dx)
  attr : AtG g dx (Atr tabNames [some (.ref bn), some (.ref lk), some (.ref nb)])
  mb : (bn == sysModules) = false
  mn : (nb == sysModules) = false
theorem TabO.le {g g' : Heap} {x dx bn lk nb : Addr} (h : TabO g x dx bn lk nb) (l : Le g g') : TabO g' x dx bn lk nb := ⟨h.inst.le l, h.attr.le l, h.mb, h.mn⟩
section
set_option maxRecDepth 100000
set_option maxHeartbeats 0
theorem sp_Face {w : World} {n : Nat} {g : Heap} {R : Led} {pa : Addr} {post : Value → Heap → Led → Prop}
    (h : ∀ g' x dx, Le g g' → FaceAt g' x dx pa → post (.ref x) g' R) : Sp w (n + 2) (call (.ref 224) [.ref pa]) g R post := by
  refine sp_frz (sp_of_cd (cd_newO (fI := 221) (ns := faceNames) (os := [none, none]) (by k_is) (by k_is) (by k_is) (by decide +kernel) (by decide) rfl fun x dx => ?_))
  refine cd_fnD (ps := [Str.ofString "self", Str.ofString "parts", Str.ofString "parents"]) (ns := []) (fs := [Str.ofString "self", Str.ofString "parts", Str.ofString "parents"])
    (us := [.ref x, .ref pa, .ref 213]) (os := [some (.ref x), some (.ref pa), some (.ref 213)])
    (by k_is) (by k_is) (by k_is) rfl rfl rfl rfl rfl (by decide +kernel) (by kernel_rfl) rfl rfl rfl (by kernel_rfl) ?_
  intro L
  repeat' lge_here
  exact ⟨_, .drop .same, rfl, [(x, _), (dx, _)], R, .same, fun g2 l2 q => h g2 x dx l2 ⟨q _ (.head _), q _ (.tail _ (.head _))⟩⟩
theorem e213 (w : World) : (hd0.heap_1 w.params).lookup 213 = some { cls := .type "tuple", data := .seq #[] } := by k_is
theorem e204 (w : World) : ∃ a b c d e f, (hd0.heap_1 w.params).lookup 204 = some { cls := .type "tuple", data := .seq #[.int 0 a, .int 0 b, .int 0 c, .int 0 d, .int 0 e, .int 0 f] } := ⟨_, _, _, _, _, _, by k_is⟩
theorem e205 (w : World) : (hd0.heap_1 w.params).lookup 205 = some { cls := .type "tuple", data := .seq #[.none, .none, .none, .none, .none, .none] } := by k_is
noncomputable def PlainT (g : Heap) : Prop := ∃ a b c d e f, AtG g 204 (IsTupl [.int 0 a, .int 0 b, .int 0 c, .int 0 d, .int 0 e, .int 0 f])
theorem sp_consts {α : Type} {w : World} {n : Nat} {g : Heap} {N : Led} {t : Sem α} {post : α → Heap → Led → Prop} (h : PlainT g → AtG g 205 (IsTupl [.none, .none, .none, .none, .none, .none]) → AtG g 213 (IsTupl []) → Sp w n t g N post) : Sp w n t g N post :=
  sp_good fun hG => h (let ⟨a, b, c, d, e, f, z⟩ := e204 w; ⟨a, b, c, d, e, f, good_tup hG z⟩) (good_tup hG (e205 w)) (good_tup hG (e213 w))
noncomputable abbrev dfl : Str := Str.ofString "default"
theorem sp_Table {w : World} {n : Nat} {g : Heap} {R : Led} {post : Value → Heap → Led → Prop}
    (h : ∀ g' x dx bn lk nb f0 fd t, Le g g' → TabO g' x dx bn lk nb → FaceAt g' f0 fd 204 → PlainT g' → AtG g' 213 (IsTupl []) → post (.ref x) g' ((bn, Dic w [(dfl, .ref f0)]) :: (lk, IsLst [.ref 204]) :: (nb, DicT w [([0, 0, 0, 0, 0, 0], 204, .int 0 t)]) :: R)) : Sp w (n + 4) (call (.ref 269) []) g R post := by
  refine sp_consts fun hP h205 h213 => ?_
  obtain ⟨ta, tb, tc, td, te, tf, h204⟩ := id hP
  refine sp_frz (sp_of_cd (cd_newO (fI := 242) (ns := tabNames) (os := [none, none, none]) (by k_is) (by k_is) (by k_is) (by decide +kernel) (by decide) rfl fun x dx => ?_))
  refine cd_fn (ps := [Str.ofString "self"]) (ns := []) (fs := [Str.ofString "self"])
    (os := [some (.ref x)])
    (by k_is) (by k_is) rfl rfl rfl rfl (by decide +kernel) (by kernel_rfl) rfl rfl rfl (by kernel_rfl) ?_
  intro L
  repeat' lge_here
  refine sp_dictK rfl rfl (by simp) (by decide) fun d hd => ?_
  repeat' lge_here
  refine unstop (sp_Face fun g1 f0 fd l1 hF => ?_)
  repeat' lge_here
  refine sp_dictT1 fun d2 hd2 => ?_
  repeat' lge_here
  rename_i lk
  generalize tkI 0 _ _ _ = tz
  refine ⟨204, _, [0, 0, 0, 0, 0, 0], _, rfl, tupI_at (h204.le l1) (.cons _ _ (.cons _ _ (.cons _ _ (.cons _ _ (.cons _ _ (.cons _ _ .nil)))))), .here rfl, ?_⟩
  repeat' lge_here
  refine' ⟨_, .same, rfl, [(x, _), (dx, _)], (d, Dic w [(dfl, .ref f0)]) :: (lk, IsLst [.ref 204]) :: (d2, DicT w [([0, 0, 0, 0, 0, 0], 204, .int 0 tz)]) :: R, ?ccut, fun g2 l2 q => h g2 x dx d lk d2 f0 fd tz (l1.trans l2) ⟨q _ (.head _), q _ (.tail _ (.head _)), hd, hd2⟩ (hF.le l2) ⟨ta, tb, tc, td, te, tf, (h204.le l1).le l2⟩ ((h213.le l1).le l2)⟩
  case ccut => exact .take (.there (.there (.there (.there .here)))) (.take (.there (.there (.there (.there .here)))) (.take (.there (.there .here)) (.take (.there .here) (.take .here (.drop .same)))))
theorem sp_define {w : World} {n : Nat} {g : Heap} {R : Led} {x dx bn lk nb face : Addr} {kvs : List (Str × Value)} {name : Str} {t : Tok} {post : Value → Heap → Led → Prop} (hT : TabO g x dx bn lk nb) (hne : ¬ name = dfl) (hnew : name ∉ kvs.map (·.1)) (hz : kvs.length ≤ 1000)
    (h : post .none g ((bn, Dic w (kvs ++ [(name, .ref face)])) :: R)) : Sp w (n + 2) (call (.ref 247) [.ref x, .str name t, .ref face]) g ((bn, Dic w kvs) :: R) post := by
  refine sp_of_cd (cd_fn (ps := [Str.ofString "self", Str.ofString "name", Str.ofString "face"]) (ns := [Str.ofString "told", Str.ofString "number", Str.ofString "look"]) (fs := [Str.ofString "self", Str.ofString "name", Str.ofString "face", Str.ofString "told", Str.ofString "number", Str.ofString "look"])
    (os := [some (.ref x), some (.str name t), some (.ref face), none, none, none])
    (by k_is) (by k_is) rfl rfl rfl rfl (by decide +kernel) (by kernel_rfl) rfl rfl rfl (by kernel_rfl) ?_)
  intro L
  have hT1 := hT.inst
  have hT2 := hT.attr
  have hT3 := hT.mb
  have hT4 := hT.mn
  repeat' lge_here
  · refine sp_setD (kvs := kvs) (by rw [stored_new hnew]; exact .there (.here rfl)) hz ?_
    repeat' lge_here
    refine sp_ret0 ?_
    repeat' lge_here
    refine' ⟨_, ?ccut, h⟩
    case ccut => k_subL
  all_goals (exfalso; simp only [hne, decide_false, Bool.not_false, Bool.true_eq_false] at *)
end

-- merged
inductive OptV : Value → Option Int → Prop where
  | none : OptV .none none
  | some (k : Int) (t : Tok) : OptV (.int k t) (some k)
noncomputable def tabF (x : Str) : List (Option Int) :=
  if x = Str.ofString "k" then [some 1, none, none, none, none, none]
  else if x = Str.ofString "l" then [none, some 2, none, none, none, none]
  else if x = Str.ofString "line" then [none, none, some 3, none, none, none]
  else [some 0, some 0, some 0, some 0, some 0, some 0]
theorem tabF_len (x : Str) : (tabF x).length = 6 := by unfold tabF; split; rfl; split; rfl; split <;> rfl
noncomputable abbrev kln : List Str := [Str.ofString "k", Str.ofString "l", Str.ofString "line"]
noncomputable abbrev nam4 : List Str := [Str.ofString "default", Str.ofString "k", Str.ofString "l", Str.ofString "line"]
structure ByName (w : World) (g : Heap) (bn : Addr) (kvs : List (Str × Value)) : Prop where
  at_ : AtG g bn (Dic w kvs)
  ent : ∀ x ∈ nam4, ∃ fx fd pa pv, valueAt kvs x = some (.ref fx) ∧ FaceAt g fx fd pa ∧ AtG g pa (IsTupl pv) ∧ All2 OptV pv (tabF x)
  nil_ : AtG g 213 (IsTupl [])
theorem ByName.le {w : World} {g g' : Heap} {bn : Addr} {kvs : List (Str × Value)} (h : ByName w g bn kvs) (l : Le g g') : ByName w g' bn kvs :=
  ⟨h.at_.le l, fun x hx => let ⟨fx, fd, pa, pv, a, b, c, d⟩ := h.ent x hx; ⟨fx, fd, pa, pv, a, b.le l, c.le l, d⟩, h.nil_.le l⟩
noncomputable def por : Option Int → Option Int → Option Int
  | some a, _ => some a
  | none, b => b
noncomputable def mrg : List Str → List Str → List (Option Int) → List (Option Int)
  | [], _, f => f
  | n :: r, met, f => if n ∈ met then mrg r met f else mrg r (met ++ [n]) (List.zipWith por f (tabF n))
noncomputable abbrev nones : List (Option Int) := [none, none, none, none, none, none]
noncomputable def lookOf (names : List Str) : List Int := (mrg (names ++ [dfl]) [] nones).map (·.getD 0)
theorem zip_len {f : List (Option Int)} (h : f.length = 6) (x : Str) : (List.zipWith por f (tabF x)).length = 6 := by rw [List.length_zipWith, h, tabF_len]; rfl
theorem zw0 : ∀ f : List (Option Int), List.zipWith por f (List.replicate f.length (some 0)) = (f.map (·.getD 0)).map some
  | [] => rfl
  | o :: f => by
    have z : por o (some 0) = some (o.getD 0) := by cases o <;> rfl
    rw [List.length_cons, List.replicate_succ, List.zipWith_cons_cons, zw0 f, z]; rfl
theorem mrg_full : ∀ (names met : List Str) (f : List (Option Int)), (∀ x ∈ names, x ≠ dfl) → dfl ∉ met → f.length = 6 → ∃ ks : List Int, mrg (names ++ [dfl]) met f = ks.map some
  | [], met, f, _, hm, hf => by
    show ∃ ks : List Int, (if dfl ∈ met then _ else mrg [] (met ++ [dfl]) (List.zipWith por f (tabF dfl))) = _
    rw [if_neg hm]
    have e : tabF dfl = [some 0, some 0, some 0, some 0, some 0, some 0] := by decide
    rw [e]
    have z := zw0 f
    rw [hf] at z
    exact ⟨_, z⟩
  | n :: r, met, f, hn, hm, hf => by
    show ∃ ks : List Int, (if n ∈ met then mrg (r ++ [dfl]) met f else mrg (r ++ [dfl]) (met ++ [n]) (List.zipWith por f (tabF n))) = _
    split
    · exact mrg_full r met f (fun x hx => hn x (.tail _ hx)) hm hf
    · refine mrg_full r _ _ (fun x hx => hn x (.tail _ hx)) (fun h => ?_) (zip_len hf n)
      rcases List.mem_append.mp h with h | h
      · exact hm h
      · exact hn n (.head _) (List.mem_singleton.mp h).symm
theorem look_full {names : List Str} (h : ∀ x ∈ names, x ≠ dfl) : mrg (names ++ [dfl]) [] nones = (lookOf names).map some := by
  obtain ⟨ks, e⟩ := mrg_full names [] nones h (by simp) rfl
  unfold lookOf
  rw [e, List.map_map]
  simp
theorem opts_ints {vs : List Value} {ks : List Int} (h : All2 OptV vs (ks.map some)) : IntsAre vs ks := by
  generalize e : ks.map some = os at h
  induction h generalizing ks with
  | nil => cases ks with
    | nil => exact .nil
    | cons _ _ => simp at e
  | cons hv _ ih =>
    cases ks with
    | nil => simp at e
    | cons k r =>
      rw [List.map_cons, List.cons.injEq] at e
      obtain ⟨rfl, e2⟩ := e
      cases hv
      exact .cons _ _ (ih e2)
theorem strs_rev {vs : List Value} {xs : List Str} (h : StrsAre vs xs) : StrsAre vs.reverse xs.reverse := by
  induction h with
  | nil => exact .nil
  | cons x t _ ih => rw [List.reverse_cons, List.reverse_cons]; exact strs_snoc ih x t
theorem strs_unsnoc {vs : List Value} {xs : List Str} {x : Str} (h : StrsAre vs (xs ++ [x])) : ∃ ws t, vs = ws ++ [.str x t] ∧ StrsAre ws xs := by
  induction xs generalizing vs with
  | nil =>
    have h : StrsAre vs [x] := h
    cases h with
    | cons _ t h => cases h; exact ⟨[], t, rfl, .nil⟩
  | cons y ys ih =>
    have h : StrsAre vs (y :: (ys ++ [x])) := h
    cases h with
    | cons _ t h => obtain ⟨ws, t2, e, h2⟩ := ih h; exact ⟨.str y t :: ws, t2, by rw [e]; rfl, .cons y t h2⟩
theorem value_none {kvs : List (Str × Value)} {x : Str} (h : x ∉ kvs.map (·.1)) : valueAt kvs x = none := by
  induction kvs with
  | nil => rfl
  | cons p r ih =>
    simp only [List.map_cons, List.mem_cons, not_or] at h
    unfold valueAt at ih ⊢
    rw [List.find?_cons, decide_eq_false (fun e => h.1 e.symm)]
    exact ih h.2
theorem value_some {kvs : List (Str × Value)} {x : Str} (h : x ∈ kvs.map (·.1)) : (valueAt kvs x).isSome = true := by
  induction kvs with
  | nil => cases h
  | cons p r ih =>
    simp only [List.map_cons, List.mem_cons] at h
    unfold valueAt at ih ⊢
    rw [List.find?_cons]
    by_cases e : p.1 = x
    · rw [decide_eq_true e]; rfl
    · rw [decide_eq_false e]
      exact ih (h.resolve_left fun z => e z.symm)
theorem zip_take {f : Option Int → Option Int → Option Int} {as bs : List (Option Int)} {i : Nat} {a b : Option Int} (ha : as[i]? = some a) (hb : bs[i]? = some b) : (List.zipWith f as bs).take i ++ [f a b] = (List.zipWith f as bs).take (i + 1) := by
  rw [List.take_add_one]
  have : (List.zipWith f as bs)[i]? = some (f a b) := by rw [List.getElem?_zipWith, ha, hb]
  rw [this]; rfl
local macro_rules | `(tactic| kl_room) => `(tactic| first
  | ((with_reducible show Sp _ _ (call (Value.type "zip") _) _ _ _); (with_reducible refine stop ?_)))
local macro_rules | `(tactic| ksl_some) => `(tactic| first
  | ((with_reducible show Sp _ _ (subscriptTail _ _ (Value.ref _) (Value.str _ _)) _ _ _); (with_reducible refine stop ?_)))
local macro_rules | `(tactic| kl_no) => `(tactic| first
  | ((with_reducible show Sp _ _ (compareOp .In (Value.str _ _) (Value.ref _)) _ _ _); (with_reducible refine stop ?_))
  | ((with_reducible show Sp _ _ (compareOp .NotIn (Value.str _ _) (Value.ref _)) _ _ _); (with_reducible refine stop ?_))
  | ((with_reducible show Sp _ _ (setItem (Value.ref _) (Value.str _ _) _) _ _ _); (with_reducible refine stop ?_)))
inductive MGJ (w : World) (x T lw md L : Addr) (names : List Str) (R : Led) (m : Nat) (g' : Heap) (N' : Led) : Prop where
  | mk (st met : List Str) (ws : List Value) (mkvs : List (Str × Value)) (fl : Addr) (fvs : List Value) (fo : List (Option Int)) (o1 o2 : Option Value) (e : N' = (lw, IsLst ws) :: (md, Dic w mkvs) :: (fl, IsLst fvs) :: (L, Frm [Str.ofString "self", Str.ofString "names", Str.ofString "waiting", Str.ofString "met", Str.ofString "found", Str.ofString "name", Str.ofString "face"] [some (.ref x), some (.ref T), some (.ref lw), some (.ref md), some (.ref fl), o1, o2]) :: R)
    (h1 : StrsAre ws st.reverse) (h2 : mkvs.map (·.1) = met) (h3 : All2 OptV fvs fo) (h4 : mrg st met fo = (lookOf names).map some) (h5 : m = st.length) (h6 : ∀ x ∈ st, x ∈ nam4) (h7 : fo.length = 6) (h8 : mkvs.length + st.length ≤ 30)
section
set_option maxRecDepth 100000
set_option maxHeartbeats 0
theorem sp_merged {w : World} {n : Nat} {g : Heap} {R : Led} {x dx bn lk nb T : Addr} {kvs : List (Str × Value)} {vs : List Value} {names : List Str} {post : Value → Heap → Led → Prop} (hT : TabO g x dx bn lk nb) (hB : ByName w g bn kvs) (hvs : AtG g T (IsTupl vs)) (hns : StrsAre vs names) (hnm : ∀ x ∈ names, x ∈ kln) (hlen : names.length ≤ 20)
    (h : ∀ g' d ws, Le g g' → AtG g' d (IsTupl ws) → IntsAre ws (lookOf names) → post (.ref d) g' R) : Sp w (n + 2) (call (.ref 252) [.ref x, .ref T]) g R post := by
  refine sp_consts fun hP h205 h213 => ?_
  refine sp_of_cd (cd_fn (ps := [Str.ofString "self", Str.ofString "names"]) (ns := [Str.ofString "waiting", Str.ofString "met", Str.ofString "found", Str.ofString "name", Str.ofString "face"]) (fs := [Str.ofString "self", Str.ofString "names", Str.ofString "waiting", Str.ofString "met", Str.ofString "found", Str.ofString "name", Str.ofString "face"])
    (os := [some (.ref x), some (.ref T), none, none, none, none, none])
    (by k_is) (by k_is) rfl rfl rfl rfl (by decide +kernel) (by kernel_rfl) rfl rfl rfl (by kernel_rfl) ?_)
  intro L
  have hT1 := hT.inst
  have hT2 := hT.attr
  have hT3 := hT.mb
  have hT4 := hT.mn
  have hB1 := hB.at_
  have hvl := strs_len hns
  repeat' lge_here
  refine unstop (sp_sliceLs (ws := vs.reverse) (lo := none) (hi := none) (st := some (-1)) (by k_clsL) Has.head .none .none (.int _ _) (by simp) (by rw [sizeLine_eq]; omega) (pick_rev vs) rfl fun dd => ?_)
  have hrl : vs.reverse.length ≤ 20 := by rw [List.length_reverse]; omega
  repeat' lge_here
  rename_i lw md hmd fl g1 dt l1 Tt
  refine' sp_cut (N' := (lw, IsLst _) :: (md, Dic w []) :: (fl, IsLst _) :: (L, Frm [Str.ofString "self", Str.ofString "names", Str.ofString "waiting", Str.ofString "met", Str.ofString "found", Str.ofString "name", Str.ofString "face"] _) :: R) ?ccut ?_
  case ccut => k_subL
  refine sp_while (J := MGJ w x T lw md L names R) (names.length + 1)
    ⟨names ++ [dfl], [], _, [], fl, _, nones, none, none, rfl, by rw [List.reverse_append]; exact .cons _ _ (strs_rev hns), rfl, .cons .none (.cons .none (.cons .none (.cons .none (.cons .none (.cons .none .nil))))), look_full fun y hy => by have := hnm y hy; intro e; subst e; revert this; decide, by simp, fun y hy => ?_, rfl, by simp; omega⟩ ?_
  · rcases List.mem_append.mp hy with hy | hy
    · exact List.mem_cons_of_mem _ (hnm y hy)
    · rw [List.mem_singleton.mp hy]; exact .head _
  rintro m g' N' l5 ⟨st, met, ws, mkvs, fl, fvs, fo, o1, o2, rfl, hws, hmk, hfv, hmr, rfl, hst, hfo, hml⟩
  have hBg := (hB.le l1).le l5
  have hTg := (hT.le l1).le l5
  have hle : Le g g' := l1.trans l5
  have hn213 := hBg.nil_
  have hB1' := hBg.at_
  have hT1 := hTg.inst
  have hT2 := hTg.attr
  have hT3 := hTg.mb
  have hT4 := hTg.mn
  clear l1 l5 Tt hB hT h205 h213 hP hB1
  have hwl := strs_len hws
  rw [List.length_reverse] at hwl
  cases st with
  | nil =>
    cases hws
    have hfv2 : fo = (lookOf names).map some := hmr
    rw [hfv2] at hfv
    have hfl := hfv.len
    rw [List.length_map] at hfl
    have hfl2 : fvs.length ≤ 6 := by rw [hfl, ← List.length_map (f := some), ← hfv2]; omega
    repeat' lge_here
    rename_i g7 d7 l7 T7
    refine' ⟨_, ?ccut, h g7 d7 fvs (hle.trans l7) T7 (opts_ints hfv)⟩
    case ccut => k_subL
  | cons nm st =>
    rw [List.reverse_cons] at hws
    refine hideG fun Q hQ => ?_
    obtain ⟨ws, tn, rfl, hws2⟩ := strs_unsnoc hws
    have hne : ¬ (ws ++ [Value.str nm tn] = []) := by simp
    rw [List.length_append] at hwl
    simp only [List.length_cons, List.length_nil] at hwl hml
    obtain ⟨fx, fd, pa, pv, hval, hfa, hpa, hpv⟩ := hBg.ent nm (hst nm (.head _))
    obtain ⟨hfa1, hfa2⟩ := hfa
    refine hQ ?_; clear hQ Q
    repeat' lge_here
    all_goals try exact (nbF hne (by assumption)).elim
    refine unstop (sp_inDb (b := true) hT3 (by k_clsL) (by rw [hval]; rfl) ?_)
    repeat' lge_here
    refine unstop (sp_notinD hmd (by k_clsL) ?_)
    by_cases hin : nm ∈ met
    · rw [value_some (by rw [hmk]; exact hin)]
      repeat' lge_here
      refine' whlK_next ⟨st.length, _, by simp, ?ccut, st, met, ws, mkvs, fl, fvs, fo, _, _, rfl, hws2, hmk, hfv, (if_pos hin).symm.trans hmr, rfl, fun y hy => hst y (.tail _ hy), hfo, by omega⟩
      case ccut => k_subL
    · have hnk : nm ∉ mkvs.map (·.1) := by rw [hmk]; exact hin
      rw [value_none hnk]
      repeat' lge_here
      refine unstop (sp_setD (kvs := mkvs) (by rw [stored_new hnk]; kbo_bools) (by omega) ?_)
      repeat' lge_here
      refine unstop (sp_getD (by k_clsL) hval rfl ?_)
      repeat' lge_here
      refine' sp_cut (N' := (fl, IsLst fvs) :: (lw, IsLst ws) :: (md, Dic w (mkvs ++ [(nm, .bool true)])) :: (L, Frm [Str.ofString "self", Str.ofString "names", Str.ofString "waiting", Str.ofString "met", Str.ofString "found", Str.ofString "name", Str.ofString "face"] _) :: R) ?ccut ?_
      case ccut => k_subL
      with_reducible refine sp_freeze1 (a := fl) .here fun g2 l2 hfl2 => ?_
      refine' sp_assignComp (ns := [Str.ofString "own", Str.ofString "part"]) rfl (fun _ => rfl) ?hcl rfl (by kernel_rfl) (by kernel_rfl) (by decide +kernel) ?_
      case hcl => rfl
      repeat' lge_here
      refine unstop (sp_zip (by kpc_g) (by kpc_g) fun g3 z TI TO i1 i2 l3 hTI => ?_)
      repeat' lge_here
      refine sp_iterZ (.inr (.head _)) ?_
      have hpl := hpv.len
      have htl := tabF_len nm
      have hfl3 := hfv.len
      refine compKN (J := fun i ys g' C' => C' = (lw, IsLst ws) :: (md, Dic w (mkvs ++ [(nm, .bool true)])) :: (L, Frm [Str.ofString "self", Str.ofString "names", Str.ofString "waiting", Str.ofString "met", Str.ofString "found", Str.ofString "name", Str.ofString "face"] [some (.ref x), some (.ref T), some (.ref lw), some (.ref md), some (.ref fl), some (.str nm tn), some (.ref fx)]) :: R ∧ All2 OptV ys ((List.zipWith por fo (tabF nm)).take i)) (itr_zip hTI (hfl2.le l3) (hpa.le (l2.trans l3)) (by omega)) (by rw [sizeLine_eq]; omega) (fun z => by cases z) ⟨rfl, .nil⟩ ?_ ?_
      · rintro L2 i ys os g4 C' R' v X l4 hi ⟨TT, xv, yv, rfl, hxv, hyv, rfl⟩ hy ho ⟨rfl, hys⟩
        refine hideG fun Q hQ => ?_
        obtain ⟨q1, q2, rfl⟩ := lis2 ho
        obtain ⟨xo, hxo, hxO⟩ := hfv.get hxv
        obtain ⟨yo, hyo, hyO⟩ := hpv.get hyv
        have hzt := zip_take (f := por) hxo hyo
        refine hQ ?_; clear hQ Q
        simp only [List.nil_append, List.cons_append]
        cases hxO with
        | none =>
          repeat' lge_here
          refine ⟨[some .none, some yv], _, rfl, .drop .same, rfl, ?_⟩
          rw [← hzt]
          exact hys.snoc hyO
        | some k t =>
          repeat' lge_here
          · refine ⟨[some (.int k t), some yv], _, rfl, .drop .same, rfl, ?_⟩
            rw [← hzt]
            exact hys.snoc (.some k t)
          all_goals
            rename_i hbn
            exfalso
            exact Bool.noConfusion (show true = false from hbn)
      · rintro D L2 ys os' g4 C' l4 hy ⟨rfl, hys⟩
        rw [List.take_of_length_le (by rw [List.length_zipWith]; omega)] at hys
        repeat' lge_here
        refine ⟨_, _, _, .same, ?_⟩
        repeat' lge_here
        refine unstop (sp_sliceLs (ws := []) (lo := none) (hi := none) (st := some (-1)) (by k_clsL) Has.head .none .none (.int _ _) (by simp) (by rw [sizeLine_eq]; decide) (pick_rev []) rfl fun dd => ?_)
        have hz0 : ([] : List Value).length = 0 := rfl
        repeat' lge_here
        refine' whlK_next ⟨st.length, _, by simp, ?ccut, st, met ++ [nm], ws ++ [], mkvs ++ [(nm, .bool true)], D, ys, List.zipWith por fo (tabF nm), _, _, rfl, by rw [List.append_nil]; exact hws2, by rw [List.map_append, hmk]; rfl, hys, (if_neg hin).symm.trans hmr, rfl, fun y hy => hst y (.tail _ hy), zip_len hfo nm, by rw [List.length_append]; simp; omega⟩
        case ccut => k_subL
end

-- number_of
structure NumOk (g : Heap) (xs : List (List Int × Addr × Value)) (ls : List (List Int)) : Prop where
  keys : xs.map (·.1) = ls
  vals : ∀ (i : Nat) (x : List Int × Addr × Value), xs[i]? = some x → ∃ t, x.2.2 = .int (i : Int) t
  nd : ls.Nodup
  kg : KeysG g xs
theorem NumOk.le {g g' : Heap} {xs : List (List Int × Addr × Value)} {ls : List (List Int)} (h : NumOk g xs ls) (l : Le g g') : NumOk g' xs ls := ⟨h.keys, h.vals, h.nd, h.kg.le l⟩
theorem NumOk.find {g : Heap} {xs : List (List Int × Addr × Value)} {ls : List (List Int)} (h : NumOk g xs ls) (ks : List Int) :
    (ks ∉ ls ∧ atKey xs ks = none) ∨ ∃ (i : Nat) (a : Addr) (t : Tok), ls[i]? = some ks ∧ atKey xs ks = some (a, .int (i : Int) t) := by
  by_cases hk : ks ∈ ls
  · right
    rw [← h.keys] at hk
    obtain ⟨x, hx, e⟩ := List.mem_map.mp hk
    obtain ⟨i, hi⟩ := List.getElem?_of_mem hx
    obtain ⟨k, a, v⟩ := x
    obtain ⟨t, ht⟩ := h.vals i _ hi
    simp only at e ht
    subst e ht
    refine ⟨i, a, t, ?_, atKey_of_get (by rw [h.keys]; exact h.nd) hi⟩
    rw [← h.keys, List.getElem?_map, hi]; rfl
  · left
    refine ⟨hk, atKey_none_of_get fun j p e => hk ?_⟩
    rw [← h.keys]
    exact List.mem_map.mpr ⟨_, List.mem_of_getElem? e, rfl⟩
theorem NumOk.snoc {g : Heap} {xs : List (List Int × Addr × Value)} {ls : List (List Int)} (h : NumOk g xs ls) {ks : List Int} (hk : ks ∉ ls) {a : Addr} (ha : AtG g a (TupI ks)) {t : Tok} {m : Nat} (hm : m = ls.length) : NumOk g (xs ++ [(ks, a, .int (m : Int) t)]) (ls ++ [ks]) := by
  have hl : xs.length = ls.length := by rw [← h.keys, List.length_map]
  refine ⟨by rw [List.map_append, h.keys]; rfl, fun i x hi => ?_, ?_, fun x hx => ?_⟩
  · by_cases hlt : i < xs.length
    · rw [List.getElem?_append_left hlt] at hi
      exact h.vals i x hi
    · rw [List.getElem?_append_right (by omega)] at hi
      have : i - xs.length = 0 := by
        have := (List.getElem?_eq_some_iff.mp hi).1
        simp at this; omega
      rw [this] at hi
      simp at hi
      subst hi
      exact ⟨t, by rw [show m = i by omega]⟩
  · rw [List.nodup_append]
    refine ⟨h.nd, by simp, fun y hy b hb e => ?_⟩
    rw [List.mem_singleton.mp hb] at e
    subst e
    exact hk hy
  · rcases List.mem_append.mp hx with hx | hx
    · exact h.kg x hx
    · rw [List.mem_singleton.mp hx]; exact ha
local macro_rules | `(tactic| ksl_some) => `(tactic| first
  | ((with_reducible show Sp _ _ (subscriptTail _ (Expr.Name (Str.ofString "look") _) (Value.ref _) (Value.ref _)) _ _ _); (with_reducible refine stop ?_)))
local macro_rules | `(tactic| kl_no) => `(tactic| first
  | ((with_reducible show Sp _ _ (compareOp .NotIn (Value.ref _) _) _ _ _); (with_reducible refine stop ?_))
  | ((with_reducible show Sp _ _ (setItem (Value.ref _) (Value.ref _) _) _ _ _); (with_reducible refine stop ?_)))
section
set_option maxRecDepth 100000
set_option maxHeartbeats 0
theorem sp_number {w : World} {n : Nat} {g : Heap} {R : Led} {x dx bn lk nb T : Addr} {kvs : List (Str × Value)} {vs lvs : List Value} {xs : List (List Int × Addr × Value)} {ls : List (List Int)} {names : List Str} {post : Value → Heap → Led → Prop} (hT : TabO g x dx bn lk nb) (hB : ByName w g bn kvs) (hvs : AtG g T (IsTupl vs)) (hns : StrsAre vs names) (hnm : ∀ x ∈ names, x ∈ kln) (hlen : names.length ≤ 20) (hne : names ≠ [])
    (hN : NumOk g xs ls) (hlv : lvs.length = ls.length) (hll : ls.length ≤ 5000)
    (h : ∀ g' xs' ls' lvs' i t, Le g g' → NumOk g' xs' ls' → (∃ q, ls' = ls ++ q) → ls'.length ≤ ls.length + 1 → ls'[i]? = some (lookOf names) → lvs'.length = ls'.length → post (.int (i : Nat) t) g' ((lk, IsLst lvs') :: (nb, DicT w xs') :: R)) :
    Sp w (n + 4) (call (.ref 259) [.ref x, .ref T]) g ((lk, IsLst lvs) :: (nb, DicT w xs) :: R) post := by
  refine sp_of_cd (cd_fn (ps := [Str.ofString "self", Str.ofString "names"]) (ns := [Str.ofString "look"]) (fs := [Str.ofString "self", Str.ofString "names", Str.ofString "look"])
    (os := [some (.ref x), some (.ref T), none])
    (by k_is) (by k_is) rfl rfl rfl rfl (by decide +kernel) (by kernel_rfl) rfl rfl rfl (by kernel_rfl) ?_)
  intro L
  have hT1 := hT.inst
  have hT2 := hT.attr
  have hT3 := hT.mb
  have hT4 := hT.mn
  have hvne : ¬ vs = [] := by
    intro e
    subst e
    cases hns
    exact hne rfl
  repeat' lge_here
  all_goals try (exfalso; contradiction)
  rename_i g0 d0 l0 T0 _
  refine unstop (sp_merged (hT.le l0) (hB.le l0) (hvs.le l0) hns hnm hlen fun g1 d ws l1 hd hi => ?_)
  have hdT := tupI_at hd hi
  have hxl : xs.length = ls.length := by rw [← hN.keys, List.length_map]
  have hN1 := hN.le (l0.trans l1)
  have hkg := hN1.kg
  repeat' lge_here
  refine unstop (sp_notinT hT4 (by k_clsL) hkg hdT ?_)
  refine hideG fun Q hQ => ?_
  rcases hN.find (lookOf names) with ⟨hnot, hat⟩ | ⟨i, a, t, hli, hat⟩
  · refine hQ ?_; clear hQ Q
    rw [hat]
    repeat' lge_here
    generalize tkI (lvs.length : Int) _ _ _ = tl
    have hsn := hN1.snoc hnot hdT (t := tl) hlv
    refine unstop (sp_setT (xs := xs) (by rw [storedH_new hat]; exact .there (.there (.here rfl))) hkg hdT (by omega) ?_)
    repeat' lge_here
    have hgk : atKey (xs ++ [(lookOf names, d, Value.int (lvs.length : Int) tl)]) (lookOf names) = some (d, .int (lvs.length : Int) tl) :=
      atKey_of_get (i := xs.length) (by rw [hsn.keys]; exact hsn.nd) (by rw [List.getElem?_append_right (Nat.le_refl _), Nat.sub_self]; rfl)
    refine unstop (sp_getT (by k_clsL) hsn.kg hdT hgk rfl ?_)
    repeat' lge_here
    refine' ⟨_, ?ccut, h g1 (xs ++ [(lookOf names, d, Value.int (lvs.length : Int) tl)]) (ls ++ [lookOf names]) (lvs ++ [.ref d]) lvs.length tl (l0.trans l1) hsn ⟨_, rfl⟩ (by rw [List.length_append]; simp) (by rw [hlv, List.getElem?_append_right (Nat.le_refl _), Nat.sub_self]; rfl) (by rw [List.length_append, List.length_append, hlv]; simp)⟩
    case ccut => k_subL
  · refine hQ ?_; clear hQ Q
    rw [hat, show (!(some (a, Value.int (i : Int) t)).isSome) = false from rfl]
    repeat' lge_here
    refine unstop (sp_getT (by k_clsL) hkg hdT hat rfl ?_)
    repeat' lge_here
    refine' ⟨_, ?ccut, h g1 xs ls lvs i t (l0.trans l1) hN1 ⟨[], by rw [List.append_nil]⟩ (by omega) hli hlv⟩
    case ccut => k_subL
end

-- mode_line_cells
noncomputable def FacOk (m : Nat) (c : CellD) : Prop := (∀ x ∈ c.2, x ∈ kln) ∧ c.2.length ≤ m
theorem toCells_fac {x : Str} {fs : List Str} (h : ∀ x ∈ fs, x ∈ kln) {m : Nat} (hm : fs.length ≤ m) : ∀ c ∈ toCells x fs, FacOk m c := by
  intro c hc
  obtain ⟨n, _, rfl⟩ := List.mem_map.mp hc
  exact ⟨h, hm⟩
theorem lcells_fac (F : FD) (nm : List (Str × Str)) (width : Int) (m : Nat) (f : FormD) : ∀ (fs : List Str) (done : Int), (∀ x ∈ fs, x ∈ kln) → fs.length + 2 * f.dp ≤ m → ∀ c ∈ lcells F nm width f fs done, FacOk m c := by
  induction f with
  | text l => intro fs done h hm; exact toCells_fac h (by simp only [FormD.dp] at hm; omega)
  | seq0 => intro fs done h hm c hc; cases hc
  | seq1 a ih => intro fs done h hm; exact ih fs done h (by simp only [FormD.dp] at hm; omega)
  | seq2 a b iha ihb =>
    intro fs done h hm c hc
    simp only [FormD.dp] at hm
    rcases List.mem_append.mp hc with hc | hc
    · exact iha fs done h (by omega) c hc
    · exact ihb fs _ h (by omega) c hc
  | ite x a b iha ihb =>
    intro fs done h hm c hc
    simp only [FormD.dp] at hm
    simp only [lcells] at hc
    split at hc
    · exact iha fs done h (by omega) c hc
    · exact ihb fs done h (by omega) c hc
  | name x => intro fs done h hm; exact toCells_fac h (by simp only [FormD.dp] at hm; omega)
  | width k a ih =>
    intro fs done h hm c hc
    simp only [FormD.dp] at hm
    simp only [lcells] at hc
    split at hc
    · exact ih fs done h (by omega) c (List.mem_of_mem_take hc)
    · rcases List.mem_append.mp hc with hc | hc
      · exact ih fs done h (by omega) c hc
      · rw [List.eq_of_mem_replicate hc]; exact ⟨fun x hx => (List.not_mem_nil hx).elim, Nat.zero_le _⟩
  | face1 a ih =>
    intro fs done h hm
    simp only [FormD.dp] at hm
    refine ih _ done (fun x hx => ?_) (by rw [List.length_append]; simp; omega)
    rcases List.mem_append.mp hx with hx | hx
    · rw [List.mem_singleton.mp hx]; decide
    · exact h x hx
  | face2 a ih =>
    intro fs done h hm
    simp only [FormD.dp] at hm
    refine ih _ done (fun x hx => ?_) (by rw [List.length_append]; simp; omega)
    rcases List.mem_append.mp hx with hx | hx
    · simp only [List.mem_cons, List.not_mem_nil, or_false] at hx
      rcases hx with rfl | rfl <;> decide
    · exact h x hx
noncomputable def padF (width : Nat) (cs : List CellD) : List CellD := cs.take width ++ List.replicate (width - (cs.take width).length) (32, [])
noncomputable def CellNum (ls : List (List Int)) (c : Int × Int) (cd : CellD) : Prop := c.1 = (cd.1 : Int) ∧ ∃ i : Nat, c.2 = (i : Int) ∧ ls[i]? = some (lookOf (cd.2 ++ [Str.ofString "line"]))
theorem get_pre {α : Type} {l q : List α} {i : Nat} {a : α} (h : l[i]? = some a) : (l ++ q)[i]? = some a := by
  rw [List.getElem?_append_left (List.getElem?_eq_some_iff.mp h).1]; exact h
theorem CellNum.pre {ls q : List (List Int)} {c : Int × Int} {cd : CellD} (h : CellNum ls c cd) : CellNum (ls ++ q) c cd := let ⟨a, i, b, d⟩ := h; ⟨a, i, b, get_pre d⟩
theorem nums_eq {ls : List (List Int)} (nd : ls.Nodup) {cs cs' : List (Int × Int)} {cds : List CellD} (h : All2 (CellNum ls) cs cds) (h' : All2 (CellNum ls) cs' cds) : cs = cs' := by
  induction h generalizing cs' with
  | nil => cases h'; rfl
  | cons x _ ih =>
    cases h' with
    | cons y t =>
      rw [ih t]
      obtain ⟨a, i, b, d⟩ := x
      obtain ⟨a', i', b', d'⟩ := y
      have hi : i = i' := by
        obtain ⟨p1, q1⟩ := List.getElem?_eq_some_iff.mp d
        obtain ⟨p2, q2⟩ := List.getElem?_eq_some_iff.mp d'
        exact (List.getElem_inj nd).mp (q1.trans q2.symm)
      subst hi
      congr 1
      exact Prod.ext (a.trans a'.symm) (b.trans b'.symm)
local macro_rules | `(tactic| ksl_some) => `(tactic| first
  | ((with_reducible show Sp _ _ (subscriptTail _ (Expr.Slice none (some (Expr.Name (Str.ofString "width") _)) none _) _ _) _ _ _); (with_reducible refine stop ?_)))
inductive MLJ (w : World) (lk nb : Addr) (ls : List (List Int)) (cds : List CellD) (fr : Addr × AP) (R : Led) (j : Nat) (ys : List Value) (g' : Heap) (C' : Led) : Prop where
  | mk (lvs' : List Value) (xs' : List (List Int × Addr × Value)) (ls' : List (List Int)) (cs : List (Int × Int)) (e : C' = fr :: (lk, IsLst lvs') :: (nb, DicT w xs') :: R) (h1 : NumOk g' xs' ls') (qq : List (List Int)) (h2 : ls' = ls ++ qq) (h3 : ls'.length ≤ ls.length + j) (h4 : lvs'.length = ls'.length) (h5 : CellsV g' ys cs) (h6 : All2 (CellNum ls') cs (cds.take j))
section
set_option maxRecDepth 100000
set_option maxHeartbeats 0
theorem sp_mlc {w : World} {n : Nat} {g : Heap} {R : Led} {fa df dn x dx bn lk nb : Addr} {t : FT} {F : FD} {nm : List (Str × Str)} {v : Value} {f : FormD} {width : Int} {t1 t2 : Tok} {kvs : List (Str × Value)} {lvs : List Value} {xs : List (List Int × Addr × Value)} {ls : List (List Int)} {post : Value → Heap → Led → Prop}
    (hf : PlainAt g v f) (hok : f.ok) (hd3 : f.dp ≤ 3) (hfx : FactsAt g fa df t F) (hfok : LFOk F) (hnx : NmAt w g dn nm) (hnl : ∀ p ∈ nm, p.2.length ≤ 10) (hw0 : 0 ≤ width) (hw1 : width ≤ 40)
    (hT : TabO g x dx bn lk nb) (hB : ByName w g bn kvs) (hN : NumOk g xs ls) (hlv : lvs.length = ls.length) (hll : ls.length ≤ 4000)
    (h : ∀ g' xs' ls' lvs' a out cs, Le g g' → NumOk g' xs' ls' → (∃ q, ls' = ls ++ q) → ls'.length ≤ ls.length + 100 → lvs'.length = ls'.length → CellsV g' out cs → All2 (CellNum ls') cs (padF width.toNat (lcells F nm width f [] 0)) → post (.ref a) g' ((a, IsLst out) :: (lk, IsLst lvs') :: (nb, DicT w xs') :: R)) :
    Sp w (n + 6) (call (.ref 203) [v, .ref fa, .ref dn, .ref x, .str (Str.ofString "line") t2, .int width t1]) g ((lk, IsLst lvs) :: (nb, DicT w xs) :: R) post := by
  refine sp_of_cd (cd_fnC (bs := [(Str.ofString "form", v), (Str.ofString "facts", .ref fa), (Str.ofString "names", .ref dn), (Str.ofString "table", .ref x), (Str.ofString "face", .str (Str.ofString "line") t2), (Str.ofString "width", .int width t1)])
    (fs := [Str.ofString "form", Str.ofString "facts", Str.ofString "names", Str.ofString "width", Str.ofString "told", Str.ofString "found"])
    (os := [some v, some (.ref fa), some (.ref dn), some (.int width t1), none, none]) (ce := fun L => [(L + 1 + 1, IsCel (some (.str (Str.ofString "line") t2))), (L + 1, IsCel (some (.ref x)))])
    (by k_is) (by k_is) rfl (by decide +kernel) (by kernel_rfl) (by decide +kernel) (fun L => .loc (by rfl) .here (.loc (by rfl) (.there .here) (.loc (by rfl) (.there (.there .here)) (.cel (by rfl) (.cel (by rfl) (.loc (by rfl) (.there (.there (.there .here))) .nil)))))) (fun L => by rfl) rfl rfl rfl ?_)
  intro L
  simp only [List.cons_append, List.nil_append]
  with_reducible refine sp_freeze1 (a := L + 1 + 1) (.there .here) fun g1 l1 c1 => ?_
  with_reducible refine sp_freeze1 (a := L + 1) (.there .here) fun g2 l2 c2 => ?_
  have hvh := handed_plain hf
  have l12 := l1.trans l2
  repeat' lge_here
  refine unstop (sp_tcells (hf.le l12) hok hd3 (hfx.le l12) hfok (hnx.le l12) hnl hw0 hw1 fun g3 a3 vs3 l3 hv3 hz3 => ?_)
  repeat' lge_here
  refine unstop (sp_sliceL (ws := vs3.take width.toNat) (lo := none) (hi := some width) (st := none) (by k_clsL) Has.head .none (.int _ _) .none (by simp) (by rw [sizeLine_eq]; omega) (by
    have e : (width : Int) = ((width.toNat : Nat) : Int) := by omega
    have := pick_upto vs3 width.toNat
    rwa [← e] at this) rfl fun dd => ?_)
  repeat' lge_here
  refine' sp_cut (N' := (dd, IsLst (vs3.take width.toNat)) :: (L, Frm [Str.ofString "form", Str.ofString "facts", Str.ofString "names", Str.ofString "width", Str.ofString "told", Str.ofString "found"] _) :: (lk, IsLst lvs) :: (nb, DicT w xs) :: R) ?ccut ?_
  case ccut => k_subL
  with_reducible refine sp_freeze1 (a := dd) .here fun g4 l4 hdd => ?_
  have hv4 : All2 (TCell g4) (vs3.take width.toNat) ((lcells F nm width f [] 0).take width.toNat) := (hv3.mono fun _ _ x => x.le l4).take _
  have hfac : ∀ c ∈ (lcells F nm width f [] 0).take width.toNat, FacOk 6 c := fun c hc => lcells_fac F nm width 6 f [] 0 (fun x hx => (List.not_mem_nil hx).elim) (by simp only [List.length_nil]; omega) c (List.mem_of_mem_take hc)
  have hcl : ((lcells F nm width f [] 0).take width.toNat).length ≤ 40 := take_le40 hw1
  have hle4 : Le g g4 := l12.trans (l3.trans l4)
  have hT4 := hT.le hle4
  have hB4 := hB.le hle4
  have hN4 := hN.le hle4
  have c14 := c1.le (l2.trans (l3.trans l4))
  have c24 := c2.le (l3.trans l4)
  have hTa := hT4.inst
  have hTb := hT4.attr
  have hTc := hT4.mb
  have hTd := hT4.mn
  clear c1 c2 l4 l3 l2 l1 l12 hv3
  have hvl := hv4.len
  refine' sp_assignComp (ns := [Str.ofString "code", Str.ofString "faces"]) rfl (fun _ => rfl) ?hcl rfl (by kernel_rfl) (by kernel_rfl) (by decide +kernel) ?_
  case hcl => rfl
  repeat' lge_here
  refine compKN (J := MLJ w lk nb ls ((lcells F nm width f [] 0).take width.toNat) (L, Frm [Str.ofString "form", Str.ofString "facts", Str.ofString "names", Str.ofString "width", Str.ofString "told", Str.ofString "found"] [some v, some (.ref fa), some (.ref dn), some (.int width t1), some (.ref dd), none]) R)
    (itr_list hdd) (by rw [sizeLine_eq]; omega) (fun z => by cases z) ⟨lvs, xs, ls, [], rfl, hN4, [], by rw [List.append_nil], by omega, hlv, .nil, .nil⟩ ?_ ?_
  · rintro L2 i ys os g5 C' R' vv X l5 hi ⟨rfl, hv⟩ hy ho ⟨lvs', xs', ls', cs, rfl, hN5, q5, hq5, hll5, hlv5, hcv, hcn⟩
    refine hideG fun Q hQ => ?_
    obtain ⟨q1, q2, rfl⟩ := lis2 ho
    obtain ⟨cd, hcd, TT, tt, fv, rfl, hTT, FF, fvs, rfl, hFF, hfs⟩ := hv4.get hv
    obtain ⟨hk1, hk2⟩ := hfac cd (List.mem_of_getElem? hcd)
    refine hQ ?_; clear hQ Q
    simp only [List.nil_append, List.cons_append]
    have hfl := strs_len hfs
    repeat' lge_here
    rename_i g6 dL l6 T6 g7 dN l7 T7
    refine unstop ?_
    refine' sp_cut (N' := (lk, IsLst lvs') :: (nb, DicT w xs') :: (L2, Frm [Str.ofString "code", Str.ofString "faces"] [some (.int (cd.1 : Int) tt), some (.ref FF)]) :: (L, Frm [Str.ofString "form", Str.ofString "facts", Str.ofString "names", Str.ofString "width", Str.ofString "told", Str.ofString "found"] [some v, some (.ref fa), some (.ref dn), some (.int width t1), some (.ref dd), none]) :: (R ++ R')) ?ccut
      (sp_number (vs := fvs ++ [.str (Str.ofString "line") t2]) (names := cd.2 ++ [Str.ofString "line"]) (hT4.le (l5.trans (l6.trans l7))) (hB4.le (l5.trans (l6.trans l7))) T7 (strs_snoc hfs _ _) (fun y hy => ?nmem) (by rw [List.length_append]; simp; omega) (by simp) (hN5.le (l6.trans l7)) hlv5 (by omega) fun g8 xs8 ls8 lvs8 k8 t8 l8 hN8 hq8 hll8 hk8 hlv8 => ?_)
    case ccut => k_subL
    case nmem =>
      rcases List.mem_append.mp hy with hy | hy
      · exact hk1 y hy
      · rw [List.mem_singleton.mp hy]; decide
    refine hideG fun Q hQ => ?_
    obtain ⟨q8, rfl⟩ := hq8
    refine hQ ?_; clear hQ Q
    repeat' lge_here
    rename_i g9 d9 l9 T9
    refine' ⟨[some (.int (cd.1 : Int) tt), some (.ref FF)], (L, Frm [Str.ofString "form", Str.ofString "facts", Str.ofString "names", Str.ofString "width", Str.ofString "told", Str.ofString "found"] [some v, some (.ref fa), some (.ref dn), some (.int width t1), some (.ref dd), none]) :: (lk, IsLst lvs8) :: (nb, DicT w xs8) :: R, rfl, ?ccut, lvs8, xs8, ls' ++ q8, cs ++ [((cd.1 : Int), (k8 : Int))], rfl, hN8.le l9, q5 ++ q8, by rw [hq5, List.append_assoc], by omega, hlv8, ?cv, ?cn⟩
    case ccut =>
      simp only [List.cons_append]
      k_subL
    case cv => exact All2.snoc (hcv.le (l6.trans (l7.trans (l8.trans l9)))) ⟨d9, _, _, rfl, T9⟩
    case cn =>
      have := (hcn.mono (Q := CellNum (ls' ++ q8)) fun _ _ x => x.pre).snoc (a := ((cd.1 : Int), (k8 : Int))) (b := cd) ⟨rfl, k8, rfl, hk8⟩
      rwa [show ((lcells F nm width f [] 0).take width.toNat).take i ++ [cd] = ((lcells F nm width f [] 0).take width.toNat).take (i + 1) by rw [List.take_add_one, hcd]; rfl] at this
  · rintro D L2 ys os' g5 C' l5 hy ⟨lvs', xs', ls', cs, rfl, hN5, q5, hq5, hll5, hlv5, hcv, hcn⟩
    rw [List.take_of_length_le (by omega)] at hcn
    have hyl : ys.length ≤ 40 := by omega
    repeat' lge_here
    refine ⟨_, _, _, .same, ?_⟩
    repeat' lge_here
    rename_i g6 dL l6 T6
    refine unstop ?_
    refine' sp_cut (N' := (lk, IsLst lvs') :: (nb, DicT w xs') :: (D, IsLst ys) :: (L, Frm [Str.ofString "form", Str.ofString "facts", Str.ofString "names", Str.ofString "width", Str.ofString "told", Str.ofString "found"] [some v, some (.ref fa), some (.ref dn), some (.int width t1), some (.ref dd), some (.ref D)]) :: R) ?ccut
      (sp_number (vs := [.str (Str.ofString "line") t2]) (names := [Str.ofString "line"]) (hT4.le (l5.trans l6)) (hB4.le (l5.trans l6)) T6 (.cons _ _ .nil) (fun y hy => ?nmem) (by decide) (by simp) (hN5.le l6) hlv5 (by omega) fun g8 xs8 ls8 lvs8 k8 t8 l8 hN8 hq8 hll8 hk8 hlv8 => ?_)
    case ccut => k_subL
    case nmem => rw [List.mem_singleton.mp hy]; decide
    refine hideG fun Q hQ => ?_
    obtain ⟨q8, rfl⟩ := hq8
    refine hQ ?_; clear hQ Q
    repeat' lge_here
    rename_i g9 d9 l9 T9 a1 a2 a4
    have hcnt : width.toNat - ((lcells F nm width f [] 0).take width.toNat).length = (width - (ys.length : Int)).toNat := toNat_subN (hy.trans hvl)
    refine' ⟨_, ?ccut, h g9 xs8 (ls' ++ q8) lvs8 a4 _ (cs ++ List.replicate (width - (ys.length : Int)).toNat (((32 : Nat) : Int), (k8 : Int))) (hle4.trans (l5.trans (l6.trans (l8.trans l9)))) (hN8.le l9) ⟨q5 ++ q8, by rw [hq5, List.append_assoc]⟩ (by omega) hlv8 ?cv ?cn⟩
    case ccut => k_subL
    case cv => exact All2.app (hcv.le (l6.trans (l8.trans l9))) (All2.rep ⟨d9, _, _, rfl, T9⟩ _)
    case cn =>
      unfold padF
      rw [hcnt]
      exact (hcn.mono fun _ _ x => x.pre).app (All2.rep ⟨rfl, k8, rfl, hk8⟩ _)
end

-- the law
noncomputable abbrev lawNs : List Str := [Str.ofString "script", Str.ofString "pot", Str.ofString "place", Str.ofString "name", Str.ofString "name_list", Str.ofString "nth", Str.ofString "form", Str.ofString "facts", Str.ofString "width", Str.ofString "due", Str.ofString "found"]
local macro_rules | `(tactic| kl_room) => `(tactic| first
  | ((with_reducible show Sp _ _ (call (Value.type "enumerate") _) _ _ _); (with_reducible refine stop ?_)))
local macro_rules | `(tactic| kl_no) => `(tactic| first
  | ((with_reducible show Sp _ _ (exec (Stmt.If (Expr.Compare (Expr.Call (Expr.Name (Str.ofString "_law_dip") _) _ _ _) _ _ _) _ _ _) _) _ _ _); (with_reducible refine stop ?_))
  | ((with_reducible show Sp _ _ (compareOp .NotEq (Value.ref _) (Value.ref _)) _ _ _); (with_reducible refine stop ?_)))
theorem pot0_ok (ns : List Int) : (pot0 ns).ok := by
  have hs : ∀ l : List Int, 0 ≤ ((l.sum) % 65519) ∧ l.sum % 65519 < 65519 := fun l => ⟨Int.emod_nonneg _ (by decide), Int.emod_lt_of_pos _ (by decide)⟩
  have h1 := hs (potCells ns)
  refine ⟨?_, ?_, ?_, fun x hx => ?_⟩
  · show (potCells ns).length ≤ 48
    unfold potCells; rw [List.length_map, List.length_take]; omega
  · show 0 ≤ 131 + (potCells ns).sum % 65519; omega
  · show 131 + (potCells ns).sum % 65519 < 100000; omega
  · obtain ⟨a, _, rfl⟩ := List.mem_map.mp hx
    exact Int.emod_nonneg _ (by decide)
noncomputable def EntAt (g : Heap) (p : Str × Value) (x : Str) : Prop := p.1 = x ∧ ∃ fx fd pa pv, p.2 = .ref fx ∧ FaceAt g fx fd pa ∧ AtG g pa (IsTupl pv) ∧ All2 OptV pv (tabF x)
theorem EntAt.le {g g' : Heap} {p : Str × Value} {x : Str} (h : EntAt g p x) (l : Le g g') : EntAt g' p x := let ⟨a, fx, fd, pa, pv, b, c, d, e⟩ := h; ⟨a, fx, fd, pa, pv, b, c.le l, d.le l, e⟩
theorem ent_keys {g : Heap} {kvs : List (Str × Value)} {xs : List Str} (h : All2 (EntAt g) kvs xs) : kvs.map (·.1) = xs := by
  induction h with
  | nil => rfl
  | cons x _ ih => rw [List.map_cons, ih, x.1]
theorem ent_find {g : Heap} {kvs : List (Str × Value)} {xs : List Str} (h : All2 (EntAt g) kvs xs) {x : Str} (hx : x ∈ xs) : ∃ fx fd pa pv, valueAt kvs x = some (.ref fx) ∧ FaceAt g fx fd pa ∧ AtG g pa (IsTupl pv) ∧ All2 OptV pv (tabF x) := by
  induction h with
  | nil => cases hx
  | cons hp _ ih =>
    rename_i p y _ _ _
    obtain ⟨e, fx, fd, pa, pv, b, c, d, f⟩ := hp
    by_cases hk : p.1 = x
    · subst hk
      subst e
      exact ⟨fx, fd, pa, pv, by unfold valueAt; rw [List.find?_cons, decide_eq_true rfl, ← b]; rfl, c, d, f⟩
    · have hx2 := (List.mem_cons.mp hx).resolve_left fun z => hk (e.trans z.symm)
      obtain ⟨fx, fd, pa, pv, b', c', d', f'⟩ := ih hx2
      refine ⟨fx, fd, pa, pv, ?_, c', d', f'⟩
      unfold valueAt at b' ⊢
      rw [List.find?_cons, decide_eq_false hk]
      exact b'
inductive LJ1 (w : World) (l pp pc bn lk nb L : Addr) (ns : List Int) (t0 u1 u2 : Tok) (R : Led) (i : Nat) (g' : Heap) (C' : Led) : Prop where
  | mk (kvs : List (Str × Value)) (o1 o2 : Option Value) (e : C' = (bn, Dic w kvs) :: (L, Frm lawNs [some (.ref l), some (.ref pp), o1, o2, none, none, none, none, none, none, none]) :: (lk, IsLst [.ref 204]) :: (nb, DicT w [([0, 0, 0, 0, 0, 0], 204, .int 0 t0)]) :: (pp, PotO pc (pot0 ns) u1 u2) :: R) (h : All2 (EntAt g') kvs (dfl :: kln.take i))
inductive LJ2 (w : World) (l pp pc dn lk nb L : Addr) (o1 o2 : Option Value) (R : Led) (i : Nat) (g' : Heap) (C' : Led) : Prop where
  | mk (lvs : List Value) (xs : List (List Int × Addr × Value)) (ls : List (List Int)) (q : Pot) (v1 v2 : Tok) (p0 p1 p2 p3 p4 p5 : Option Value)
    (e : C' = (L, Frm lawNs [some (.ref l), some (.ref pp), o1, o2, some (.ref dn), p0, p1, p2, p3, p4, p5]) :: (lk, IsLst lvs) :: (nb, DicT w xs) :: (pp, PotO pc q v1 v2) :: R) (h1 : NumOk g' xs ls) (h2 : lvs.length = ls.length) (h3 : ls.length ≤ 1 + 200 * i) (h4 : PotAt g' pc q)
inductive LJ3 (w : World) (lk nb : Addr) (ls : List (List Int)) (cds : List CellD) (fr pt : Addr × AP) (R : Led) (j : Nat) (ys : List Value) (g' : Heap) (C' : Led) : Prop where
  | mk (lvs' : List Value) (xs' : List (List Int × Addr × Value)) (ls' : List (List Int)) (cs : List (Int × Int)) (e : C' = fr :: (lk, IsLst lvs') :: (nb, DicT w xs') :: pt :: R) (h1 : NumOk g' xs' ls') (qq : List (List Int)) (h2 : ls' = ls ++ qq) (h3 : ls'.length ≤ ls.length + j) (h4 : lvs'.length = ls'.length) (h5 : CellsV g' ys cs) (h6 : All2 (CellNum ls') cs (cds.take j))
inductive LJ4 (w : World) (l pp pc dn lk nb L : Addr) (o1 o2 : Option Value) (t0 : Tok) (R : Led) (fl : Flow) (g' : Heap) (N' : Led) : Prop where
  | mk (nmk : List (Str × Value)) (nm : List (Str × Str)) (q' : Pot) (v1 v2 : Tok) (ef : fl = .next) (h1 : All2 (fun (p : Str × Value) (q : Str × Str) => p.1 = q.1 ∧ ∃ t, p.2 = .str q.2 t) nmk nm) (h2 : ∀ p ∈ nm, p.2.length ≤ 10) (h3 : PotAt g' pc q')
    (e : N' = (dn, Dic w nmk) :: (L, Frm lawNs [some (.ref l), some (.ref pp), o1, o2, some (.ref dn), none, none, none, none, none, none]) :: (lk, IsLst [.ref 204]) :: (nb, DicT w [([0, 0, 0, 0, 0, 0], 204, .int 0 t0)]) :: (pp, PotO pc q' v1 v2) :: R)
section
set_option maxRecDepth 100000
set_option maxHeartbeats 0
noncomputable def lawBody (w : World) : List Stmt := match (hd0.heap_1 w.params).lookup 333 with
  | some ⟨_, _, .func fd, _⟩ => match fd.body with
    | .stmts b => b
    | _ => []
  | _ => []
noncomputable def lawScope (w : World) : Scope := match (hd0.heap_1 w.params).lookup 333 with
  | some ⟨_, _, .func fd, _⟩ => fd.scope
  | _ => default
theorem with_law {w : World} {P : List Stmt → Scope → Prop} {name qual : Str} {params : Arguments} {body : List Stmt} {scope : Scope} {dV kV doc pm cdv ct oc : Value} {an od : Option Addr} {osl : Array (Option Value)}
    (ho : (hd0.heap_1 w.params).lookup 333 = some ⟨oc, od, .func (fnOf name qual params body scope dV kV doc pm an cdv ct), osl⟩) (h : P body scope) : P (lawBody w) (lawScope w) := by
  unfold lawBody lawScope
  rw [ho]
  exact h
theorem law_walk {w : World} {n : Nat} {g : Heap} {R : Led} {l L f : Addr} {cdv : Value} {vs : List Value} {ns : List Int} {post : Value → Heap → Led → Prop} (hl : AtG g l (IsLw vs)) (hi : IntsAre vs ns) (hz : vs.length ≤ 63) (h : ∀ g' N', Le g g' → post (.bool true) g' N') :
    Sp w (n + 19) (execs (lawBody w) (envOfC (Str.ofString "law") (lawScope w) L f cdv)) g ((L, Frm lawNs [some (.ref l), none, none, none, none, none, none, none, none, none, none]) :: (L + 1, IsCel none) :: R) (fun fl g' N' => ∃ N'', Cut N' N'' ∧ post (retOf fl) g' N'') := by
  with_reducible refine' with_law (P := fun b sc => Sp w (n + 19) (execs b (envOfC (Str.ofString "law") sc L f cdv)) g ((L, Frm lawNs [some (.ref l), none, none, none, none, none, none, none, none, none, none]) :: (L + 1, IsCel none) :: R) (fun fl g' N' => ∃ N'', Cut N' N'' ∧ post (retOf fl) g' N'')) ?wlaw ?_
  case wlaw => k_is
  repeat' lge_here
  refine unstop (sp_pot hl hi hz fun g1 pp pc u1 u2 l1 hpc => ?_)
  repeat' lge_here
  refine unstop (sp_Table fun g2 tb td bn lk nb f0 fd t0 l2 hT hF0 hP h213 => ?_)
  refine hideG fun Q hQ => ?_
  obtain ⟨pa1, pa2, pa3, pa4, pa5, pa6, hP⟩ := hP
  refine hQ ?_; clear hQ Q
  repeat' lge_here
  rename_i g3 d3 l3 T3 dl
  generalize tkS (Str.ofString "k") _ _ _ = tk1
  generalize tkS (Str.ofString "l") _ _ _ = tk2
  generalize tkS (Str.ofString "line") _ _ _ = tk3
  have hT3 := hT.le l3
  have hP3 := hP.le l3
  have h2133 := h213.le l3
  have hF3 := hF0.le l3
  have hpc3 : PotAt g3 pc (pot0 ns) := PotAt.le (g := g1) ⟨hpc, pot0_ok ns⟩ (l2.trans l3)
  have hle3 : Le g g3 := l1.trans (l2.trans l3)
  refine unstop ?_
  refine' sp_cut (N' := (dl, IsLst [.str (Str.ofString "k") tk1, .str (Str.ofString "l") tk2, .str (Str.ofString "line") tk3]) :: (L + 1, IsCel (some (.ref tb))) :: (bn, Dic w [(dfl, .ref f0)]) :: (L, Frm lawNs _) :: (lk, IsLst [.ref 204]) :: (nb, DicT w [([0, 0, 0, 0, 0, 0], 204, .int 0 t0)]) :: (pp, PotO pc (pot0 ns) u1 u2) :: R) ?ccut ?_
  case ccut => k_subL
  with_reducible refine sp_freeze1 (a := dl) .here fun g4 l4 hdl => ?_
  with_reducible refine sp_freeze1 (a := L + 1) .here fun g5 l5 hcell => ?_
  have l35 := l4.trans l5
  have hT5 := hT3.le l35
  have hP5 := hP3.le l35
  have h2135 := h2133.le l35
  have hF5 := hF3.le l35
  have hpc5 := hpc3.le l35
  have hle5 := hle3.trans l35
  have hdl5 := hdl.le l5
  clear hT hP h213 hF0 hpc l1 l2 l3 T3 hT3 hP3 h2133 hF3 hpc3 hle3 l4 l5 hdl l35
  refine sp_enum hdl5 fun e it => ?_
  refine sp_iterE Has.head ?_
  have hTa := hT5.inst
  have hTb := hT5.attr
  have hTc := hT5.mb
  have hTd := hT5.mn
  refine cd_forN (Jr := fun _ _ _ => False) (J := LJ1 w l pp pc bn lk nb L ns t0 u1 u2 R)
    (itr_enum hdl5) (fun z => by cases z) ⟨[(dfl, .ref f0)], none, none, rfl, .cons ⟨rfl, f0, fd, 204, _, rfl, hF5, hP5, .cons (.some _ _) (.cons (.some _ _) (.cons (.some _ _) (.cons (.some _ _) (.cons (.some _ _) (.cons (.some _ _) .nil)))))⟩ .nil⟩ ?_ ?_ (fun _ _ _ _ z => z.elim)
  · rintro i g6 C' R' v X l6 hi hV ⟨kvs, o1, o2, rfl, hen⟩
    refine hideG fun Q hQ => ?_
    obtain ⟨TT, ti, xv, rfl, hxv, rfl⟩ := hV
    refine hQ ?_; clear hQ Q
    have hkeys := ent_keys hen
    have hkl : kvs.length ≤ 4 := by
      have := congrArg List.length hkeys
      rw [List.length_map] at this
      rw [this, List.length_cons, List.length_take]
      simp; omega
    simp only [List.nil_append, List.cons_append]
    have hi3 : i = 0 ∨ i = 1 ∨ i = 2 := by simp only [List.length_cons, List.length_nil] at hi; omega
    rcases hi3 with rfl | rfl | rfl
    · obtain rfl : Value.str (Str.ofString "k") tk1 = xv := by simpa using hxv
      repeat' lge_here
      refine unstop (sp_Face fun g7 fx fd7 l7 hF7 => ?_)
      repeat' lge_here
      refine unstop ?_
      refine' sp_cut (N' := (bn, Dic w kvs) :: (L, Frm lawNs [some (.ref l), some (.ref pp), some (.int ((0 : Nat) : Int) ti), some (.str (Str.ofString "k") tk1), none, none, none, none, none, none, none]) :: (lk, IsLst [.ref 204]) :: (nb, DicT w [([0, 0, 0, 0, 0, 0], 204, .int 0 t0)]) :: (pp, PotO pc (pot0 ns) u1 u2) :: (R ++ R')) ?ccut (sp_define (hT5.le (by kle_go)) (by decide) (by rw [hkeys]; decide) (by omega) ?_)
      case ccut => k_subL
      repeat' lge_here
      refine turnK_next _ .same ⟨kvs ++ [(Str.ofString "k", .ref fx)], _, _, rfl, ?_⟩
      refine All2.snoc (bs := dfl :: kln.take 0) (b := Str.ofString "k") (hen.mono fun _ _ x => x.le (by kle_go)) ⟨rfl, fx, fd7, _, _, rfl, hF7, (by kpc_g), ?_⟩
      rw [show tabF (Str.ofString "k") = [some 1, none, none, none, none, none] by decide]
      exact .cons (.some _ _) (.cons (.none) (.cons (.none) (.cons (.none) (.cons (.none) (.cons (.none) (.nil))))))
    · obtain rfl : Value.str (Str.ofString "l") tk2 = xv := by simpa using hxv
      repeat' lge_here
      refine unstop (sp_Face fun g7 fx fd7 l7 hF7 => ?_)
      repeat' lge_here
      refine unstop ?_
      refine' sp_cut (N' := (bn, Dic w kvs) :: (L, Frm lawNs [some (.ref l), some (.ref pp), some (.int ((1 : Nat) : Int) ti), some (.str (Str.ofString "l") tk2), none, none, none, none, none, none, none]) :: (lk, IsLst [.ref 204]) :: (nb, DicT w [([0, 0, 0, 0, 0, 0], 204, .int 0 t0)]) :: (pp, PotO pc (pot0 ns) u1 u2) :: (R ++ R')) ?ccut (sp_define (hT5.le (by kle_go)) (by decide) (by rw [hkeys]; decide) (by omega) ?_)
      case ccut => k_subL
      repeat' lge_here
      refine turnK_next _ .same ⟨kvs ++ [(Str.ofString "l", .ref fx)], _, _, rfl, ?_⟩
      refine All2.snoc (bs := dfl :: kln.take 1) (b := Str.ofString "l") (hen.mono fun _ _ x => x.le (by kle_go)) ⟨rfl, fx, fd7, _, _, rfl, hF7, (by kpc_g), ?_⟩
      rw [show tabF (Str.ofString "l") = [none, some 2, none, none, none, none] by decide]
      exact .cons (.none) (.cons (.some _ _) (.cons (.none) (.cons (.none) (.cons (.none) (.cons (.none) (.nil))))))
    · obtain rfl : Value.str (Str.ofString "line") tk3 = xv := by simpa using hxv
      repeat' lge_here
      refine unstop (sp_Face fun g7 fx fd7 l7 hF7 => ?_)
      repeat' lge_here
      refine unstop ?_
      refine' sp_cut (N' := (bn, Dic w kvs) :: (L, Frm lawNs [some (.ref l), some (.ref pp), some (.int ((2 : Nat) : Int) ti), some (.str (Str.ofString "line") tk3), none, none, none, none, none, none, none]) :: (lk, IsLst [.ref 204]) :: (nb, DicT w [([0, 0, 0, 0, 0, 0], 204, .int 0 t0)]) :: (pp, PotO pc (pot0 ns) u1 u2) :: (R ++ R')) ?ccut (sp_define (hT5.le (by kle_go)) (by decide) (by rw [hkeys]; decide) (by omega) ?_)
      case ccut => k_subL
      repeat' lge_here
      refine turnK_next _ .same ⟨kvs ++ [(Str.ofString "line", .ref fx)], _, _, rfl, ?_⟩
      refine All2.snoc (bs := dfl :: kln.take 2) (b := Str.ofString "line") (hen.mono fun _ _ x => x.le (by kle_go)) ⟨rfl, fx, fd7, _, _, rfl, hF7, (by kpc_g), ?_⟩
      rw [show tabF (Str.ofString "line") = [none, none, some 3, none, none, none] by decide]
      exact .cons (.none) (.cons (.none) (.cons (.some _ _) (.cons (.none) (.cons (.none) (.cons (.none) (.nil))))))
  · rintro g6 C' l6 ⟨kvs, o1, o2, rfl, hen⟩
    refine seqK_next ?_
    with_reducible refine sp_freeze1 (a := bn) .here fun g7 l7 hbn => ?_
    have hB : ByName w g7 bn kvs := ⟨hbn, fun x hx => by
      obtain ⟨fx, fd, pa, pv, a, b, c, d⟩ := ent_find hen hx
      exact ⟨fx, fd, pa, pv, a, b.le l7, c.le l7, d⟩, h2135.le (l6.trans l7)⟩
    have hT7 := hT5.le (l6.trans l7)
    have hpc7 := hpc5.le (l6.trans l7)
    have hle7 := hle5.trans (l6.trans l7)
    have hcell7 := hcell.le (l6.trans l7)
    have hP7 := hP5.le (l6.trans l7)
    clear hTa hTb hTc hTd
    have hTa := hT7.inst
    have hTb := hT7.attr
    have hTc := hT7.mb
    have hTd := hT7.mn
    clear l6 l7 hen hT5 hpc5 hle5 hcell hP5 h2135 hdl5 hF5 hbn
    repeat' lge_here
    rename_i dn hmn xl tq5 v1 v2 q d0 hq hd0 hd1 tkx xs hxs
    have hxl : xs.length ≤ 10 := (by decide : ∀ x ∈ [Str.ofString "%b-", Str.ofString "x"], x.length ≤ 10) xs hxs
    refine unstop ?_
    refine' sp_cut (N' := (dn, Dic w [(Str.ofString "u", .str xs tkx)]) :: (L, Frm lawNs [some (.ref l), some (.ref pp), o1, o2, some (.ref dn), none, none, none, none, none, none]) :: (lk, IsLst [.ref 204]) :: (nb, DicT w [([0, 0, 0, 0, 0, 0], 204, .int 0 t0)]) :: (pp, PotO pc q v1 v2) :: R) ?ccut ?_
    case ccut => k_subL
    refine sp_mono (post' := LJ4 w l pp pc dn lk nb L o1 o2 t0 R) ?_ ?_
    · refine sp_if ?_
      repeat' lge_here
      · refine unstop (sp_setD (kvs := [(Str.ofString "u", .str xs tkx)]) (by rw [stored_new (show Str.ofString "v" ∉ [Str.ofString "u"] by decide)]; exact .here rfl) (show (1 : Nat) ≤ 1000 by decide) ?_)
        repeat' lge_here
        refine ⟨_, [(Str.ofString "u", xs), (Str.ofString "v", Str.ofString "%l")], _, _, _, rfl, .cons ⟨rfl, _, rfl⟩ (.cons ⟨rfl, _, rfl⟩ .nil), fun p hp => ?_, ?_, rfl⟩
        · simp only [List.mem_cons, List.not_mem_nil, or_false] at hp
          rcases hp with rfl | rfl
          · exact hxl
          · decide
        · assumption
      · refine ⟨_, [(Str.ofString "u", xs)], _, _, _, rfl, .cons ⟨rfl, _, rfl⟩ .nil, fun p hp => ?_, ?_, rfl⟩
        · rw [List.mem_singleton.mp hp]; exact hxl
        · assumption
    · rintro fl g8 N8 l8 ⟨nmk, nm, q', v1', v2', rfl, hnm, hnl, hq', rfl⟩
      refine seqK_next ?_
      with_reducible refine sp_freeze1 (a := dn) .here fun g9 l9 hdn => ?_
      have hnx : NmAt w g9 dn nm := ⟨hmn, nmk, hdn, hnm⟩
      have l89 := l8.trans l9
      have hB9 := hB.le l89
      have hT9 := hT7.le l89
      have hq9 := hq'.le l9
      have hle9 := hle7.trans l89
      have hcell9 := hcell7.le l89
      have hP9 := hP7.le l89
      clear hTa hTb hTc hTd
      have hTa := hT9.inst
      have hTb := hT9.attr
      have hTc := hT9.mb
      have hTd := hT9.mn
      clear l8 l9 l89 hB hT7 hq' hle7 hcell7 hP7 hdn hq
      repeat' lge_here
      rename_i r
      refine sp_iterRz (m := 3) Has.head (by omega) (by omega) fun it2 => ?_
      refine' cdl_cut (N' := (it2, RIt 3 0) :: (L, Frm lawNs [some (.ref l), some (.ref pp), o1, o2, some (.ref dn), none, none, none, none, none, none]) :: (lk, IsLst [.ref 204]) :: (nb, DicT w [([0, 0, 0, 0, 0, 0], 204, .int 0 t0)]) :: (pp, PotO pc q' v1' v2') :: R) ?ccut ?_
      case ccut => k_subL
      refine cd_forN (Jr := fun _ _ _ => False) (J := LJ2 w l pp pc dn lk nb L o1 o2 R)
        itr_range (fun _ _ => rfl) ⟨[.ref 204], [([0, 0, 0, 0, 0, 0], 204, .int 0 t0)], [[0, 0, 0, 0, 0, 0]], q', v1', v2', _, _, _, _, _, _, rfl, ?nok, rfl, by decide, hq9⟩ ?_ ?_ (fun _ _ _ _ z => z.elim)
      case nok =>
        refine ⟨rfl, fun i x hi => ?_, by decide, fun x hx => ?_⟩
        · match i, hi with
          | 0, hi => simp at hi; subst hi; exact ⟨t0, rfl⟩
          | i + 1, hi => simp at hi
        · rw [List.mem_singleton.mp hx]
          exact tupI_at hP9 (.cons _ _ (.cons _ _ (.cons _ _ (.cons _ _ (.cons _ _ (.cons _ _ .nil))))))
      · rintro i g10 C' R' v X l10 hi ⟨rfl, tki, rfl⟩ ⟨lvs, xs, ls, q, v1, v2, p0, p1, p2, p3, p4, p5, rfl, hN, hlv, hll, hq⟩
        simp only [List.nil_append, List.cons_append]
        repeat' lge_here
        refine unstop ?_
        refine' take_sp (e := (pp, PotO pc q v1 v2)) ?tk ((lform_all 3).use (by decide) (by decide) (by omega) hq fun g11 fv f w1 w2 q2 l11 hff hfo hfd hq2 => ?_)
        case tk => kba_ints
        repeat' lge_here
        refine unstop ?_
        refine' take_sp (e := (pp, PotO pc q2 w1 w2)) ?tk (sp_lfacts hq2 fun g12 fa df ft w3 w4 F q3 l12 hFok hq3 => ?_)
        case tk => kba_ints
        repeat' lge_here
        rename_i z3 w5 w6 q4 dw hq4 hw0 hw1 g13 d13 l13 T13 g14 d14 l14 T14
        clear T13
        generalize tkI (6 + dw) _ _ _ = tkw
        refine unstop ?_
        with_reducible refine sp_freeze1 (a := fa) .here fun g15 l15 hfa => ?_
        with_reducible refine sp_freeze1 (a := df) .here fun g16 l16 hdf => ?_
        have hfx : FactsAt g16 fa df ft F := ⟨hfa.le l16, hdf⟩
        have lA : Le g12 g16 := l13.trans (l14.trans (l15.trans l16))
        have hff16 := hff.le (l12.trans lA)
        have hnx16 := hnx.le (l10.trans (l11.trans (l12.trans lA)))
        have hFc : Fc g16 (.ref d14) [] := ⟨d14, [], rfl, (T14.le l15).le l16, .nil⟩
        have hfd3 : f.dp ≤ 3 := hfd
        refine (lcells_all 3).use (width := 6 + dw) hff16 hfo hfd3 hfd3 (by omega) hfx hFok hnx16 hnl hFc (by simp only [List.length_nil]; omega) (by decide) (by omega) (by omega) (by omega) fun g17 a17 vs17 l17 hv17 hb17 hb18 => ?_
        have lB := lA.trans l17
        have lC := l10.trans (l11.trans (l12.trans lB))
        have hT17 := hT9.le lC
        have hB17 := hB9.le lC
        have hcell17 := hcell9.le lC
        have hN17 := hN.le (l11.trans (l12.trans lB))
        have hq17 := hq4.le lB
        have hfx17 := hfx.le l17
        have hnx17 := hnx16.le l17
        have hff17 := hff16.le l17
        have hle17 := hle9.trans lC
        clear hTa hTb hTc hTd
        have hTa := hT17.inst
        have hTb := hT17.attr
        have hTc := hT17.mb
        have hTd := hT17.mn
        clear l10 l11 l12 l13 l14 l15 l16 l17 lA lB lC hT9 hB9 hcell9 hN hq hq2 hq3 hq4 hfx hnx hnx16 hff hff16 hFc hfa hdf T14 hle9 hq9 hP9
        repeat' lge_here
        refine unstop (sp_sliceL (ws := vs17.take (6 + dw).toNat) (lo := none) (hi := some (6 + dw)) (st := none) (by k_clsL) Has.head .none (.int _ _) .none (by simp) (by rw [sizeLine_eq]; omega) (by
          have e : (6 + dw : Int) = (((6 + dw).toNat : Nat) : Int) := by omega
          have := pick_upto vs17 (6 + dw).toNat
          rwa [← e] at this) rfl fun dd => ?_)
        have htl : (vs17.take (6 + dw).toNat).length ≤ 40 := take_le40 (by omega)
        repeat' lge_here
        rename_i g18 d18 l18 T18 g19 d19 l19 T19 xls dmul dadd
        refine' sp_cut (N' := (dadd, IsLst (vs17.take (6 + dw).toNat ++ List.replicate (6 + dw - ((vs17.take (6 + dw).toNat).length : Int)).toNat (.ref d19))) :: (L, Frm lawNs [some (.ref l), some (.ref pp), o1, o2, some (.ref dn), some (.int (i : Int) tki), some fv, some (.ref fa), some (.int (6 + dw) tkw), some (.ref dadd), p5]) :: (lk, IsLst lvs) :: (nb, DicT w xs) :: (pp, PotO pc q4 w5 w6) :: (R ++ R')) ?ccut ?_
        case ccut => k_subL
        with_reducible refine sp_freeze1 (a := dadd) .here fun g20 l20 hda => ?_
        have hdue : All2 (LCell g20) (vs17.take (6 + dw).toNat ++ List.replicate (6 + dw - ((vs17.take (6 + dw).toNat).length : Int)).toNat (.ref d19)) (padF (6 + dw).toNat (lcells F nm (6 + dw) f [] 0)) := by
          have h1 := (hv17.mono (Q := LCell g20) fun _ _ x => x.le (l18.trans (l19.trans l20))).take (6 + dw).toNat
          have hsp : LCell g20 (.ref d19) (32, []) := ⟨d19, _, _, rfl, T19.le l20, ⟨d18, [], rfl, T18.le (l19.trans l20), .nil⟩⟩
          have h2 := h1.len
          unfold padF
          rw [show (6 + dw).toNat - ((lcells F nm (6 + dw) f [] 0).take (6 + dw).toNat).length = (6 + dw - ((vs17.take (6 + dw).toNat).length : Int)).toNat from toNat_subN h2]
          exact h1.app (All2.rep hsp _)
        have hfac : ∀ c ∈ padF (6 + dw).toNat (lcells F nm (6 + dw) f [] 0), FacOk 6 c := by
          intro c hc
          rcases List.mem_append.mp hc with hc | hc
          · exact lcells_fac F nm (6 + dw) 6 f [] 0 (fun x hx => (List.not_mem_nil hx).elim) (by simp only [List.length_nil]; omega) c (List.mem_of_mem_take hc)
          · rw [List.eq_of_mem_replicate hc]; exact ⟨fun x hx => (List.not_mem_nil hx).elim, Nat.zero_le _⟩
        have hdl2 : (vs17.take (6 + dw).toNat ++ List.replicate (6 + dw - ((vs17.take (6 + dw).toNat).length : Int)).toNat (Value.ref d19)).length ≤ 40 := by rw [List.length_append, List.length_replicate]; omega
        generalize hcd0 : padF (6 + dw).toNat (lcells F nm (6 + dw) f [] 0) = cds at hdue hfac
        generalize (vs17.take (6 + dw).toNat ++ List.replicate (6 + dw - ((vs17.take (6 + dw).toNat).length : Int)).toNat (Value.ref d19)) = dues at hdue hda hdl2
        have lD := l18.trans (l19.trans l20)
        have hT20 := hT17.le lD
        have hB20 := hB17.le lD
        have hcell20 := hcell17.le lD
        have hN20 := hN17.le lD
        have hq20 := hq17.le lD
        have hfx20 := hfx17.le lD
        have hnx20 := hnx17.le lD
        have hff20 := hff17.le lD
        have hle20 := hle17.trans lD
        clear hTa hTb hTc hTd
        have hTa := hT20.inst
        have hTb := hT20.attr
        have hTc := hT20.mb
        have hTd := hT20.mn
        clear l18 l19 l20 lD hT17 hB17 hcell17 hN17 hq17 hfx17 hnx17 hff17 hle17 T18 T19 hv17
        have hdul := hdue.len
        refine' sp_assignComp (ns := [Str.ofString "letter", Str.ofString "faces"]) rfl (fun _ => rfl) ?hcl rfl (by kernel_rfl) (by kernel_rfl) (by decide +kernel) ?_
        case hcl => rfl
        repeat' lge_here
        refine compKN (J := LJ3 w lk nb ls cds (L, Frm lawNs [some (.ref l), some (.ref pp), o1, o2, some (.ref dn), some (.int (i : Int) tki), some fv, some (.ref fa), some (.int (6 + dw) tkw), some (.ref dadd), p5]) (pp, PotO pc q4 w5 w6) (R ++ R'))
          (itr_list hda) (by rw [sizeLine_eq]; omega) (fun z => by cases z) ⟨lvs, xs, ls, [], rfl, hN20, [], by rw [List.append_nil], by omega, hlv, .nil, .nil⟩ ?_ ?_
        · rintro L2 j ys os g5 C' R2 vv X l5 hj ⟨rfl, hv⟩ hy ho ⟨lvs', xs', ls', cs, rfl, hN5, q5, hq5, hll5, hlv5, hcv, hcn⟩
          refine hideG fun Q hQ => ?_
          obtain ⟨q1, q2, rfl⟩ := lis2 ho
          obtain ⟨cd, hcd, TT, tt, fvv, rfl, hTT, FF, fvs, rfl, hFF, hfs⟩ := hdue.get hv
          obtain ⟨hk1, hk2⟩ := hfac cd (List.mem_of_getElem? hcd)
          refine hQ ?_; clear hQ Q
          simp only [List.nil_append, List.cons_append]
          have hfl := strs_len hfs
          repeat' lge_here
          rename_i g6 dL l6 T6 g7 dN l7 T7
          clear T6
          generalize tkS (Str.ofString "line") _ _ _ = tkl at T7
          refine unstop ?_
          refine' sp_cut (N' := (lk, IsLst lvs') :: (nb, DicT w xs') :: (L2, Frm [Str.ofString "letter", Str.ofString "faces"] [some (.str ⟨#[cd.1]⟩ tt), some (.ref FF)]) :: (L, Frm lawNs [some (.ref l), some (.ref pp), o1, o2, some (.ref dn), some (.int (i : Int) tki), some fv, some (.ref fa), some (.int (6 + dw) tkw), some (.ref dadd), p5]) :: (pp, PotO pc q4 w5 w6) :: (R ++ R' ++ R2)) ?ccut
            (sp_number (vs := fvs ++ [.str (Str.ofString "line") tkl]) (names := cd.2 ++ [Str.ofString "line"]) (hT20.le (l5.trans (l6.trans l7))) (hB20.le (l5.trans (l6.trans l7))) T7 (strs_snoc hfs _ _) (fun y hy => ?nmem) (by rw [List.length_append]; simp; omega) (by simp) (hN5.le (l6.trans l7)) hlv5 (by omega) fun g8 xs8 ls8 lvs8 k8 t8 l8 hN8 hq8 hll8 hk8 hlv8 => ?_)
          case ccut => k_subL
          case nmem =>
            rcases List.mem_append.mp hy with hy | hy
            · exact hk1 y hy
            · rw [List.mem_singleton.mp hy]; decide
          refine hideG fun Q hQ => ?_
          obtain ⟨q8, rfl⟩ := hq8
          refine hQ ?_; clear hQ Q
          repeat' lge_here
          rename_i g9 d9 l9 T9
          refine' ⟨[some (.str ⟨#[cd.1]⟩ tt), some (.ref FF)], (L, Frm lawNs [some (.ref l), some (.ref pp), o1, o2, some (.ref dn), some (.int (i : Int) tki), some fv, some (.ref fa), some (.int (6 + dw) tkw), some (.ref dadd), p5]) :: (lk, IsLst lvs8) :: (nb, DicT w xs8) :: (pp, PotO pc q4 w5 w6) :: (R ++ R'), rfl, ?ccut, lvs8, xs8, ls' ++ q8, cs ++ [((cd.1 : Int), (k8 : Int))], rfl, hN8.le l9, q5 ++ q8, by rw [hq5, List.append_assoc], by omega, hlv8, ?cv, ?cn⟩
          case ccut =>
            simp only [List.cons_append]
            k_subL
          case cv => exact All2.snoc (hcv.le (l6.trans (l7.trans (l8.trans l9)))) ⟨d9, _, _, rfl, T9⟩
          case cn =>
            have := (hcn.mono (Q := CellNum (ls' ++ q8)) fun _ _ x => x.pre).snoc (a := ((cd.1 : Int), (k8 : Int))) (b := cd) ⟨rfl, k8, rfl, hk8⟩
            rwa [show cds.take j ++ [cd] = cds.take (j + 1) by rw [List.take_add_one, hcd]; rfl] at this
        · rintro D L2 ys os' g5 C' l5 hy ⟨lvs', xs', ls', cs, rfl, hN5, q5, hq5, hll5, hlv5, hcv, hcn⟩
          rw [List.take_of_length_le (by omega)] at hcn
          have hyl : ys.length ≤ 40 := by omega
          repeat' lge_here
          refine ⟨_, _, _, .same, ?_⟩
          repeat' lge_here
          refine unstop ((lplain_all 3).use (hff20.le l5) hfo hfd3 (by omega) fun g21 pv l21 hpl => ?_)
          repeat' lge_here
          refine unstop ?_
          refine' sp_cut (N' := (lk, IsLst lvs') :: (nb, DicT w xs') :: (D, IsLst ys) :: (L, Frm lawNs [some (.ref l), some (.ref pp), o1, o2, some (.ref dn), some (.int (i : Int) tki), some fv, some (.ref fa), some (.int (6 + dw) tkw), some (.ref dadd), some (.ref D)]) :: (pp, PotO pc q4 w5 w6) :: (R ++ R')) ?ccut
            (sp_mlc hpl hfo hfd3 (hfx20.le (l5.trans l21)) hFok (hnx20.le (l5.trans l21)) hnl (by omega) (by omega) (hT20.le (l5.trans l21)) (hB20.le (l5.trans l21)) (hN5.le l21) hlv5 (by omega) fun g22 xs8 ls8 lvs8 a8 out8 cs8 l22 hN8 hq8 hll8 hlv8 hcv8 hcn8 => ?_)
          case ccut => k_subL
          rw [hcd0] at hcn8
          refine hideG fun Q hQ => ?_
          obtain ⟨q8, rfl⟩ := hq8
          refine hQ ?_; clear hQ Q
          have hcs : cs8 = cs := nums_eq hN8.nd hcn8 (hcn.mono fun _ _ x => x.pre)
          subst hcs
          repeat' lge_here
          refine unstop (sp_neCells (by k_clsL) (by k_clsL) hcv8 (hcv.le (l21.trans l22)) ?_)
          repeat' lge_here
          refine' turnK_next _ ?ccut ⟨lvs8, xs8, ls' ++ q8, q4, w5, w6, _, _, _, _, _, _, rfl, hN8, hlv8, by omega, hq20.le (l5.trans (l21.trans l22))⟩
          case ccut =>
            simp only [List.cons_append]
            k_subL
      · rintro g10 C' l10 ⟨lvs, xs, ls, q, v1, v2, p0, p1, p2, p3, p4, p5, rfl, hN, hlv, hll, hq⟩
        refine seqK_next ?_
        repeat' lge_here
        refine' ⟨_, .same, h _ _ (hle9.trans l10)⟩
end

end Mine
namespace Mine
theorem run_sp {α : Type} {w : World} {n : Nat} {t : Sem α} {g : Heap} {N : Led} {post : α → Heap → Led → Prop} {A : Around} {s : Shared} {Q : α → Shared → Prop} {E : Value → Shared → Prop} (h : Sp w n t g N post) (hA : Room A n) (hH : H w g N s.heap)
    (hk : ∀ a g' N' h' tk', Le g g' → H w g' N' h' → post a g' N' → Q a { s with heap := h', toks := tk' }) : wpAny (model PR w) A t Q E s :=
  wpAny_mono (h A s Q hA hH hk) (fun _ _ z => z) (fun _ _ z => z.elim)
theorem run_eq {w : World} {n : Nat} {body body' : List Stmt} {env env' : Env} {g : Heap} {N : Led} {post : Flow → Heap → Led → Prop} (eb : body' = body) (es : env' = env) (h : Sp w n (execs body' env') g N post) : Sp w n (execs body env) g N post := by
  subst eb es; exact h
theorem isList_lw {h : Heap} {a : Addr} {vs : List Value} (x : h.IsList a vs.toArray) : AtG h a (IsLw vs) := let ⟨o, e, c, d⟩ := x; ⟨o, e, c, d⟩
theorem law_H {w : World} {h0 h1 : Heap} {l : Addr} {o : Obj} {m : Str → Option Value} (hk : (hd0.heap_1 w.params : Frag).In h0) (hT : ∃ p loose mean mg mb, Top p loose mean mg mb h0) (F : Fr h0 h0.objs.size h1 m) (N : News h0 h0.objs.size h1 [(h0.objs.size + 1, o)]) (ho : o.data = .cell none)
    (hm : ∀ y, m y = look lawNs [some (.ref l), none, none, none, none, none, none, none, none, none, none] y) :
    H w h0 [(h0.objs.size, Frm lawNs [some (.ref l), none, none, none, none, none, none, none, none, none, none]), (h0.objs.size + 1, IsCel none)] h1 := by
  refine ⟨⟨hk, hT⟩, F.keep, fun p hp => ?_, ?_, fun p hp => ?_⟩
  · simp only [List.mem_cons, List.not_mem_nil, or_false] at hp
    rcases hp with rfl | rfl
    · exact frm_of_ns (by decide) (ns_congr F.ns hm)
    · exact ⟨o, (N _ (.head _)).1, ho⟩
  · simp
  · simp only [List.mem_cons, List.not_mem_nil, or_false] at hp
    rcases hp with rfl | rfl
    · cases e : h0.get? h0.objs.size with
      | none => rfl
      | some o => exact absurd (Heap.lt_size e) (Nat.lt_irrefl _)
    · exact (N _ (.head _)).2.2
theorem law_room {env : Env} : Room (callerA.deeper env) 119 := by
  refine ⟨rfl, ?_, ?_⟩
  · show callerA.depth + 1 + 4 * 119 < recursionLimit
    decide
  · show callerA.units + 3 + 16 * 119 < cLine
    decide
theorem law_end {w : World} {h0 h1 : Heap} {l f : Addr} {cdv : Value} {o : Obj} {m : Str → Option Value} {vs : List Value} {ns : List Int} {body : List Stmt} {qual : Str} {scope : Scope} {Q : Flow → Shared → Prop} {E : Value → Shared → Prop} {s : Shared}
    (hk : (hd0.heap_1 w.params : Frag).In h0) (hT : ∃ p loose mean mg mb, Top p loose mean mg mb h0) (F : Fr h0 h0.objs.size h1 m) (N : News h0 h0.objs.size h1 [(h0.objs.size + 1, o)]) (ho : o.data = .cell none)
    (hm : ∀ y, m y = look lawNs [some (.ref l), none, none, none, none, none, none, none, none, none, none] y)
    (hl : h0.IsList l vs.toArray) (hi : IntsAre vs ns) (hz : ns.length ≤ 63) (hs : s.heap = h1) (eb : lawBody w = body) (eq : Str.ofString "law" = qual) (es : lawScope w = scope)
    (hfin : ∀ fl h' tk', retOf fl = .bool true → Le h0 h' → Q fl { s with heap := h', toks := tk' }) : wpAny (model PR w) (callerA.deeper (envOfC qual scope h0.objs.size f cdv)) (execs body (envOfC qual scope h0.objs.size f cdv)) Q E s := by
  subst hs eq es
  with_reducible refine run_sp (n := 119) (run_eq eb rfl (law_walk (n := 100) (R := []) (post := fun v g' N' => v = .bool true) (isList_lw hl) hi (by rw [ints_len hi]; exact hz) (fun _ _ _ => rfl))) law_room (law_H hk hT F N ho hm) ?_
  rintro fl g' N' h' tk' l' hs' ⟨N'', c, hp⟩
  exact hfin fl h' tk' hp (l'.trans hs'.keep)
theorem fin.tw1012361349325877821 : True := trivial
theorem fin.tw1014637456484912126 : True := trivial
theorem fin.tw10147658903529517814 : True := trivial
theorem fin.tw10196768644732416780 : True := trivial
theorem fin.tw10242451874928486539 : True := trivial
theorem fin.tw10329872625359487480 : True := trivial
theorem fin.tw10383673109516279431 : True := trivial
theorem fin.tw10391319463526535247 : True := trivial
theorem fin.tw10511823565363050587 : True := trivial
theorem fin.tw10567028658651823492 : True := trivial
theorem fin.tw10580198807604790814 : True := trivial
theorem fin.tw10807920368746810246 : True := trivial
theorem fin.tw10852849658779182186 : True := trivial
theorem fin.tw10874316729293906858 : True := trivial
theorem fin.tw10875463905939285979 : True := trivial
theorem fin.tw10925335251469727208 : True := trivial
theorem fin.tw10936777179133785780 : True := trivial
theorem fin.tw11010746924391106928 : True := trivial
theorem fin.tw11039862389202566683 : True := trivial
theorem fin.tw111200028466390044 : True := trivial
theorem fin.tw11154830654865731599 : True := trivial
theorem fin.tw11192643925408225281 : True := trivial
theorem fin.tw11273041486466551846 : True := trivial
theorem fin.tw11293339424137598113 : True := trivial
theorem fin.tw11298980531735778240 : True := trivial
theorem fin.tw11336253725339858928 : True := trivial
theorem fin.tw11371425904012472678 : True := trivial
theorem fin.tw11414674201277728305 : True := trivial
theorem fin.tw11454252539852477091 : True := trivial
theorem fin.tw11466478281803324712 : True := trivial
theorem fin.tw11575174756993882273 : True := trivial
theorem fin.tw11587955951900863698 : True := trivial
theorem fin.tw11615019562542576733 : True := trivial
theorem fin.tw11826004459431631557 : True := trivial
theorem fin.tw11953781441336167498 : True := trivial
theorem fin.tw12105171945263650130 : True := trivial
theorem fin.tw12118000046449163591 : True := trivial
theorem fin.tw12135189313929291683 : True := trivial
theorem fin.tw12137352122712630540 : True := trivial
theorem fin.tw12180539936304867106 : True := trivial
theorem fin.tw12212933522069011988 : True := trivial
theorem fin.tw12237877928780879103 : True := trivial
theorem fin.tw12284014389350100970 : True := trivial
theorem fin.tw12355744275394475900 : True := trivial
theorem fin.tw12409915417874342407 : True := trivial
theorem fin.tw12448240930570709186 : True := trivial
theorem fin.tw12494888245299231016 : True := trivial
theorem fin.tw1252854909445205041 : True := trivial
theorem fin.tw12567809125941998234 : True := trivial
theorem fin.tw12669758225909598566 : True := trivial
theorem fin.tw12696600883282566439 : True := trivial
theorem fin.tw12711679700452659978 : True := trivial
theorem fin.tw12740692763255036000 : True := trivial
theorem fin.tw12751662967071866640 : True := trivial
theorem fin.tw12829507556594621215 : True := trivial
theorem fin.tw12869217540446652890 : True := trivial
theorem fin.tw12876064707754696378 : True := trivial
theorem fin.tw12962497063298326498 : True := trivial
theorem fin.tw12977279227502587607 : True := trivial
theorem fin.tw12996517811204074000 : True := trivial
theorem fin.tw13162651487661262736 : True := trivial
theorem fin.tw13177410634674063896 : True := trivial
theorem fin.tw13199158710529813207 : True := trivial
theorem fin.tw13294311002278339166 : True := trivial
theorem fin.tw13360279666012451719 : True := trivial
theorem fin.tw13383306551100868464 : True := trivial
theorem fin.tw13423622936843584764 : True := trivial
theorem fin.tw13467322939085005891 : True := trivial
theorem fin.tw13516622038369049944 : True := trivial
theorem fin.tw13534373051914743626 : True := trivial
theorem fin.tw13724452099449386491 : True := trivial
theorem fin.tw13790858721211988464 : True := trivial
theorem fin.tw13870153662132920491 : True := trivial
theorem fin.tw13898374239775968522 : True := trivial
theorem fin.tw13900826808889991057 : True := trivial
theorem fin.tw13929302177132474383 : True := trivial
theorem fin.tw1397303283331804279 : True := trivial
theorem fin.tw14109310954907245088 : True := trivial
theorem fin.tw14139026862911339306 : True := trivial
theorem fin.tw14166196953294261902 : True := trivial
theorem fin.tw1422313219903470601 : True := trivial
theorem fin.tw14347400895652799225 : True := trivial
theorem fin.tw14431720936831517352 : True := trivial
theorem fin.tw14497727239971306367 : True := trivial
theorem fin.tw14517287926952318261 : True := trivial
theorem fin.tw14560573928864763818 : True := trivial
theorem fin.tw14568449535678555946 : True := trivial
theorem fin.tw14574801432027512755 : True := trivial
theorem fin.tw14578271805448956485 : True := trivial
theorem fin.tw14679806638718605512 : True := trivial
theorem fin.tw14814673180317915700 : True := trivial
theorem fin.tw14856888987745899463 : True := trivial
theorem fin.tw15043811168071948617 : True := trivial
theorem fin.tw15149952090015108872 : True := trivial
theorem fin.tw15201286185872193147 : True := trivial
theorem fin.tw15205425988870721313 : True := trivial
theorem fin.tw15217787229448665029 : True := trivial
theorem fin.tw15309079848183770524 : True := trivial
theorem fin.tw15373703851562958014 : True := trivial
theorem fin.tw15399907426655090358 : True := trivial
theorem fin.tw1544503264643628384 : True := trivial
theorem fin.tw15566928917628492161 : True := trivial
theorem fin.tw15583698165555649274 : True := trivial
theorem fin.tw15675102808854859970 : True := trivial
theorem fin.tw15688172546075569117 : True := trivial
theorem fin.tw15692133788150570983 : True := trivial
theorem fin.tw15741700470354863883 : True := trivial
theorem fin.tw15815952407149668801 : True := trivial
theorem fin.tw15832999045522443761 : True := trivial
theorem fin.tw15989303212955285315 : True := trivial
theorem fin.tw16109372258727991565 : True := trivial
theorem fin.tw1613116972386908190 : True := trivial
theorem fin.tw16175276709679454751 : True := trivial
theorem fin.tw16229209127682248589 : True := trivial
theorem fin.tw16237762584071213788 : True := trivial
theorem fin.tw1625080806587739848 : True := trivial
theorem fin.tw16253985831419840915 : True := trivial
theorem fin.tw16256441300576474876 : True := trivial
theorem fin.tw16307707646766795581 : True := trivial
theorem fin.tw1635022588487117616 : True := trivial
theorem fin.tw16401934584784274106 : True := trivial
theorem fin.tw16496857829328116044 : True := trivial
theorem fin.tw16502652511500755 : True := trivial
theorem fin.tw16510490156224867327 : True := trivial
theorem fin.tw16530489862217454893 : True := trivial
theorem fin.tw16540275574145912595 : True := trivial
theorem fin.tw16656299143469825513 : True := trivial
theorem fin.tw1666694428299288667 : True := trivial
theorem fin.tw16906536467411238026 : True := trivial
theorem fin.tw16934629359412608497 : True := trivial
theorem fin.tw16958243865122950064 : True := trivial
theorem fin.tw17041991840579044601 : True := trivial
theorem fin.tw17067295170570645592 : True := trivial
theorem fin.tw17123178472405020103 : True := trivial
theorem fin.tw17130245016438642246 : True := trivial
theorem fin.tw17164383140453370395 : True := trivial
theorem fin.tw17197158672614542318 : True := trivial
theorem fin.tw17204297501091165112 : True := trivial
theorem fin.tw17260493314774615805 : True := trivial
theorem fin.tw17347454772498655404 : True := trivial
theorem fin.tw17362494058136835672 : True := trivial
theorem fin.tw17416127249078093707 : True := trivial
theorem fin.tw17449020081951674710 : True := trivial
theorem fin.tw17570709534508481193 : True := trivial
theorem fin.tw17628183408451194143 : True := trivial
theorem fin.tw17656766251404061198 : True := trivial
theorem fin.tw17662344363894024548 : True := trivial
theorem fin.tw17698704350827878285 : True := trivial
theorem fin.tw17717364068325071970 : True := trivial
theorem fin.tw17734622675663726420 : True := trivial
theorem fin.tw17743408960866722510 : True := trivial
theorem fin.tw17784850919643140607 : True := trivial
theorem fin.tw17869975865946814897 : True := trivial
theorem fin.tw17896612028031085017 : True := trivial
theorem fin.tw17933470926392208243 : True := trivial
theorem fin.tw17963964198891936676 : True := trivial
theorem fin.tw17974384156558142227 : True := trivial
theorem fin.tw18105942590061964161 : True := trivial
theorem fin.tw1819255440876223710 : True := trivial
theorem fin.tw18195182924450695511 : True := trivial
theorem fin.tw18230178534529381785 : True := trivial
theorem fin.tw18270263404183703378 : True := trivial
theorem fin.tw18295790063311454060 : True := trivial
theorem fin.tw18373065035072037172 : True := trivial
theorem fin.tw18387650150990424433 : True := trivial
theorem fin.tw1887099378405440850 : True := trivial
theorem fin.tw1921391257341544841 : True := trivial
theorem fin.tw1963134401048803436 : True := trivial
theorem fin.tw1976505206021243879 : True := trivial
theorem fin.tw1982079694162106894 : True := trivial
theorem fin.tw2086631506510373192 : True := trivial
theorem fin.tw216489041496292469 : True := trivial
theorem fin.tw2236755162388048479 : True := trivial
theorem fin.tw2305881189932309285 : True := trivial
theorem fin.tw2321816554428607280 : True := trivial
theorem fin.tw2367325634123391141 : True := trivial
theorem fin.tw2415902012162501839 : True := trivial
theorem fin.tw2462912638960843985 : True := trivial
theorem fin.tw2512408688544751470 : True := trivial
theorem fin.tw251868834278440796 : True := trivial
theorem fin.tw2537931557510868981 : True := trivial
theorem fin.tw2824846461999071874 : True := trivial
theorem fin.tw2866121171748074186 : True := trivial
theorem fin.tw2910385600587045654 : True := trivial
theorem fin.tw2976117146107443816 : True := trivial
theorem fin.tw3004984022683251337 : True := trivial
theorem fin.tw3105451386036433885 : True := trivial
theorem fin.tw3125960719983571848 : True := trivial
theorem fin.tw3173534031939492945 : True := trivial
theorem fin.tw3268265519342814607 : True := trivial
theorem fin.tw3314143786362844604 : True := trivial
theorem fin.tw3343445320678177929 : True := trivial
theorem fin.tw3404873503106905745 : True := trivial
theorem fin.tw3459265974087741279 : True := trivial
theorem fin.tw3598329298470268980 : True := trivial
theorem fin.tw3599858809825778643 : True := trivial
theorem fin.tw3683778510129048087 : True := trivial
theorem fin.tw3810338749695602999 : True := trivial
theorem fin.tw3810570522144960214 : True := trivial
theorem fin.tw3812028171767442716 : True := trivial
theorem fin.tw3837020019201816242 : True := trivial
theorem fin.tw3955986520655104412 : True := trivial
theorem fin.tw3974152918291533672 : True := trivial
theorem fin.tw3975253019698251321 : True := trivial
theorem fin.tw4040260094072895976 : True := trivial
theorem fin.tw4162185377826839926 : True := trivial
theorem fin.tw4171678462856256454 : True := trivial
theorem fin.tw4209717502836232480 : True := trivial
theorem fin.tw4218790737952374519 : True := trivial
theorem fin.tw428092273266315144 : True := trivial
theorem fin.tw4312942655851389009 : True := trivial
theorem fin.tw452842511749404161 : True := trivial
theorem fin.tw4570111826955561243 : True := trivial
theorem fin.tw4588413851689716618 : True := trivial
theorem fin.tw4598667867955821814 : True := trivial
theorem fin.tw4640724917100965312 : True := trivial
theorem fin.tw4719063310657182621 : True := trivial
theorem fin.tw4754365596532378047 : True := trivial
theorem fin.tw4759752924163587094 : True := trivial
theorem fin.tw4768634762848416435 : True := trivial
theorem fin.tw4769821431679368130 : True := trivial
theorem fin.tw4788878847521262168 : True := trivial
theorem fin.tw480829909506669009 : True := trivial
theorem fin.tw4868334931027891882 : True := trivial
theorem fin.tw4878226113927451544 : True := trivial
theorem fin.tw4879674094562380441 : True := trivial
theorem fin.tw4924110625330727750 : True := trivial
theorem fin.tw4928979718650693569 : True := trivial
theorem fin.tw5011121235533021005 : True := trivial
theorem fin.tw5073790198343104882 : True := trivial
theorem fin.tw5098551885099359569 : True := trivial
theorem fin.tw5102460946473063141 : True := trivial
theorem fin.tw5167944902070249906 : True := trivial
theorem fin.tw5293390819737331289 : True := trivial
theorem fin.tw5320702786494000081 : True := trivial
theorem fin.tw5402249366112354979 : True := trivial
theorem fin.tw544173102793226557 : True := trivial
theorem fin.tw5486226609284752418 : True := trivial
theorem fin.tw5776136370200156792 : True := trivial
theorem fin.tw5796354222422608987 : True := trivial
theorem fin.tw5805905742469029177 : True := trivial
theorem fin.tw5897612983314593646 : True := trivial
theorem fin.tw5901363791540438844 : True := trivial
theorem fin.tw605774654952010374 : True := trivial
theorem fin.tw6068950659093879613 : True := trivial
theorem fin.tw6081921254191324426 : True := trivial
theorem fin.tw6127190174262240918 : True := trivial
theorem fin.tw612862322836996645 : True := trivial
theorem fin.tw6232080684201472732 : True := trivial
theorem fin.tw6323506392446703087 : True := trivial
theorem fin.tw6381419901266130222 : True := trivial
theorem fin.tw6455845175183424153 : True := trivial
theorem fin.tw648105169693061245 : True := trivial
theorem fin.tw6515953530934532768 : True := trivial
theorem fin.tw6566618420281934 : True := trivial
theorem fin.tw6634307039904815820 : True := trivial
theorem fin.tw6650461044873433052 : True := trivial
theorem fin.tw6667815254911646788 : True := trivial
theorem fin.tw670465573061467203 : True := trivial
theorem fin.tw6718411051458867188 : True := trivial
theorem fin.tw6766580051018981234 : True := trivial
theorem fin.tw6968583824967984638 : True := trivial
theorem fin.tw7000300075881102575 : True := trivial
theorem fin.tw7055459427971326715 : True := trivial
theorem fin.tw7282745182861764756 : True := trivial
theorem fin.tw7380833856163905736 : True := trivial
theorem fin.tw744865244796547220 : True := trivial
theorem fin.tw7451905468542833597 : True := trivial
theorem fin.tw7522001649326652513 : True := trivial
theorem fin.tw7544884883762196152 : True := trivial
theorem fin.tw7547296005191728479 : True := trivial
theorem fin.tw7613857476909055813 : True := trivial
theorem fin.tw7613945582906998725 : True := trivial
theorem fin.tw7675655780812522254 : True := trivial
theorem fin.tw7684487725183542926 : True := trivial
theorem fin.tw7803649310394182010 : True := trivial
theorem fin.tw7890596953891613788 : True := trivial
theorem fin.tw7976502392129159676 : True := trivial
theorem fin.tw799341379326975648 : True := trivial
theorem fin.tw7995362448368537469 : True := trivial
theorem fin.tw8018989035897545986 : True := trivial
theorem fin.tw807531904560671035 : True := trivial
theorem fin.tw8119881530291889089 : True := trivial
theorem fin.tw8269367382603917829 : True := trivial
theorem fin.tw8272817396058243321 : True := trivial
theorem fin.tw8289400949097046189 : True := trivial
theorem fin.tw8330952907988395303 : True := trivial
theorem fin.tw8352470293576582857 : True := trivial
theorem fin.tw8383268338085895543 : True := trivial
theorem fin.tw8408514402456403777 : True := trivial
theorem fin.tw8416529770105884409 : True := trivial
theorem fin.tw8432929667963758897 : True := trivial
theorem fin.tw846297522682114974 : True := trivial
theorem fin.tw8559517257967667466 : True := trivial
theorem fin.tw8577089030196625639 : True := trivial
theorem fin.tw8590288500278120515 : True := trivial
theorem fin.tw8643116662766533202 : True := trivial
theorem fin.tw8668149382578428375 : True := trivial
theorem fin.tw876206183137641144 : True := trivial
theorem fin.tw8919302590299486024 : True := trivial
theorem fin.tw895571856199123645 : True := trivial
theorem fin.tw9001875181463519149 : True := trivial
theorem fin.tw9218923581257491847 : True := trivial
theorem fin.tw9387745189664136937 : True := trivial
theorem fin.tw9441421087911713525 : True := trivial
theorem fin.tw9544026089342320630 : True := trivial
theorem fin.tw9722632081671974098 : True := trivial
theorem fin.tw9725021084223525626 : True := trivial
theorem fin.tw9735714214384596553 : True := trivial
theorem fin.tw9746901515087519452 : True := trivial
theorem fin.tw9913140749668108558 : True := trivial
theorem fin.tw999798209818781672 : True := trivial
set_option Elab.async true in
set_option maxRecDepth 100000 in
set_option maxHeartbeats 0 in
theorem fin : PySem.Challenge.rw_np0046_01.Holds := by
  w_on; o_law; k_head; (case hw => w_witness2)
  k_go0
  refine' Mine.law_end ?qk ?qT ?qF ?qN ?qo ?qm ?ql ?qi ?qz rfl ?qb ?qe ?qs ?qfin
  case qk => assumption
  case qT => exact ⟨_, _, _, _, _, by assumption⟩
  case qF => assumption
  case qN => assumption
  case ql => assumption
  case qi => assumption
  case qz => omega
  case qo => exact Eq.trans (by assumption) (by kernel_rfl)
  case qb => kernel_rfl
  case qe => kernel_rfl
  case qs => kernel_rfl
  case qm => exact fun y => Mine.Bnds.look (ns := Mine.lawNs) (vs := List.replicate 11 none) (.loc (by rfl) .here .nil) (by decide) _ (fun y => (Mine.look_nones Mine.lawNs 11 y).symm) y
  case qfin =>
    intro fl h' tk' hret hle
    cases fl with
    | ret v =>
      obtain rfl : v = .bool true := hret
      refine ⟨.inl ⟨_, .bool true, [], rfl, raisesW_false (by wrow_none_raised), .bool true, ?_, unshared_nil⟩, hle, rfl, by assumption⟩
      first
        | rfl
        | decide
        | (refine' postW_of ?zps ?zpv ?zpe; (case zps => o_shape); (case zpv => wtm_val); (case zpe => w_fin))
    | _ => exact absurd (show Value.none = Value.bool true from hret) (by intro z; cases z)
end Mine
theorem PySem.Challenge.cw_np0046_01_holds : PySem.Challenge.rw_np0046_01.Holds :=
  Mine.fin

