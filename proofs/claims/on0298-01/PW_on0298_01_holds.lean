import PyProof.Rows.All
import Wide.All
import OpenK.AllK
import Wide.FinOn
import PySem.Challenge.RW_on0298_01
open PySem PySem.W PyProof.Rows PySem.Calls
set_option Elab.async false
set_option maxRecDepth 100000
set_option linter.unusedVariables false
set_option linter.unusedSimpArgs false
namespace Mine
section
/-- what is asked at an end, as a word of its own: the goals stay small -/
noncomputable abbrev Cont {α : Type} (R P : α → Shared → Prop) : Prop := ∀ f s, P f s → R f s
theorem Cont.go {α : Type} {R P : α → Shared → Prop} (c : Cont R P) (f : α) (s : Shared) (h : P f s) : R f s := c f s h
theorem x_abs {α : Type} {M : Model} {A : Around} {t : Sem α} {Q : α → Shared → Prop} {E : Value → Shared → Prop} {s : Shared} (h : ∀ R : α → Shared → Prop, Cont R Q → wpAny M A t R E s) : wpAny M A t Q E s := h Q (fun _ _ x => x)
/-- a step in between, what it leaves told as a word -/
theorem x_cps {α : Type} {M : Model} {A : Around} {t : Sem α} {Q : α → Shared → Prop} {E : Value → Shared → Prop} {s : Shared} {H : (α → Shared → Prop) → Prop} (h1 : ∀ K : α → Shared → Prop, H K → wpAny M A t K E s) (h2 : H Q) : wpAny M A t Q E s := h1 Q h2
theorem execs_cps {M : Model} {A : Around} {env : Env} {st : Stmt} {rest : List Stmt} {Q : Flow → Shared → Prop} {E : Value → Shared → Prop} {s : Shared} {H : (Shared → Prop) → Prop} (h1 : ∀ R : Flow → Shared → Prop, H (R .next) → wpAny M A (exec st env) R E s) (h2 : H fun s' => wpAny M A (execs rest env) Q E s') : wpAny M A (execs (st :: rest) env) Q E s :=
  wpAny_execs_cons (h1 (fun f s' => match f with | .next => wpAny M A (execs rest env) Q E s' | f => Q f s') h2)
@[elab_as_elim] theorem env_cells {P : Env → Prop} {env : Env} {cl : List (Str × Addr)} (h : env.cells = cl) (k : ∀ e : Env, P { e with cells := cl }) : P env := by subst h; exact k env
@[elab_as_elim] theorem env_scope {P : Env → Prop} {env : Env} {sc : Scope} (h : env.scope = sc) (k : ∀ e : Env, P { e with scope := sc }) : P env := by subst h; exact k env
theorem x_at {α : Type} {R : α → Shared → Prop} {c d : α} {s : Shared} (e : c = d) (h : R d s) : R c s := e ▸ h
theorem x_fz {G : Prop} (h : ∀ R : Prop, (G → R) → R) : G := h G id
/-! the state of a frame: what never changes again (g), what this frame may change (n), what it knows of its locals (l) -/
noncomputable abbrev GH := Addr → Option Obj
structure Ent where
  h : Heap
  g : GH
  w : List Addr
structure Pre (b : Heap) (g : GH) (h : Heap) (n : List (Addr × Obj)) : Prop where
  gk : ∀ a o, g a = some o → h.get? a = some o
  base : ∀ a o, b.get? a = some o → g a = some o
  own : ∀ p ∈ n, h.get? p.1 = some p.2 ∧ g p.1 = none
  nd : (n.map (·.1)).Nodup
  bl : b.objs.size ≤ h.objs.size
structure Fin (e : Ent) (g : GH) (h : Heap) (n : List (Addr × Obj)) : Prop where
  gk : ∀ a o, g a = some o → h.get? a = some o
  gsub : ∀ a o, e.g a = some o → g a = some o
  gnew : ∀ a o, g a = some o → e.g a = some o ∨ e.h.get? a = none
  own : ∀ p ∈ n, h.get? p.1 = some p.2
  fr : ∀ a o, e.h.get? a = some o → a ∉ e.w → h.get? a = some o
  lv : ∀ a o, e.h.get? a = some o → ∃ o', h.get? a = some o'
structure St (b : Heap) (e : Ent) (g : GH) (L : Addr) (h : Heap) (l : List (Str × Value)) (n : List (Addr × Obj)) : Prop where
  ns : ∃ m, h.Ns L m ∧ ∀ x v, l.lookup x = some v → m x = some v
  gk : ∀ a o, g a = some o → h.get? a = some o
  base : ∀ a o, b.get? a = some o → e.g a = some o
  gsub : ∀ a o, e.g a = some o → g a = some o
  gnew : ∀ a o, g a = some o → e.g a = some o ∨ e.h.get? a = none
  own : ∀ p ∈ n, h.get? p.1 = some p.2 ∧ g p.1 = none ∧ p.1 ≠ L ∧ (p.1 ∈ e.w ∨ e.h.get? p.1 = none)
  nd : (n.map (·.1)).Nodup
  lg : g L = none
  le : L ∈ e.w ∨ e.h.get? L = none
  bL : b.objs.size ≤ L
  fr : ∀ a o, e.h.get? a = some o → a ∉ e.w → h.get? a = some o
  lv : ∀ a o, e.h.get? a = some o → ∃ o', h.get? a = some o'
section
variable {b : Heap} {e : Ent} {g g' : GH} {L : Addr} {h h' : Heap} {l l' : List (Str × Value)} {n n1 n2 n' : List (Addr × Obj)}
theorem St.lt (S : St b e g L h l n) {a : Addr} {o : Obj} (x : g a = some o) : a < h.objs.size := Heap.lt_size (S.gk a o x)
theorem St.gfresh (S : St b e g L h l n) : g h.objs.size = none := by
  cases q : g h.objs.size with
  | none => rfl
  | some o => exact absurd (S.lt q) (Nat.lt_irrefl _)
theorem St.Llt (S : St b e g L h l n) : L < h.objs.size := by
  obtain ⟨m, hn, _⟩ := S.ns
  exact hn.lt
theorem St.efresh (S : St b e g L h l n) : e.h.get? h.objs.size = none := by
  cases q : e.h.get? h.objs.size with
  | none => rfl
  | some o =>
    obtain ⟨o', q'⟩ := S.lv _ _ q
    exact absurd (Heap.lt_size q') (Nat.lt_irrefl _)
/-- a Fr of the library's own over the base -/
theorem St.frm (S : St b e g L h l n) : ∃ m, Fr b L h m ∧ ∀ x v, l.lookup x = some v → m x = some v := by
  obtain ⟨m, hn, hm⟩ := S.ns
  exact ⟨m, ⟨hn, fun a o x => S.gk a o (S.gsub a o (S.base a o x)), S.bL⟩, hm⟩
theorem St.news (S : St b e g L h l n) : News b L h n := fun p hp =>
  ⟨(S.own p hp).1, (S.own p hp).2.2.1, by
    cases q : b.get? p.1 with
    | none => rfl
    | some o => have := S.gsub _ _ (S.base _ _ q); rw [(S.own p hp).2.1] at this; cases this⟩
/-- fewer of the objects, or another order -/
theorem St.pick (S : St b e g L h l n) (n' : List (Addr × Obj)) (hs : ∀ p ∈ n', p ∈ n) (hn : (n'.map (·.1)).Nodup) : St b e g L h l n' :=
  { S with own := fun p hp => S.own p (hs p hp), nd := hn }
/-- less of the locals -/
theorem St.loc (S : St b e g L h l n) (l' : List (Str × Value)) (hl : ∀ x v, l'.lookup x = some v → l.lookup x = some v) : St b e g L h l' n :=
  { S with ns := let ⟨m, hn, hm⟩ := S.ns; ⟨m, hn, fun x v q => hm x v (hl x v q)⟩ }
/-- a new object -/
theorem St.push (S : St b e g L h l n) (o : Obj) (hf : o.isFreed = false) : St b e g L (h.push o) l ((h.objs.size, o) :: n) where
  ns := let ⟨m, hn, hm⟩ := S.ns; ⟨m, hn.push o, hm⟩
  gk := fun a o' x => Heap.get?_push_of_some _ (S.gk a o' x)
  base := S.base
  gsub := S.gsub
  gnew := S.gnew
  own := fun p hp => by
    rcases List.mem_cons.mp hp with rfl | hp
    · exact ⟨Heap.get?_push_size _ hf, S.gfresh, Nat.ne_of_gt S.Llt, .inr S.efresh⟩
    · exact ⟨Heap.get?_push_of_some _ (S.own p hp).1, (S.own p hp).2⟩
  nd := by
    rw [List.map_cons, List.nodup_cons]
    refine ⟨fun hm => ?_, S.nd⟩
    obtain ⟨p, hp, he⟩ := List.mem_map.mp hm
    have := Heap.lt_size (S.own p hp).1
    rw [he] at this
    exact Nat.lt_irrefl _ this
  lg := S.lg
  le := S.le
  bL := S.bL
  fr := fun a o' x w => Heap.get?_push_of_some _ (S.fr a o' x w)
  lv := fun a o' x => let ⟨o, y⟩ := S.lv a o' x; ⟨o, Heap.get?_push_of_some _ y⟩
/-- one of the objects changed -/
inductive Up (a : Addr) (o o' : Obj) : List (Addr × Obj) → List (Addr × Obj) → Prop
  | head {r} : Up a o o' ((a, o) :: r) ((a, o') :: r)
  | tail {p r r'} : Up a o o' r r' → Up a o o' (p :: r) (p :: r')
theorem Up.mem {a : Addr} {o o' : Obj} : ∀ {n n' : List (Addr × Obj)}, Up a o o' n n' → (a, o) ∈ n
  | _, _, .head => .head _
  | _, _, .tail u => .tail _ u.mem
theorem Up.keys {a : Addr} {o o' : Obj} : ∀ {n n' : List (Addr × Obj)}, Up a o o' n n' → n'.map (·.1) = n.map (·.1)
  | _, _, .head => rfl
  | _, _, .tail u => by rw [List.map_cons, List.map_cons, u.keys]
theorem Up.mem' {a : Addr} {o o' : Obj} : ∀ {n n' : List (Addr × Obj)}, Up a o o' n n' → (n.map (·.1)).Nodup → ∀ p ∈ n', p = (a, o') ∨ (p ∈ n ∧ p.1 ≠ a)
  | _, _, .head, hn, p, hp => by
    rw [List.map_cons, List.nodup_cons] at hn
    rcases List.mem_cons.mp hp with rfl | hp
    · exact .inl rfl
    · exact .inr ⟨.tail _ hp, fun z => hn.1 (List.mem_map.mpr ⟨p, hp, z⟩)⟩
  | _, _, .tail (p := q) u, hn, p, hp => by
    rw [List.map_cons, List.nodup_cons] at hn
    rcases List.mem_cons.mp hp with rfl | hp
    · exact .inr ⟨.head _, fun z => hn.1 (by rw [z]; exact List.mem_map_of_mem u.mem)⟩
    · rcases u.mem' hn.2 p hp with r | ⟨r, s⟩
      · exact .inl r
      · exact .inr ⟨.tail _ r, s⟩
theorem St.same (S : St b e g L h l n) {a : Addr} {o o' : Obj} (u : Up a o o' n n') (hs : Heap.SameBut a h h') (ho : h'.get? a = some o') : St b e g L h' l n' := by
  have A := S.own _ u.mem
  have ng : ∀ c x, g c = some x → c ≠ a := fun c x q z => by subst z; rw [A.2.1] at q; cases q
  have nL : L ≠ a := fun z => A.2.2.1 z.symm
  refine { S with ns := ?_, gk := ?_, own := ?_, nd := ?_, fr := ?_, lv := ?_ }
  · obtain ⟨m, hn, hm⟩ := S.ns
    exact ⟨m, hn.sameBut hs nL, hm⟩
  · exact fun c x q => (hs.2 c (ng c x q)).trans (S.gk c x q)
  · intro p hp
    rcases u.mem' S.nd p hp with rfl | ⟨r, s⟩
    · exact ⟨ho, A.2⟩
    · exact ⟨(hs.2 p.1 s).trans (S.own p r).1, (S.own p r).2⟩
  · rw [u.keys]; exact S.nd
  · intro c x q w
    refine (hs.2 c fun z => ?_).trans (S.fr c x q w)
    subst z
    rcases A.2.2.2 with y | y
    · exact w y
    · rw [y] at q; cases q
  · intro c x q
    obtain ⟨o1, q1⟩ := S.lv c x q
    by_cases z : c = a
    · subst z; exact ⟨_, ho⟩
    · exact ⟨o1, (hs.2 c z).trans q1⟩
/-- the locals changed -/
theorem St.locals (S : St b e g L h l n) {m' : Str → Option Value} (hn : h'.Ns L m') (hs : Heap.SameBut L h h') (hl : ∀ x v, l'.lookup x = some v → m' x = some v) : St b e g L h' l' n := by
  refine { S with ns := ⟨m', hn, hl⟩, gk := ?_, own := ?_, fr := ?_, lv := ?_ }
  · exact fun c x q => (hs.2 c (fun z => by subst z; rw [S.lg] at q; cases q)).trans (S.gk c x q)
  · exact fun p hp => ⟨(hs.2 p.1 (S.own p hp).2.2.1).trans (S.own p hp).1, (S.own p hp).2⟩
  · exact fun c x q w => (hs.2 c (fun z => by subst z; rcases S.le with y | y; exact w y; rw [y] at q; cases q)).trans (S.fr c x q w)
  · intro c x q
    obtain ⟨o1, q1⟩ := S.lv c x q
    by_cases z : c = L
    · subst z
      obtain ⟨o, _, _, q2, _⟩ := hn
      exact ⟨o, q2⟩
    · exact ⟨o1, (hs.2 c z).trans q1⟩
/-- something that is nobody's here has changed -/
theorem St.off (S : St b e g L h l n) {c : Addr} (hk : ∀ a o, a ≠ c → h.get? a = some o → h'.get? a = some o) (hg : g c = none) (hL : c ≠ L) (hn : c ∉ n.map (·.1)) (he : e.h.get? c = none) : St b e g L h' l n := by
  have ng : ∀ a x, g a = some x → a ≠ c := fun a x q z => by subst z; rw [hg] at q; cases q
  have ne : ∀ a x, e.h.get? a = some x → a ≠ c := fun a x q z => by subst z; rw [he] at q; cases q
  refine { S with ns := ?_, gk := fun a x q => hk a x (ng a x q) (S.gk a x q), own := fun p hp => ⟨hk _ _ (fun z => hn (z ▸ List.mem_map_of_mem hp)) (S.own p hp).1, (S.own p hp).2⟩, fr := fun a x q w => hk a x (ne a x q) (S.fr a x q w), lv := fun a x q => ?_ }
  · obtain ⟨m, ⟨oL, a1, a2, hL', a3⟩, hm⟩ := S.ns
    exact ⟨m, ⟨oL, a1, a2, hk L oL (Ne.symm hL) hL', a3⟩, hm⟩
  · obtain ⟨o, y⟩ := S.lv a x q
    exact ⟨o, hk a o (ne a x q) y⟩
/-- an object that will not change again -/
noncomputable def ext (g : GH) (n : List (Addr × Obj)) : GH := fun a => match n.find? (fun p => p.1 == a) with | some p => some p.2 | none => g a
theorem ext_some {a : Addr} {o : Obj} (q : ext g n a = some o) : (a, o) ∈ n ∨ g a = some o := by
  unfold ext at q
  split at q
  · rename_i p hp
    cases q
    have := List.find?_some hp
    simp only [beq_iff_eq] at this
    exact .inl (this ▸ List.mem_of_find?_eq_some hp)
  · exact .inr q
theorem ext_sub (hg : ∀ p ∈ n, g p.1 = none) {a : Addr} {o : Obj} (q : g a = some o) : ext g n a = some o := by
  unfold ext
  split
  · rename_i p hp
    have := List.find?_some hp
    simp only [beq_iff_eq] at this
    have z := hg p (List.mem_of_find?_eq_some hp)
    rw [this, q] at z; cases z
  · exact q
theorem ext_mem (hn : (n.map (·.1)).Nodup) {p : Addr × Obj} (hp : p ∈ n) : ext g n p.1 = some p.2 := by
  unfold ext
  induction n with
  | nil => cases hp
  | cons q r ih =>
    rw [List.map_cons, List.nodup_cons] at hn
    rw [List.find?_cons]
    rcases List.mem_cons.mp hp with rfl | hp
    · simp
    · have : (q.1 == p.1) = false := by
        rw [beq_eq_false_iff_ne]; exact fun z => hn.1 (z ▸ List.mem_map_of_mem hp)
      rw [this]
      exact ih hn.2 hp
/-- the objects n1 are fixed from now on; they were made in this frame -/
theorem St.freeze (S : St b e g L h l (n1 ++ n2)) (hw : ∀ p ∈ n1, e.h.get? p.1 = none) : St b e (ext g n1) L h l n2 ∧ (∀ a o, g a = some o → ext g n1 a = some o) ∧ ∀ p ∈ n1, ext g n1 p.1 = some p.2 := by
  have nd := S.nd
  rw [List.map_append, List.nodup_append] at nd
  have o1 : ∀ p ∈ n1, _ := fun p hp => S.own p (List.mem_append_left _ hp)
  have o2 : ∀ p ∈ n2, _ := fun p hp => S.own p (List.mem_append_right _ hp)
  have sub : ∀ a o, g a = some o → ext g n1 a = some o := fun a o q => ext_sub (fun p hp => (o1 p hp).2.1) q
  refine ⟨{ S with gk := ?_, gsub := ?_, gnew := ?_, own := ?_, nd := ?_, lg := ?_ }, sub, fun p hp => ext_mem nd.1 hp⟩
  · intro a o q
    rcases ext_some q with q | q
    · exact (o1 _ q).1
    · exact S.gk a o q
  · exact fun a o q => sub a o (S.gsub a o q)
  · intro a o q
    rcases ext_some q with q | q
    · exact .inr (hw _ q)
    · exact S.gnew a o q
  · intro p hp
    refine ⟨(o2 p hp).1, ?_, (o2 p hp).2.2⟩
    cases q : ext g n1 p.1 with
    | none => rfl
    | some o =>
      rcases ext_some q with q | q
      · exact absurd rfl (nd.2.2 _ (List.mem_map_of_mem (f := (·.1)) q) _ (List.mem_map_of_mem hp))
      · rw [(o2 p hp).2.1] at q; cases q
  · exact nd.2.1
  · cases q : ext g n1 L with
    | none => rfl
    | some o =>
      rcases ext_some q with q | q
      · exact absurd rfl (o1 _ q).2.2.1
      · rw [S.lg] at q; cases q
/-- what a callee is handed -/
theorem St.pre (S : St b e g L h l n) (n1 : List (Addr × Obj)) (hs : ∀ p ∈ n1, p ∈ n) (hn : (n1.map (·.1)).Nodup) : Pre b g h n1 :=
  ⟨S.gk, fun a o q => S.gsub a o (S.base a o q), fun p hp => ⟨(S.own p (hs p hp)).1, (S.own p (hs p hp)).2.1⟩, hn, Nat.le_of_lt (Nat.lt_of_le_of_lt S.bL S.Llt)⟩
/-- behind a call -/
theorem St.back (S : St b e g L h l (n1 ++ n2)) (F : Fin ⟨h, g, n1.map (·.1)⟩ g' h' n') (hk : n'.map (·.1) = n1.map (·.1)) : St b e g' L h' l (n' ++ n2) := by
  obtain ⟨Fgk, Fsub, Fnew, Fown, Ffr, Flv⟩ := F
  dsimp only at Fsub Fnew Ffr Flv
  have nd := S.nd
  rw [List.map_append, List.nodup_append] at nd
  have o1 : ∀ p ∈ n1, _ := fun p hp => S.own p (List.mem_append_left _ hp)
  have o2 : ∀ p ∈ n2, _ := fun p hp => S.own p (List.mem_append_right _ hp)
  have key : ∀ p ∈ n', ∃ q ∈ n1, q.1 = p.1 := fun p hp => by
    have : p.1 ∈ n1.map (·.1) := hk ▸ List.mem_map_of_mem hp
    obtain ⟨q, hq, e⟩ := List.mem_map.mp this
    exact ⟨q, hq, e⟩
  have none_of : ∀ a x, h.get? a = some x → g a = none → g' a = none := fun a x ha hg => by
    cases q : g' a with
    | none => rfl
    | some o =>
      rcases Fnew a o q with r | r
      · rw [hg] at r; cases r
      · rw [ha] at r; cases r
  obtain ⟨m₀, ⟨oL₀, _, _, hL₀, _⟩, _⟩ := S.ns
  refine ⟨?_, Fgk, S.base, fun a o q => Fsub a o (S.gsub a o q), ?_, ?_, ?_, none_of L _ hL₀ S.lg, S.le, S.bL, ?_, ?_⟩
  · obtain ⟨m, ⟨oL, a1, a2, hL, a3⟩, hm⟩ := S.ns
    refine ⟨m, ⟨oL, a1, a2, Ffr L oL hL fun hq => ?_, a3⟩, hm⟩
    obtain ⟨q, hq, e⟩ := List.mem_map.mp hq
    exact (o1 q hq).2.2.1 e
  · intro a o q
    rcases Fnew a o q with r | r
    · exact S.gnew a o r
    · refine .inr ?_
      cases y : e.h.get? a with
      | none => rfl
      | some o1 =>
        obtain ⟨o2, z⟩ := S.lv _ _ y
        rw [r] at z; cases z
  · intro p hp
    rcases List.mem_append.mp hp with hp | hp
    · obtain ⟨q, hq, e'⟩ := key p hp
      have A := o1 q hq
      rw [e'] at A
      exact ⟨Fown p hp, none_of _ _ A.1 A.2.1, A.2.2⟩
    · have A := o2 p hp
      refine ⟨Ffr _ _ A.1 fun hq => ?_, none_of _ _ A.1 A.2.1, A.2.2⟩
      exact nd.2.2 _ hq _ (List.mem_map_of_mem hp) rfl
  · rw [List.map_append, hk, ← List.map_append]; exact S.nd
  · intro a o q w
    refine Ffr a o (S.fr a o q w) fun hq => ?_
    obtain ⟨p, hp, rfl⟩ := List.mem_map.mp hq
    rcases (o1 p hp).2.2.2 with r | r
    · exact w r
    · rw [r] at q; cases q
  · intro a o q
    obtain ⟨o1, z⟩ := S.lv a o q
    exact Flv a o1 z
/-- a look from here on -/
theorem St.snap (S : St b e g L h l n) : St b ⟨h, g, L :: n.map (·.1)⟩ g L h l n where
  ns := S.ns
  gk := S.gk
  base := fun a o q => S.gsub a o (S.base a o q)
  gsub := fun _ _ q => q
  gnew := fun _ _ q => .inl q
  own := fun p hp => ⟨(S.own p hp).1, (S.own p hp).2.1, (S.own p hp).2.2.1, .inl (.tail _ (List.mem_map_of_mem hp))⟩
  nd := S.nd
  lg := S.lg
  le := .inl (.head _)
  bL := S.bL
  fr := fun _ _ q _ => q
  lv := fun _ o q => ⟨o, q⟩
theorem St.none_e (S : St b e g L h l n) {a : Addr} (r : h.get? a = none) : e.h.get? a = none := by
  cases y : e.h.get? a with
  | none => rfl
  | some o1 =>
    obtain ⟨o2, z⟩ := S.lv _ _ y
    rw [r] at z; cases z
theorem St.trans {g2 : GH} {h2 : Heap} {l2 : List (Str × Value)} (S : St b e g L h l n) (T : St b ⟨h, g, L :: n.map (·.1)⟩ g2 L h2 l2 n2) : St b e g2 L h2 l2 n2 where
  ns := T.ns
  gk := T.gk
  base := S.base
  gsub := fun a o q => T.gsub a o (S.gsub a o q)
  gnew := fun a o q => by
    rcases T.gnew a o q with r | r
    · exact S.gnew a o r
    · exact .inr (S.none_e r)
  own := fun p hp => by
    refine ⟨(T.own p hp).1, (T.own p hp).2.1, (T.own p hp).2.2.1, ?_⟩
    rcases (T.own p hp).2.2.2 with r | r
    · rcases List.mem_cons.mp r with r | r
      · exact absurd r (T.own p hp).2.2.1
      · obtain ⟨q, hq, e'⟩ := List.mem_map.mp r
        have := (S.own q hq).2.2.2
        rwa [e'] at this
    · exact .inr (S.none_e r)
  nd := T.nd
  lg := T.lg
  le := S.le
  bL := S.bL
  fr := fun a o q w => by
    refine T.fr a o (S.fr a o q w) fun r => ?_
    rcases List.mem_cons.mp r with r | r
    · subst r
      rcases S.le with y | y
      · exact w y
      · rw [y] at q; cases q
    · obtain ⟨p, hp, rfl⟩ := List.mem_map.mp r
      rcases (S.own p hp).2.2.2 with y | y
      · exact w y
      · rw [y] at q; cases q
  lv := fun a o q => by
    obtain ⟨o1, z⟩ := S.lv a o q
    exact T.lv a o1 z
/-- a frame's end -/
theorem St.fin (S : St b e g L h l n) (n' : List (Addr × Obj)) (hs : ∀ p ∈ n', p ∈ n) : Fin e g h n' :=
  ⟨S.gk, S.gsub, S.gnew, fun p hp => (S.own p (hs p hp)).1, S.fr, S.lv⟩
end
structure Cx (A : Around) (d u : Nat) : Prop where
  hand : A.handled = none
  dep : A.depth + d < recursionLimit
  uni : A.units + u < cLine
theorem Cx.mono {A : Around} {d u d' u' : Nat} (C : Cx A d u) (hd : d' ≤ d) (hu : u' ≤ u) : Cx A d' u' :=
  ⟨C.hand, Nat.lt_of_le_of_lt (Nat.add_le_add_left hd _) C.dep, Nat.lt_of_le_of_lt (Nat.add_le_add_left hu _) C.uni⟩
theorem Cx.in1 {A : Around} {d u : Nat} (C : Cx A d (u + 1)) : Cx A.in1 d u :=
  ⟨C.hand, C.dep, by have := C.uni; show A.units + 1 + u < cLine; lia⟩
theorem Cx.deeper {A : Around} {d u : Nat} {env : Env} (C : Cx A (d + 1) (u + 3)) : Cx (A.deeper env) d u :=
  ⟨C.hand, by have := C.dep; simp only [Around.deeper]; lia, by have := C.uni; simp only [Around.deeper_units]; lia⟩
theorem Cx.here {A : Around} {d u : Nat} (C : Cx A d u) : A.units < cLine := Nat.lt_of_le_of_lt (Nat.le_add_right _ _) C.uni
theorem Cx.room {A : Around} {d u : Nat} (C : Cx A d u) : A.depth < recursionLimit := Nat.lt_of_le_of_lt (Nat.le_add_right _ _) C.dep
structure En (env : Env) (sc : Scope) (cl : List (Str × Addr)) (L : Addr) : Prop where
  hs : env.scope = sc
  lo : env.locals = L
  gl : env.globals = mainGlobals
  bu : env.builtins = builtinsNs
  ce : env.cells = cl
  kd : sc.kind = .function
theorem En.kind {env : Env} {sc : Scope} {cl : List (Str × Addr)} {L : Addr} (N : En env sc cl L) : env.scope.kind = .function := by rw [N.hs]; exact N.kd
theorem En.kindOf {env : Env} {sc : Scope} {cl : List (Str × Addr)} {L : Addr} (N : En env sc cl L) {x : Str} {k : NameKind} (h : sc.names.lookup x = some k) : env.kindOf x = some k := by
  unfold Env.kindOf; rw [N.hs]; exact h
theorem En.noInter {env : Env} {sc : Scope} {cl : List (Str × Addr)} {L : Addr} (N : En env sc cl L) : interactive env = false := by
  unfold interactive; rw [N.kind]; rfl
structure Wo (K : Frag) (b : Heap) : Prop where
  K : K.In b
  top : ∃ p loose mg mb, TopRead p loose mg mb b
noncomputable abbrev listO (vs : List Value) (k : Nat) : Obj := { cls := .type "list", data := .seq vs.toArray k }
noncomputable abbrev tupO (vs : List Value) : Obj := { cls := .type "tuple", data := .seq vs.toArray }
noncomputable def CellIs (g : GH) (c : Addr) (v : Value) : Prop := ∃ o, g c = some o ∧ o.data = .cell (some v)
theorem CellIs.mono {g g' : GH} {c : Addr} {v : Value} (x : CellIs g c v) (h : ∀ a o, g a = some o → g' a = some o) : CellIs g' c v := let ⟨o, a, d⟩ := x; ⟨o, h _ _ a, d⟩
section
variable {prog : Program} {w : World} {A : Around} {E : Value → Shared → Prop} {gs : Array GenState} {dr : Drawn} {tk : Tok} {os : OsState}
variable {b : Heap} {e : Ent} {g : GH} {L : Addr} {h : Heap} {l : List (Str × Value)} {n n' : List (Addr × Obj)} {K : Frag} {env : Env} {sc : Scope} {cl : List (Str × Addr)} {x : Str} {pos : Pos} {v : Value}
theorem St.bk (S : St b e g L h l n) : ∀ a o, b.get? a = some o → h.get? a = some o := fun a o q => S.gk a o (S.gsub a o (S.base a o q))
theorem St.kin (S : St b e g L h l n) (W : Wo K b) : K.In h := W.K.keeps S.bk
theorem St.lim (S : St b e g L h l n) (W : Wo K b) : h.NoLimit := let ⟨_, _, _, _, T⟩ := W.top; T.nolimit.keeps S.bk
theorem r_local {Q : Value → Shared → Prop} (N : En env sc cl L) (S : St b e g L h l n) (hl : sc.names.lookup x = some .local) (hv : l.lookup x = some v) (k : Q v ⟨h, gs, dr, tk, os⟩) (hd : (x == ("__debug__" : Str)) = false := by decide) :
    wpAny (model prog w) A (eval (.Name x pos) env) Q E ⟨h, gs, dr, tk, os⟩ := by
  obtain ⟨m, hn, hm⟩ := S.ns
  refine wpAny_Name (wpAny_loadName_local (m := m) N.kind (N.kindOf hl) ?_ (hm x v hv) k) hd
  rw [N.lo]; exact hn
theorem r_cell {Q : Value → Shared → Prop} {c : Addr} (N : En env sc cl L) (S : St b e g L h l n) (hl : sc.names.lookup x = some .cell) (hc : cl.lookup x = some c) (hv : CellIs g c v) (k : Q v ⟨h, gs, dr, tk, os⟩) (hd : (x == ("__debug__" : Str)) = false := by decide) :
    wpAny (model prog w) A (eval (.Name x pos) env) Q E ⟨h, gs, dr, tk, os⟩ := by
  obtain ⟨o, ho, hd'⟩ := hv
  exact wpAny_Name (wpAny_loadName_cell N.kind (N.kindOf hl) (by rw [N.ce]; exact hc) ⟨o, S.gk _ _ ho, hd'⟩ k) hd
theorem r_free {Q : Value → Shared → Prop} {c : Addr} (N : En env sc cl L) (S : St b e g L h l n) (hl : sc.names.lookup x = some .free) (hc : cl.lookup x = some c) (hv : CellIs g c v) (k : Q v ⟨h, gs, dr, tk, os⟩) (hd : (x == ("__debug__" : Str)) = false := by decide)
    (hd2 : (x == ("__classdict__" : Str)) = false := by decide) :
    wpAny (model prog w) A (eval (.Name x pos) env) Q E ⟨h, gs, dr, tk, os⟩ := by
  obtain ⟨o, ho, hd'⟩ := hv
  exact wpAny_Name (wpAny_loadName_free N.kind (N.kindOf hl) (by rw [N.ce]; exact hc) ⟨o, S.gk _ _ ho, hd'⟩ k hd2) hd
theorem r_global {Q : Value → Shared → Prop} (W : Wo K b) (N : En env sc cl L) (S : St b e g L h l n) (hl : sc.names.lookup x = some .globalImplicit) (hv : nsIn K mainGlobals x = some (some v)) (k : Q v ⟨h, gs, dr, tk, os⟩) (hd : (x == ("__debug__" : Str)) = false := by decide) :
    wpAny (model prog w) A (eval (.Name x pos) env) Q E ⟨h, gs, dr, tk, os⟩ := by
  obtain ⟨p, loose, mg, mb, T⟩ := W.top
  refine Name_function_global N.kind (N.kindOf hl) (loadGlobal_global (mg := mg) ?_ (mg_of W.K T.g hv) k) hd
  rw [N.gl]; exact T.g.keeps S.bk
theorem r_builtin {Q : Value → Shared → Prop} (W : Wo K b) (N : En env sc cl L) (S : St b e g L h l n) (hl : sc.names.lookup x = some .globalImplicit) (hv : nsIn K mainGlobals x = some none) (hb : bootBuiltins x = some v) (k : Q v ⟨h, gs, dr, tk, os⟩)
    (hn : x ≠ "__name__" := by decide) (hd : (x == ("__debug__" : Str)) = false := by decide) :
    wpAny (model prog w) A (eval (.Name x pos) env) Q E ⟨h, gs, dr, tk, os⟩ := by
  obtain ⟨p, loose, mg, mb, T⟩ := W.top
  refine Name_function_global N.kind (N.kindOf hl) (loadGlobal_builtin (mg := mg) (mb := mb) ?_ (mg_none_of W.K T.g hv) ?_ ((T.builtins x hn).trans hb) k) hd
  · rw [N.gl]; exact T.g.keeps S.bk
  · rw [N.bu]; exact T.b.keeps S.bk
theorem lookup_put {l : List (Str × Value)} {x : Str} {v : Value} {m : Str → Option Value} (hm : ∀ y u, l.lookup y = some u → m y = some u) :
    ∀ y u, ((x, v) :: l).lookup y = some u → (fun z => if z = x then some v else m z) y = some u := by
  intro y u q
  rw [List.lookup_cons] at q
  by_cases h : y = x
  · subst h
    simp only [beq_self_eq_true] at q
    simp only [if_true]; exact q
  · have : (y == x) = false := by simpa using h
    rw [this] at q
    simp only [if_neg h]
    exact hm y u q
theorem r_store {Q : Unit → Shared → Prop} (N : En env sc cl L) (S : St b e g L h l n) (hl : sc.names.lookup x = some .local)
    (k : ∀ h' tk', St b e g L h' ((x, v) :: l) n → Q () ⟨h', gs, dr, tk', os⟩) : wpAny (model prog w) A (storeName env x v) Q E ⟨h, gs, dr, tk, os⟩ := by
  obtain ⟨m, hn, hm⟩ := S.ns
  have hlo := N.lo
  subst hlo
  exact wpAny_storeName_local (N.kindOf hl) hn (fun h' hn' hs => k h' _ (S.locals hn' hs (lookup_put hm))) (by rw [N.kind]; rfl)
theorem r_int {Q : Value → Shared → Prop} {i : Int} {kk : Nat} (k : ∀ t tk', Q (.int i t) ⟨h, gs, dr, tk', os⟩) : wpAny (model prog w) A (eval (.Constant (.int i) kk pos) env) Q E ⟨h, gs, dr, tk, os⟩ := wpAny_Constant_int (k _ _)
theorem r_str {Q : Value → Shared → Prop} {i : Str} {kk : Nat} (k : ∀ t tk', Q (.str i t) ⟨h, gs, dr, tk', os⟩) : wpAny (model prog w) A (eval (.Constant (.str i) kk pos) env) Q E ⟨h, gs, dr, tk, os⟩ := Calls.Constant_str (k _ _)
theorem r_add {Q : Value → Shared → Prop} {i j : Int} {t u : Tok} (k : ∀ t tk', Q (.int (i + j) t) ⟨h, gs, dr, tk', os⟩) : wpAny (model prog w) A (binaryOp .Add (.int i t) (.int j u)) Q E ⟨h, gs, dr, tk, os⟩ := wpAny_add_int (k _ _)
theorem r_sub {Q : Value → Shared → Prop} {i j : Int} {t u : Tok} (k : ∀ t tk', Q (.int (i - j) t) ⟨h, gs, dr, tk', os⟩) : wpAny (model prog w) A (binaryOp .Sub (.int i t) (.int j u)) Q E ⟨h, gs, dr, tk, os⟩ := PyProof.Rows.sub_int (k _ _)
theorem r_mod {Q : Value → Shared → Prop} {i j : Int} {t u : Tok} (hj : j ≠ 0) (k : ∀ t tk', Q (.int (i.fmod j) t) ⟨h, gs, dr, tk', os⟩) : wpAny (model prog w) A (binaryOp .Mod (.int i t) (.int j u)) Q E ⟨h, gs, dr, tk, os⟩ := PyProof.Rows.mod_int hj (k _ _)
theorem r_callWith {Q : Value → Shared → Prop} {f : Value} {ex : Expr} {rest : List Expr} (W : Wo K b) (hk : keepIn K f = true)
    (hh : wpAny (model prog w) A (spliced (backTo pos (starEach (ex :: rest) env))) (fun vs s₁ => K.In s₁.heap ∧ wpAny (model prog w) A (call f vs) Q E s₁) E ⟨h, gs, dr, tk, os⟩)
    (he : starEach (ex :: rest) env = (false, eval ex env) :: starEach rest env := by rfl) (hplain : (backTo pos (starEach rest env)).any (·.1) = false := by rfl) :
    wpAny (model prog w) A (callWith pos f [] (backTo pos (starEach (ex :: rest) env)) []) Q E ⟨h, gs, dr, tk, os⟩ := callWith_K (h₀ := b) W.K hk hh he hplain
theorem r_meth {Q : Value → Shared → Prop} {f x : Value} {ex : Expr} {rest : List Expr} (W : Wo K b) (hk : keepIn K f = true)
    (hh : wpAny (model prog w) A (spliced (backTo pos (starEach (ex :: rest) env))) (fun vs s₁ => K.In s₁.heap ∧ wpAny (model prog w) A (call f (x :: vs)) Q E s₁) E ⟨h, gs, dr, tk, os⟩)
    (he : starEach (ex :: rest) env = (false, eval ex env) :: starEach rest env := by rfl) (hplain : (backTo pos (starEach rest env)).any (·.1) = false := by rfl) :
    wpAny (model prog w) A (callWith pos f [x] (backTo pos (starEach (ex :: rest) env)) []) Q E ⟨h, gs, dr, tk, os⟩ := callWith_K (h₀ := b) W.K hk hh he hplain
/-! lists -/
theorem St.isList (S : St b e g L h l n) {a : Addr} {vs : List Value} {k : Nat} (hm : (a, listO vs k) ∈ n) : h.IsList a vs.toArray := ⟨_, (S.own _ hm).1, rfl, k, rfl⟩
theorem St.isListG (S : St b e g L h l n) {a : Addr} {vs : List Value} {k : Nat} (hm : g a = some (listO vs k)) : h.IsList a vs.toArray := ⟨_, S.gk _ _ hm, rfl, k, rfl⟩
theorem r_item {Q : Value → Shared → Prop} {value slice : Expr} {a : Addr} {vs : List Value} {i : Int} {t : Tok} (hL : h.IsList a vs.toArray) (h0 : 0 ≤ i) (hi : i < 2 ^ 63) (hx : vs[i.toNat]? = some v) (k : Q v ⟨h, gs, dr, tk, os⟩)
    (hs : subscripted slice false (.ref a) (.int i t) = operate [.ref a, .int i t] (getItem (.ref a) (.int i t)) := by with_unfolding_all rfl) :
    wpAny (model prog w) A (subscriptTail value slice (.ref a) (.int i t)) Q E ⟨h, gs, dr, tk, os⟩ :=
  tail_any (s := ⟨h, gs, dr, tk, os⟩) (Heap.IsList.typeIs hL) slot_list_getitem.lookup (wpAny_getItem_list (s := ⟨h, gs, dr, tk, os⟩) hL h0 hi (by simpa using hx) k) hs
theorem setitem_exact {Q : Unit → Shared → Prop} {a : Addr} {items : Array Value} {kk : Nat} {i : Int} {t : Tok} {v : Value} (ha : h.get? a = some { cls := .type "list", data := .seq items kk }) (h0 : 0 ≤ i) (hj : i < items.size) (hi : i < 2 ^ 63)
    (k : Q () ⟨h.update a (Obj.mapSeq fun xs => xs.setIfInBounds i.toNat v), gs, dr, tk, os⟩) :
    wpAny (model prog w) A (setItem (.ref a) (.int i t) v) Q E ⟨h, gs, dr, tk, os⟩ := by
  have hT : Shared.TypeIs ⟨h, gs, dr, tk, os⟩ (.ref a) "list" := ⟨_, ha, rfl⟩
  have hf := fitsIndex_of h0 hi
  clear hi
  generalize hs : (⟨h, gs, dr, tk, os⟩ : Shared) = s at *
  have ha' : s.heap.get? a = some { cls := .type "list", data := .seq items kk } := by rw [← hs]; exact ha
  unfold setItem
  refine wpAny_holding (wpAny_bind (wpAny_sequenceKey hT (by decide) ?_))
  refine wpAny_bind (wpAny_callSpecial?_slot (name := Str.ofString "__setitem__") hT slot_list_setitem (wpAny_call_entry slot_list_setitem hT entry_list_setitem ?_ (args_list_setitem _ _ _)))
  show wpAny _ _ (Builtin.List.listSubscript? (.int i t) >>= _) _ _ s
  refine wpAny_bind (wpAny_listSubscript_int hf ?_)
  obtain ⟨j, rfl⟩ := Int.eq_ofNat_of_zero_le h0
  have hj' : j < items.size := by lia
  have hx : items[j]? = some items[j] := Array.getElem?_eq_getElem hj'
  show wpAny _ _ ((seqItemAt a j >>= fun r => pure (r.map (j, ·))) >>= _) _ _ s
  refine wpAny_bind (wpAny_bind (wpAny_seqItemAt ha' rfl (wpAny_pure ?_)))
  rw [hx]
  show wpAny _ _ (setSeqItemAt a j v >>= _) _ _ s
  refine wpAny_bind (wpAny_setSeqItemAt ha' rfl ?_)
  subst hs
  exact wpAny_pure ⟨.none, rfl, wpAny_pure k⟩
theorem upd_seq {h : Heap} {a : Addr} {vs : List Value} {k : Nat} {f : Array Value → Array Value} {ws : List Value} (ha : h.get? a = some (listO vs k)) (hf : f vs.toArray = ws.toArray) :
    (h.update a (Obj.mapSeq f)).get? a = some (listO ws (if ws.length = vs.length then k else k + 1)) := by
  have e : Obj.mapSeq f (listO vs k) = listO ws (if ws.length = vs.length then k else k + 1) := by
    show (⟨_, _, .seq (f vs.toArray) (if (f vs.toArray).size == vs.toArray.size then k else k + 1), _⟩ : Obj) = _
    rw [hf]
    simp
  rw [← e]
  exact Heap.get?_update_self _ ha (by rw [e]; rfl)
theorem r_setitem {Q : Unit → Shared → Prop} {a : Addr} {vs : List Value} {kk : Nat} {i : Int} {t : Tok} (S : St b e g L h l n) (u : Up a (listO vs kk) (listO (vs.set i.toNat v) kk) n n') (h0 : 0 ≤ i) (hx : i < vs.length) (hi : i < 2 ^ 63)
    (k : ∀ h', St b e g L h' l n' → Q () ⟨h', gs, dr, tk, os⟩) :
    wpAny (model prog w) A (setItem (.ref a) (.int i t) v) Q E ⟨h, gs, dr, tk, os⟩ := by
  have ha := (S.own _ u.mem).1
  refine setitem_exact ha h0 (by simpa using hx) hi (k _ (S.same u (Heap.SameBut.update ..) ?_))
  have := upd_seq (f := fun xs => xs.setIfInBounds i.toNat v) (ws := vs.set i.toNat v) ha (by simp)
  rw [List.length_set, if_pos rfl] at this
  exact this
theorem r_append {Q : Value → Shared → Prop} {a : Addr} {vs : List Value} {kk : Nat} (S : St b e g L h l n) (u : Up a (listO vs kk) (listO (vs ++ [v]) (kk + 1)) n n') (hz : vs.length ≤ sizeLine)
    (k : ∀ h', St b e g L h' l n' → Q .none ⟨h', gs, dr, tk, os⟩) :
    wpAny (model prog w) A (call (.builtin "list.append") [.ref a, v]) Q E ⟨h, gs, dr, tk, os⟩ := by
  have ha := (S.own _ u.mem).1
  refine call_meets PySem.F.slot_list_append ⟨_, ha, rfl⟩ PySem.F.entry_list_append (PySem.F.args_list_append_2 _ _) (PySem.list_append a _ kk v (by simpa using hz)) ⟨ha, k _ (S.same u (Heap.SameBut.update ..) ?_)⟩
  have := upd_seq (f := fun xs => xs.push v) (ws := vs ++ [v]) ha (by simp)
  rwa [if_neg (by simp)] at this
theorem r_pop {Q : Value → Shared → Prop} {a : Addr} {vs : List Value} {kk : Nat} (S : St b e g L h l n) (u : Up a (listO (vs ++ [v]) kk) (listO vs (kk + 1)) n n') (hz : vs.length < sizeLine)
    (k : ∀ h', St b e g L h' l n' → Q v ⟨h', gs, dr, tk, os⟩) :
    wpAny (model prog w) A (call (.builtin "list.pop") [.ref a]) Q E ⟨h, gs, dr, tk, os⟩ := by
  have ha := (S.own _ u.mem).1
  refine call_meets PySem.F.slot_list_pop ⟨_, ha, rfl⟩ PySem.F.entry_list_pop (PySem.F.args_list_pop_1 _) (PySem.MeetsSeq.list_pop_last a _ kk v (by simp) (by simp; lia)) ⟨ha, k _ (S.same u (Heap.SameBut.update ..) ?_)⟩
  have := upd_seq (f := fun xs => xs.eraseIdxIfInBounds ((vs ++ [v]).toArray.size - 1)) (ws := vs) ha (by
    simp [Array.eraseIdxIfInBounds, List.eraseIdx_append_of_length_le])
  rwa [if_neg (by simp)] at this
theorem r_pop0 {Q : Value → Shared → Prop} {a : Addr} {vs : List Value} {kk : Nat} {t : Tok} (S : St b e g L h l n) (u : Up a (listO (v :: vs) kk) (listO vs (kk + 1)) n n') (hz : vs.length < sizeLine)
    (k : ∀ h', St b e g L h' l n' → Q v ⟨h', gs, dr, tk, os⟩) :
    wpAny (model prog w) A (call (.builtin "list.pop") [.ref a, .int 0 t]) Q E ⟨h, gs, dr, tk, os⟩ := by
  have ha := (S.own _ u.mem).1
  refine call_meets PySem.F.slot_list_pop ⟨_, ha, rfl⟩ PySem.F.entry_list_pop (PySem.F.args_list_pop_2 _ _) (PySem.MeetsSeq.list_pop_at a _ kk 0 t 0 v (by decide) (by simp [seqIndex?]) (by simp) (by simp; lia)) ⟨ha, k _ (S.same u (Heap.SameBut.update ..) ?_)⟩
  have := upd_seq (f := fun xs => xs.eraseIdxIfInBounds 0) (ws := vs) ha (by
    simp [Array.eraseIdxIfInBounds])
  rwa [if_neg (by simp)] at this
theorem St.one (S : St b e g L h l n) {a : Addr} {o : Obj} (ha : (a, o) ∈ n ∨ (g a = some o ∧ b.get? a = none)) : ∃ m, Fr b L h m ∧ News b L h [(a, o)] := by
  obtain ⟨m, F, _⟩ := S.frm
  refine ⟨m, F, fun p hp => ?_⟩
  obtain rfl := List.mem_singleton.mp hp
  rcases ha with ha | ⟨ha, hb⟩
  · exact S.news _ ha
  · exact ⟨S.gk _ _ ha, fun (z : a = L) => (by have q := S.lg; rw [← z, ha] at q; cases q), hb⟩
theorem r_lmeth {Q : Value × List Value → Shared → Prop} {a : Addr} {vs : List Value} {kk : Nat} {name : Str} {id : String} {pl : Sem Bool} (S : St b e g L h l n) (ha : (a, listO vs kk) ∈ n) (slot : Slot "list" name id) (hty : typeOf (.builtin id) = pure (.type "method_descriptor"))
    (k : Q (.builtin id, [.ref a]) ⟨h, gs, dr, tk, os⟩) : wpAny (model prog w) A (getMethod (.ref a) name pl) Q E ⟨h, gs, dr, tk, os⟩ := by
  obtain ⟨m, F, N⟩ := S.one (.inl ha)
  exact kl_method (D := a) (its := vs.toArray) (n := kk) N (.head _) slot hty k
theorem r_newlist {Q : Value → Shared → Prop} {vs : List Value} (S : St b e g L h l n) (hz : vs.length ≤ sizeLine) (k : ∀ a h', e.h.get? a = none → St b e g L h' l ((a, listO vs 0) :: n) → Q (.ref a) ⟨h', gs, dr, tk, os⟩) :
    wpAny (model prog w) A (newList vs) Q E ⟨h, gs, dr, tk, os⟩ :=
  wpAny_newObj_type (k _ _ S.efresh (S.push _ rfl)) (by show vs.toArray.size ≤ sizeLine; rw [List.size_toArray]; exact hz)
theorem r_newtuple {Q : Value → Shared → Prop} {vs : List Value} (S : St b e g L h l n) (hz : vs.length ≤ sizeLine) (k : ∀ a h' g', (∀ c o, g c = some o → g' c = some o) → g' a = some (tupO vs) → St b e g' L h' l n → Q (.ref a) ⟨h', gs, dr, tk, os⟩) :
    wpAny (model prog w) A (newTuple vs) Q E ⟨h, gs, dr, tk, os⟩ := by
  refine wpAny_newObj_type ?_ (by show vs.toArray.size ≤ sizeLine; rw [List.size_toArray]; exact hz)
  have S' := S.push (tupO vs) rfl
  obtain ⟨T, h1, h2⟩ := St.freeze (n1 := [(h.objs.size, tupO vs)]) (n2 := n) S' (fun p hp => by rw [List.mem_singleton.mp hp]; exact S.efresh)
  exact k _ _ _ h1 (h2 _ (.head _)) T
theorem r_titem {Q : Value → Shared → Prop} {value slice : Expr} {a : Addr} {vs : List Value} {i : Int} {t : Tok} (S : St b e g L h l n) (ha : g a = some (tupO vs)) (h0 : 0 ≤ i) (hi : i < 2 ^ 63) (hx : vs[i.toNat]? = some v) (k : Q v ⟨h, gs, dr, tk, os⟩)
    (hs : subscripted slice false (.ref a) (.int i t) = operate [.ref a, .int i t] (getItem (.ref a) (.int i t)) := by with_unfolding_all rfl) :
    wpAny (model prog w) A (subscriptTail value slice (.ref a) (.int i t)) Q E ⟨h, gs, dr, tk, os⟩ := by
  have hlt : i.toNat < vs.length := (List.getElem?_eq_some_iff.mp hx).1
  refine item_tupleT (s := ⟨h, gs, dr, tk, os⟩) (l := vs) (j := i.toNat) ⟨_, S.gk _ _ ha, rfl, 0, rfl⟩ (by first | decide | lia) hi ?_ hx k hs
  have e1 : ¬ i < 0 := by lia
  have e2 : i < (vs.length : Int) := by lia
  simp [seqIndex?, e1, e2, h0]
theorem r_len {Q : Value → Shared → Prop} {a : Addr} {vs : List Value} (hL : h.IsList a vs.toArray) (hz : vs.length ≤ sizeLine) (k : ∀ t tk', Q (.int (vs.length : Nat) t) ⟨h, gs, dr, tk', os⟩) : wpAny (model prog w) A (call (.builtin "len") [.ref a]) Q E ⟨h, gs, dr, tk, os⟩ := by
  have := Calls.call_len_list (prog := prog) (w := w) (A := A) (E := E) (s := ⟨h, gs, dr, tk, os⟩) (Q := Q) hL (by rw [List.size_toArray]; rw [sizeLine_eq] at hz; lia) (by rw [List.size_toArray]; exact k _ _)
  exact this
end
noncomputable def Done (Q : Value → Shared → Prop) : Flow → Shared → Prop := fun f s' => Q (match f with | .ret v => v | _ => .none) s'
noncomputable def Knows (l : List (Str × Value)) (m : Str → Option Value) : Prop := ∀ x v, l.lookup x = some v → m x = some v
theorem Knows.nil {m : Str → Option Value} : Knows [] m := fun _ _ q => by cases q
theorem Knows.cons {l : List (Str × Value)} {m : Str → Option Value} {x : Str} {v : Value} (h : m x = some v) (r : Knows l m) : Knows ((x, v) :: l) m := fun y u q => by
  rw [List.lookup_cons] at q
  by_cases e : y = x
  · subst e; simp only [beq_self_eq_true] at q; cases q; exact h
  · have : (y == x) = false := by simpa using e
    rw [this] at q; exact r y u q
section
variable {prog : Program} {w : World} {A : Around} {E : Value → Shared → Prop} {gs : Array GenState} {dr : Drawn} {tk : Tok} {os : OsState}
variable {b : Heap} {e : Ent} {g : GH} {L : Addr} {h : Heap} {l : List (Str × Value)} {n n1 n' : List (Addr × Obj)} {K : Frag} {env : Env} {sc : Scope} {cl : List (Str × Addr)} {x : Str} {pos : Pos} {v : Value}
theorem St.loc' (S : St b e g L h l n) (l' : List (Str × Value)) (hl : Knows l' (fun x => l.lookup x)) : St b e g L h l' n := S.loc l' hl
theorem Pre.lim (P : Pre b g h n1) (W : Wo K b) : h.NoLimit := let ⟨_, _, _, _, T⟩ := W.top; T.nolimit.keeps fun a o q => P.gk a o (P.base a o q)
theorem Pre.kin (P : Pre b g h n1) (W : Wo K b) : K.In h := W.K.keeps fun a o q => P.gk a o (P.base a o q)
theorem St.start {h' : Heap} {m : Str → Option Value} (P : Pre b g h n1) (hns : h'.Ns h.objs.size m) (hk : ∀ a o, h.get? a = some o → h'.get? a = some o) (hl : Knows l m) : St b ⟨h, g, n1.map (·.1)⟩ g h.objs.size h' l n1 where
  ns := ⟨_, hns, hl⟩
  gk := fun a o q => hk a o (P.gk a o q)
  base := P.base
  gsub := fun _ _ q => q
  gnew := fun _ _ q => .inl q
  own := fun p hp => ⟨hk _ _ (P.own p hp).1, (P.own p hp).2, Nat.ne_of_lt (Heap.lt_size (P.own p hp).1), .inl (List.mem_map_of_mem hp)⟩
  nd := P.nd
  lg := by
    cases q : g h.objs.size with
    | none => rfl
    | some o => exact absurd (Heap.lt_size (P.gk _ _ q)) (Nat.lt_irrefl _)
  le := .inr (by
    cases q : h.get? h.objs.size with
    | none => rfl
    | some o => exact absurd (Heap.lt_size q) (Nat.lt_irrefl _))
  bL := P.bl
  fr := fun a o q _ => hk a o q
  lv := fun a o q => ⟨o, hk a o q⟩
theorem r_call {d u : Nat} {Q : Value → Shared → Prop} {f : Addr} {name qual : Str} {params : Arguments} {body : List Stmt} {scope : Scope} {dV kV doc pm cdv ct oc : Value} {an od : Option Addr} {osl : Array (Option Value)} {args : List Value} {binds : List (Str × Value)}
    (W : Wo K b) (C : Cx A (d + 1) (u + 3)) (P : Pre b g h n1) (ho : K.lookup f = some ⟨oc, od, .func (fnOf name qual params body scope dV kV doc pm an cdv ct), osl⟩) (hcd : codeIn K cdv qual = true)
    (hbind : bindArgs (fnOf name qual params body scope dV kV doc pm an cdv ct) ⟨args, []⟩ = pure binds) (hloc : (binds.all fun x => decide (scope.names.lookup x.1 = some .local)) = true)
    (hl : Knows l fun x => binds.reverse.lookup x)
    (k : ∀ A' env L h' tk', Cx A' d u → En env scope [] L → St b ⟨h, g, n1.map (·.1)⟩ g L h' l n1 → ∀ E', wpAny (model prog w) A' (execs body env) (Done Q) E' ⟨h', gs, dr, tk', os⟩)
    (hcell : ∀ x ∈ scope.names, x.2 ≠ .cell := by decide) (hco : scope.isCoroutine = false := by rfl) (hgen : scope.isGenerator = false := by rfl) (hk : scope.kind = .function := by rfl) :
    wpAny (model prog w) A (call (.ref f) args) Q E ⟨h, gs, dr, tk, os⟩ := by
  refine wpAny_call (codeAny_call_def (fd := fnOf name qual params body scope dV kV doc pm an cdv ct) (body := body) (binds := binds) C.room (P.kin W _ _ ho) rfl (P.lim W) (codeRec_of (P.kin W) hcd) rfl (BindsTo.of_eq hbind) hcell (locs hloc) (fun h₁ hns hk₁ => ?_) hco hgen hk)
  exact k _ _ _ h₁ _ C.deeper ⟨rfl, rfl, rfl, rfl, rfl, hk⟩ (St.start P hns hk₁ hl) _
theorem r_callC {d u : Nat} {Q : Value → Shared → Prop} {f : Addr} {name qual : Str} {params : Arguments} {body : List Stmt} {scope : Scope} {dV kV doc pm cdv ct oc : Value} {an od : Option Addr} {osl : Array (Option Value)} {args : List Value} {binds : List (Str × Value)}
    (W : Wo K b) (C : Cx A (d + 1) (u + 3)) (P : Pre b g h n1) (ho : K.lookup f = some ⟨oc, od, .func (fnOf name qual params body scope dV kV doc pm an cdv ct), osl⟩) (hcd : codeIn K cdv qual = true)
    (hbind : bindArgs (fnOf name qual params body scope dV kV doc pm an cdv ct) ⟨args, []⟩ = pure binds)
    (hkind : (binds.all fun y => scope.names.lookup y.1 == some .local || scope.names.lookup y.1 == some .cell) = true)
    (hl : Knows l (bindL (fun x => scope.names.lookup x) binds fun _ => none))
    (k : ∀ A' env L h' tk' g', Cx A' d u → En env scope (cellsFrom (L + 1) scope.names []) L → (∀ a o, g a = some o → g' a = some o) → St b ⟨h, g, n1.map (·.1)⟩ g' L h' l n1 →
      (∀ x c v, (cellsFrom (L + 1) scope.names []).lookup x = some c → bindC (fun x => scope.names.lookup x) binds (fun _ => none) x = some v → CellIs g' c v) →
      ∀ E', wpAny (model prog w) A' (execs body env) (Done Q) E' ⟨h', gs, dr, tk', os⟩)
    (hco : scope.isCoroutine = false := by rfl) (hgen : scope.isGenerator = false := by rfl) (hk : scope.kind = .function := by rfl) :
    wpAny (model prog w) A (call (.ref f) args) Q E ⟨h, gs, dr, tk, os⟩ := by
  refine wpAny_call (codeAny_call_cells (fd := fnOf name qual params body scope dV kV doc pm an cdv ct) (body := body) (binds := binds) C.room (P.kin W _ _ ho) rfl (P.lim W) (codeRec_of (P.kin W) hcd) rfl hbind rfl (kindsX hkind _) (fun s₁ x => ?_) hco hgen hk)
  obtain ⟨⟨⟨h₁, t₁, rfl⟩, hns, hkp, _⟩, hcell, hap, hab⟩ := x
  have hL : (callEnvC (fnOf name qual params body scope dV kV doc pm an cdv ct) h.objs.size f).locals = h.objs.size := rfl
  have hce : (callEnvC (fnOf name qual params body scope dV kV doc pm an cdv ct) h.objs.size f).cells = cellsFrom (h.objs.size + 1) scope.names [] := rfl
  have hns' : h₁.Ns h.objs.size (bindL (fun x => scope.names.lookup x) binds fun _ => none) := hns
  have hcell' : ∀ y c, (cellsFrom (h.objs.size + 1) scope.names []).lookup y = some c → h₁.IsCell c (bindC (fun x => scope.names.lookup x) binds (fun _ => none) y) := hcell
  have hab' : ∀ y c, (y, c) ∈ cellsFrom (h.objs.size + 1) scope.names [] → h.objs.size < c := hab
  clear hcell hab hns hap
  generalize hcs : cellsFrom (h.objs.size + 1) scope.names [] = cs at hcell' hab'
  have hkp' : ∀ a o, h.get? a = some o → h₁.get? a = some o := hkp
  classical
  refine k _ (callEnvC (fnOf name qual params body scope dV kV doc pm an cdv ct) h.objs.size f) h.objs.size h₁ t₁ (fun a => if a ∈ cs.map (·.2) then h₁.get? a else g a) C.deeper ⟨rfl, rfl, rfl, rfl, by rw [hcs]; exact hcs, hk⟩ ?_ ?_ ?_ _
  · intro a o q
    split
    · exact hkp' a o (P.gk a o q)
    · exact q
  · have big : ∀ a ∈ cs.map (·.2), h.objs.size < a := fun a ha => by
      obtain ⟨p, hp, rfl⟩ := List.mem_map.mp ha
      exact hab' p.1 p.2 hp
    have fresh : ∀ a, h.objs.size ≤ a → h.get? a = none := fun a ha => by
      cases q : h.get? a with
      | none => rfl
      | some o => exact absurd (Heap.lt_size q) (Nat.not_lt.mpr ha)
    refine ⟨⟨_, hns', hl⟩, ?_, P.base, ?_, ?_, ?_, P.nd, ?_, .inr (fresh _ (Nat.le_refl _)), P.bl, fun a o q _ => hkp' a o q, fun a o q => ⟨o, hkp' a o q⟩⟩
    · intro a o q
      split at q
      · exact q
      · exact hkp' a o (P.gk a o q)
    · intro a o q
      split
      · exact hkp' a o (P.gk a o q)
      · exact q
    · intro a o q
      split at q
      · rename_i hm
        exact .inr (fresh a (Nat.le_of_lt (big a hm)))
      · exact .inl q
    · intro p hp
      have A := P.own p hp
      have lt := Heap.lt_size A.1
      refine ⟨hkp' _ _ A.1, ?_, Nat.ne_of_lt lt, .inl (List.mem_map_of_mem hp)⟩
      rw [if_neg fun hm => Nat.lt_irrefl _ (Nat.lt_trans lt (big _ hm))]
      exact A.2
    · rw [if_neg fun hm => Nat.lt_irrefl _ (big _ hm)]
      cases q : g h.objs.size with
      | none => rfl
      | some o => exact absurd (Heap.lt_size (P.gk _ _ q)) (Nat.lt_irrefl _)
  · intro y c v hc hv
    rw [hcs] at hc
    obtain ⟨o, ho', hd⟩ := hcell' y c hc
    refine ⟨o, ?_, by rw [hd, hv]⟩
    show (if c ∈ cs.map (·.2) then h₁.get? c else g c) = some o
    rw [if_pos (List.mem_map.mpr ⟨(y, c), mem_of_lookup hc, rfl⟩)]
    exact ho'
end
/-! plain data: ints, strs, tuples that never change -/
mutual
inductive DataAt (g : GH) : Value → PyData → Prop
  | int (i t) : DataAt g (.int i t) (.int i)
  | str (x t) : DataAt g (.str x t) (.str x)
  | bool (x) : DataAt g (.bool x) (.bool x)
  | tuple {a vs ds} : g a = some (tupO vs) → DatasAt g vs ds → DataAt g (.ref a) (.tuple ds)
inductive DatasAt (g : GH) : List Value → List PyData → Prop
  | nil : DatasAt g [] []
  | cons {v vs d ds} : DataAt g v d → DatasAt g vs ds → DatasAt g (v :: vs) (d :: ds)
end
theorem DataAt.mono {g g' : GH} (hg : ∀ a o, g a = some o → g' a = some o) {v d} (h : DataAt g v d) : DataAt g' v d :=
  DataAt.rec (motive_1 := fun v d _ => DataAt g' v d) (motive_2 := fun vs ds _ => DatasAt g' vs ds) .int .str .bool (fun q _ r => .tuple (hg _ _ q) r) .nil (fun _ _ a b => .cons a b) h
theorem DatasAt.mono {g g' : GH} (hg : ∀ a o, g a = some o → g' a = some o) {v d} (h : DatasAt g v d) : DatasAt g' v d :=
  DatasAt.rec (motive_1 := fun v d _ => DataAt g' v d) (motive_2 := fun vs ds _ => DatasAt g' vs ds) .int .str .bool (fun q _ r => .tuple (hg _ _ q) r) .nil (fun _ _ a b => .cons a b) h
theorem DataAt.reads {g : GH} {h : Heap} (hg : ∀ a o, g a = some o → h.get? a = some o) {v d} (H : DataAt g v d) : ∃ as, Reads h v d as :=
  DataAt.rec (motive_1 := fun v d _ => ∃ as, Reads h v d as) (motive_2 := fun vs ds _ => ∃ as, ReadsAll h vs ds as) (fun i t => ⟨_, .int i t⟩) (fun x t => ⟨_, .str x t⟩) (fun x => ⟨_, .bool x⟩)
    (fun q _ ⟨as, hr⟩ => ⟨_, .tuple (hg _ _ q) rfl rfl hr⟩) ⟨_, .nil⟩ (fun _ _ ⟨_, h1⟩ ⟨_, h2⟩ => ⟨_, .cons h1 h2⟩) H
theorem DatasAt.reads {g : GH} {h : Heap} (hg : ∀ a o, g a = some o → h.get? a = some o) {v d} (H : DatasAt g v d) : ∃ as, ReadsAll h v d as :=
  DatasAt.rec (motive_1 := fun v d _ => ∃ as, Reads h v d as) (motive_2 := fun vs ds _ => ∃ as, ReadsAll h vs ds as) (fun i t => ⟨_, .int i t⟩) (fun x t => ⟨_, .str x t⟩) (fun x => ⟨_, .bool x⟩)
    (fun q _ ⟨as, hr⟩ => ⟨_, .tuple (hg _ _ q) rfl rfl hr⟩) ⟨_, .nil⟩ (fun _ _ ⟨_, h1⟩ ⟨_, h2⟩ => ⟨_, .cons h1 h2⟩) H
@[elab_as_elim] theorem DatasAt.uncons {g : GH} {ys : List Value} {d : PyData} {ds : List PyData} {C : List Value → Prop} (h : DatasAt g ys (d :: ds)) (c : ∀ y zs, DataAt g y d → DatasAt g zs ds → C (y :: zs)) : C ys := by
  cases h with | cons a b => exact c _ _ a b
@[elab_as_elim] theorem DatasAt.unnil {g : GH} {ys : List Value} {C : List Value → Prop} (h : DatasAt g ys []) (c : C []) : C ys := by
  cases h; exact c
@[elab_as_elim] theorem DataAt.unint {g : GH} {v : Value} {i : Int} {C : Value → Prop} (h : DataAt g v (.int i)) (c : ∀ t, C (.int i t)) : C v := by
  cases h; exact c _
@[elab_as_elim] theorem DataAt.untup {g : GH} {v : Value} {ds : List PyData} {C : Value → Prop} (h : DataAt g v (.tuple ds)) (c : ∀ a vs, g a = some (tupO vs) → DatasAt g vs ds → C (.ref a)) : C v := by
  cases h with | tuple a b => exact c _ _ a b
theorem DatasAt.ind {g : GH} {C : List Value → List PyData → Prop} (c0 : C [] []) (c1 : ∀ {v vs d ds}, DataAt g v d → C vs ds → C (v :: vs) (d :: ds)) {vs ds} (h : DatasAt g vs ds) : C vs ds :=
  DatasAt.rec (motive_1 := fun _ _ _ => True) (motive_2 := fun vs ds _ => C vs ds) (fun _ _ => trivial) (fun _ _ => trivial) (fun _ => trivial) (fun _ _ _ => trivial) c0 (fun a _ _ b => c1 a b) h
theorem DatasAt.length {g : GH} {vs ds} (h : DatasAt g vs ds) : vs.length = ds.length := DatasAt.ind (C := fun vs ds => vs.length = ds.length) rfl (fun _ e => congrArg (· + 1) e) h
theorem DatasAt.get {g : GH} : ∀ {vs ds} {i : Nat} {d : PyData}, DatasAt g vs ds → ds[i]? = some d → ∃ v, vs[i]? = some v ∧ DataAt g v d
  | _, _, 0, _, .cons (v := v) x _, q => by cases q; exact ⟨v, rfl, x⟩
  | _, _, i + 1, _, .cons _ r, q => DatasAt.get (i := i) r (by simpa using q)
theorem DatasAt.append {g : GH} {vs ds ws es} (h : DatasAt g vs ds) (q : DatasAt g ws es) : DatasAt g (vs ++ ws) (ds ++ es) := DatasAt.ind (C := fun vs ds => DatasAt g (vs ++ ws) (ds ++ es)) q (fun a b => .cons a b) h
/-! plain ints -/
noncomputable def Ints : List Value → List Int → Prop
  | [], [] => True
  | v :: vs, i :: is => (∃ t, v = .int i t) ∧ Ints vs is
  | _, _ => False
theorem Ints.length : ∀ {vs is}, Ints vs is → vs.length = is.length
  | [], [], _ => rfl
  | _ :: vs, _ :: is, h => by rw [List.length_cons, List.length_cons, Ints.length h.2]
theorem Ints.get : ∀ {vs is} {i : Nat} {x : Int}, Ints vs is → is[i]? = some x → ∃ t, vs[i]? = some (.int x t)
  | v :: _, x :: _, 0, _, h, q => by
    cases q
    obtain ⟨t, rfl⟩ := h.1
    exact ⟨t, rfl⟩
  | _ :: vs, _ :: is, i + 1, x, h, q => Ints.get (i := i) h.2 (by simpa using q)
  | [], [], _, _, _, q => by simp at q
theorem Ints.append : ∀ {vs is ws js}, Ints vs is → Ints ws js → Ints (vs ++ ws) (is ++ js)
  | [], [], _, _, _, q => q
  | _ :: vs, _ :: is, _, _, h, q => ⟨h.1, Ints.append h.2 q⟩
theorem Ints.data {g : GH} : ∀ {vs is}, Ints vs is → DatasAt g vs (is.map .int)
  | [], [], _ => .nil
  | v :: vs, i :: is, h => by
    obtain ⟨t, rfl⟩ := h.1
    exact .cons (.int _ _) (Ints.data h.2)
theorem Ints.of_data {g : GH} : ∀ {vs is}, DatasAt g vs (is.map .int) → Ints vs is
  | _, [], h => by cases h; trivial
  | _, _ :: _, h => by
    cases h with
    | cons a r => cases a; exact ⟨⟨_, rfl⟩, Ints.of_data r⟩
theorem Ints.set : ∀ {vs is} {x : Int} {t : Tok} (i : Nat), Ints vs is → Ints (vs.set i (.int x t)) (is.set i x)
  | [], [], _, _, _, _ => trivial
  | _ :: vs, _ :: is, x, t, 0, h => ⟨⟨t, rfl⟩, h.2⟩
  | _ :: vs, _ :: is, x, t, i + 1, h => ⟨h.1, Ints.set i h.2⟩
theorem canLayAll_ints : ∀ is : List Int, PyData.canLayAll0 (is.map .int) = true
  | [] => rfl
  | i :: is => by simp [PyData.canLayAll0, PyData.canLay0, canLayAll_ints is]
theorem depthAll_ints : ∀ is : List Int, PyData.depthAll (is.map .int) ≤ 1
  | [] => by simp [PyData.depthAll]
  | i :: is => by have := depthAll_ints is; simp only [List.map_cons, PyData.depthAll, PyData.depth]; lia
section
variable {prog : Program} {w : World} {A : Around} {E : Value → Shared → Prop} {gs : Array GenState} {dr : Drawn} {tk : Tok} {os : OsState}
variable {b : Heap} {e : Ent} {g : GH} {L : Addr} {h : Heap} {l : List (Str × Value)} {n n' : List (Addr × Obj)} {K : Frag}
theorem r_eq {Q : Value → Shared → Prop} {d u : Nat} {x y : Value} {dx dy : PyData} {as bs : List Addr} (C : Cx A d u) (hx : Reads h x dx as) (hy : Reads h y dy bs) (lx : dx.canLay0 = true) (ly : dy.canLay0 = true) (hu : min dx.depth dy.depth ≤ u)
    (k : Q (.bool (PyData.eqv dx dy)) ⟨h, gs, dr, tk, os⟩) : wpAny (model prog w) A (compareOp .Eq x y) Q E ⟨h, gs, dr, tk, os⟩ :=
  SeqAt.compareEq_reads hx hy lx ly (Nat.lt_of_le_of_lt (Nat.add_le_add_left hu _) C.uni) k
theorem r_ne {Q : Value → Shared → Prop} {d u : Nat} {x y : Value} {dx dy : PyData} {as bs : List Addr} (C : Cx A d u) (hx : Reads h x dx as) (hy : Reads h y dy bs) (lx : dx.canLay0 = true) (ly : dy.canLay0 = true) (hu : min dx.depth dy.depth ≤ u)
    (k : Q (.bool (!PyData.eqv dx dy)) ⟨h, gs, dr, tk, os⟩) : wpAny (model prog w) A (compareOp .NotEq x y) Q E ⟨h, gs, dr, tk, os⟩ :=
  SeqAt.compareNe_reads hx hy lx ly (Nat.lt_of_le_of_lt (Nat.add_le_add_left hu _) C.uni) k
theorem reads_ints {a : Addr} {vs : List Value} {is : List Int} (hL : h.IsList a vs.toArray) (hi : Ints vs is) : ∃ as, Reads h (.ref a) (.list (is.map .int)) as := by
  obtain ⟨o, ho, hc, k, hd⟩ := hL
  obtain ⟨as, hr⟩ := DatasAt.reads (g := fun _ => none) (h := h) (fun _ _ q => by cases q) (Ints.data hi)
  exact ⟨_, .list ho hc hd (by simpa using hr)⟩
theorem eqv_nil (is : List Int) : PyData.eqv (.list (is.map .int)) (.list []) = is.isEmpty := by
  cases is <;> simp [PyData.eqv, PyData.eqvAll]
theorem r_ne_nil {Q : Value → Shared → Prop} {d u : Nat} {a c : Addr} {vs : List Value} {is : List Int} (C : Cx A d u) (hL : h.IsList a vs.toArray) (hi : Ints vs is) (hc : h.IsList c ([] : List Value).toArray) (hu : 1 ≤ u)
    (k : Q (.bool (!is.isEmpty)) ⟨h, gs, dr, tk, os⟩) : wpAny (model prog w) A (compareOp .NotEq (.ref a) (.ref c)) Q E ⟨h, gs, dr, tk, os⟩ := by
  obtain ⟨as, hr⟩ := reads_ints hL hi
  obtain ⟨bs, hs⟩ := reads_ints (vs := []) (is := []) hc trivial
  refine r_ne C hr hs (by simp [PyData.canLay0, canLayAll_ints]) (by simp [PyData.canLay0, PyData.canLayAll0]) ?_ (by rw [show ([] : List Int).map PyData.int = [] from rfl, eqv_nil]; exact k)
  have : PyData.depth (.list (([] : List Int).map .int)) ≤ 1 := by simp [PyData.depth, PyData.depthAll]
  lia
theorem r_eq_nil {Q : Value → Shared → Prop} {d u : Nat} {a c : Addr} {vs : List Value} {is : List Int} (C : Cx A d u) (hL : h.IsList a vs.toArray) (hi : Ints vs is) (hc : h.IsList c ([] : List Value).toArray) (hu : 1 ≤ u)
    (k : Q (.bool is.isEmpty) ⟨h, gs, dr, tk, os⟩) : wpAny (model prog w) A (compareOp .Eq (.ref a) (.ref c)) Q E ⟨h, gs, dr, tk, os⟩ := by
  obtain ⟨as, hr⟩ := reads_ints hL hi
  obtain ⟨bs, hs⟩ := reads_ints (vs := []) (is := []) hc trivial
  refine r_eq C hr hs (by simp [PyData.canLay0, canLayAll_ints]) (by simp [PyData.canLay0, PyData.canLayAll0]) ?_ (by rw [show ([] : List Int).map PyData.int = [] from rfl, eqv_nil]; exact k)
  have : PyData.depth (.list (([] : List Int).map .int)) ≤ 1 := by simp [PyData.depth, PyData.depthAll]
  lia
end
section
variable {prog : Program} {w : World} {A : Around} {E : Value → Shared → Prop} {gs : Array GenState} {dr : Drawn} {tk : Tok} {os : OsState}
variable {b : Heap} {e : Ent} {g : GH} {L : Addr} {h h' : Heap} {l : List (Str × Value)} {n n' : List (Addr × Obj)} {K : Frag} {env : Env} {sc : Scope} {cl : List (Str × Addr)}
/-- a while's turn is over -/
inductive WNext {σ : Type} (b : Heap) (e : Ent) (L : Addr) (gs : Array GenState) (dr : Drawn) (os : OsState) (J : Nat → σ → GH → Prop) (lk : σ → List (Str × Value)) (nk : σ → List (Addr × Obj)) (k : Nat) (s : Shared) : Prop
  | mk (k' : Nat) (x : σ) (g : GH) (h : Heap) (tk : Tok) (lt : k' < k) (j : J k' x g) (S : St b e g L h (lk x) (nk x)) (e1 : s = ⟨h, gs, dr, tk, os⟩) : WNext b e L gs dr os J lk nk k s
noncomputable def WEnd {σ : Type} (b : Heap) (e : Ent) (L : Addr) (gs : Array GenState) (dr : Drawn) (os : OsState) (J : Nat → σ → GH → Prop) (lk : σ → List (Str × Value)) (nk : σ → List (Addr × Obj)) (k : Nat) (Q : Flow → Shared → Prop) (f : Flow) (s : Shared) : Prop :=
  match f with
  | .next | .cont => WNext b e L gs dr os J lk nk k s
  | .brk => Q .next s
  | .ret v => Q (.ret v) s
theorem r_while {σ : Type} {test : Expr} {body orelse : List Stmt} {pos : Pos} {Q : Flow → Shared → Prop} (J : Nat → σ → GH → Prop) (lk : σ → List (Str × Value)) (nk : σ → List (Addr × Obj)) {k0 : Nat} {x0 : σ}
    (S : St b e g L h (lk x0) (nk x0)) (hj : J k0 x0 g)
    (turn : ∀ k x g h tk E' R, Cont R (WEnd b e L gs dr os J lk nk k Q) → J k x g → St b e g L h (lk x) (nk x) → wpAny (model prog w) A (isTrue test env (eval test env)) (fun c s₂ =>
      if c = true then wpAny (model prog w) A (execs body env) R E' s₂ else wpAny (model prog w) A (execs orelse env) Q E' s₂) E' ⟨h, gs, dr, tk, os⟩) :
    wpAny (model prog w) A (exec (.While test body orelse pos) env) Q E ⟨h, gs, dr, tk, os⟩ := by
  refine wpAny_While (codeAny_whileLoop (fun k s => ∃ x g h tk, J k x g ∧ St b e g L h (lk x) (nk x) ∧ s = ⟨h, gs, dr, tk, os⟩) ?_ k0 ⟨x0, g, h, tk, hj, S, rfl⟩)
  rintro k _ ⟨x, g1, h1, tk1, hj1, S1, rfl⟩
  refine wpAny_mono (turn k x g1 h1 tk1 _ _ (fun _ _ x => x) hj1 S1) (fun c s₂ hc => ?_) fun _ _ y => y
  cases c with
  | false =>
    simp only [Bool.false_eq_true, if_false] at hc ⊢
    exact hc
  | true =>
    simp only [if_true] at hc ⊢
    refine wpAny_mono hc (fun f s₃ hf => ?_) fun _ _ y => y
    cases f with
    | next => obtain ⟨k', x', g', h', tk', lt, hj', S', rfl⟩ := hf; exact ⟨k', lt, x', g', h', tk', hj', S', rfl⟩
    | cont => obtain ⟨k', x', g', h', tk', lt, hj', S', rfl⟩ := hf; exact ⟨k', lt, x', g', h', tk', hj', S', rfl⟩
    | brk => exact hf
    | ret v => exact hf
/-- a for's turn is over -/
inductive FNext {σ : Type} (b : Heap) (e : Ent) (L : Addr) (gs : Array GenState) (dr : Drawn) (os : OsState) (J : σ → GH → Prop) (lk : σ → List (Str × Value)) (nk : σ → List (Addr × Obj)) (s : Shared) : Prop
  | mk (x : σ) (g : GH) (h : Heap) (tk : Tok) (j : J x g) (S : St b e g L h (lk x) (nk x)) (e1 : s = ⟨h, gs, dr, tk, os⟩) : FNext b e L gs dr os J lk nk s
inductive FOut (b : Heap) (e0 e : Ent) (L : Addr) (gs : Array GenState) (dr : Drawn) (os : OsState) (P : Prop) (s : Shared) : Prop
  | mk (g : GH) (h : Heap) (tk : Tok) (l : List (Str × Value)) (n : List (Addr × Obj)) (S : St b e g L h l n) (e1 : s = ⟨h, gs, dr, tk, os⟩) (k : St b e0 g L h l n → P) : FOut b e0 e L gs dr os P s
noncomputable def FEnd {σ : Type} (b : Heap) (e0 e : Ent) (L : Addr) (gs : Array GenState) (dr : Drawn) (os : OsState) (J : σ → GH → Prop) (lk : σ → List (Str × Value)) (nk : σ → List (Addr × Obj)) (Q : Flow → Shared → Prop) (f : Flow) (s : Shared) : Prop :=
  match f with
  | .next | .cont => FNext b e L gs dr os J lk nk s
  | .brk => FOut b e0 e L gs dr os (Q .next s) s
  | .ret v => FOut b e0 e L gs dr os (Q (.ret v) s) s
/-- between two turns of a for -/
inductive FInv {σ : Type} (b : Heap) (e : Ent) (g : GH) (L : Addr) (gs : Array GenState) (dr : Drawn) (os : OsState) (J : Nat → σ → GH → Prop) (lk : σ → List (Str × Value)) (nk : σ → List (Addr × Obj)) (fp : List Addr) (N : Nat) (Si : Nat → Heap → Prop) (G : GH → Prop) (k : Nat) (s : Shared) : Prop
  | mk (i : Nat) (y : σ) (g' : GH) (h' : Heap) (tk' : Tok) (e0 : k = N + 1 - i) (hi : i ≤ N) (j : J i y g') (sub : ∀ a o, g a = some o → g' a = some o) (S : St b e g' L h' (lk y) (nk y)) (st : Si i h') (hg : G g') (hfp : ∀ c ∈ fp, (∃ o, h'.get? c = some o) ∧ c ≠ L ∧ c ∉ (nk y).map (·.1)) (e1 : s = ⟨h', gs, dr, tk', os⟩) : FInv b e g L gs dr os J lk nk fp N Si G k s
/-- a for over an iterator of the library's kind, one name -/
theorem r_forW {σ : Type} {x : Str} {px : Pos} {body : List Stmt} {Q : Flow → Shared → Prop} {I : Addr} {fp : List Addr} {N : Nat} {P : Nat → Value → Prop} {Si : Nat → Heap → Prop}
    (J : Nat → σ → GH → Prop) (lk : σ → List (Str × Value)) (nk : σ → List (Addr × Obj)) {x0 : σ} (C : En env sc cl L) (hx : sc.names.lookup x = some .local) (Wk : Walks prog w A I fp [I] N P Si)
    (S : St b e g L h (lk x0) (nk x0)) (hfp : ∀ c ∈ fp, (∃ o, h.get? c = some o) ∧ c ≠ L ∧ c ∉ (nk x0).map (·.1)) (hg : g I = none) (hI0 : e.h.get? I = none) (hlive : ∀ i h, Si i h → ∃ o, h.get? I = some o) (hst : Si 0 h) (hj : J 0 x0 g)
    (turn : ∀ i v y g' h' tk' e' E' R, Cont R (FEnd b e e' L gs dr os (J (i + 1)) lk nk Q) → i < N → P i v → J i y g' → (∀ a o, g a = some o → g' a = some o) → St b e' g' L h' ((x, v) :: lk y) (nk y) →
      wpAny (model prog w) A (execs body env) R E' ⟨h', gs, dr, tk', os⟩)
    (done : ∀ y g' h' tk', J N y g' → (∀ a o, g a = some o → g' a = some o) → St b e g' L h' (lk y) (nk y) → Q .next ⟨h', gs, dr, tk', os⟩) :
    codeAny (model prog w) A (.forLoop (.Name x px) (.ref I) body [] env) (fun r s' => match r with | .ok f => Q f s' | .error e => cameBackBy (model prog w) A env E e s') ⟨h, gs, dr, tk, os⟩ := by
  have hIfp : I ∈ fp := Wk.sub I (.head _)
  refine codeAny_forLoop (FInv b e g L gs dr os J lk nk fp N Si fun g' => g' I = none) ?_ (N + 1)
    ⟨0, x0, g, h, tk, rfl, Nat.zero_le _, hj, fun _ _ q => q, S, hst, hg, hfp, rfl⟩
  rintro k _ ⟨i, y, g', h', tk', rfl, hi, hj', hsub, S', hst', hg', hfp', rfl⟩
  have hg' : g' I = none := hg'
  have hI := hfp' I hIfp
  by_cases lt : i < N
  · refine Wk.item i _ _ _ lt hst' fun v h1 tk1 hP hst1 hk1 => ?_
    have hk1' : ∀ a o, a ≠ I → h'.get? a = some o → h1.get? a = some o := fun a o ne q => hk1 a o (by simpa using ne) q
    have S1 : St b e g' L h1 (lk y) (nk y) := S'.off hk1' hg' hI.2.1 hI.2.2 hI0
    have hlo := C.lo
    subst hlo
    obtain ⟨m, hn, hm⟩ := S1.ns
    refine wpAny_assign_Name (wpAny_storeName_local (C.kindOf hx) hn (fun h2 hn2 hs2 => ?_) (by rw [C.kind]; rfl))
    have S2 : St b e g' env.locals h2 ((x, v) :: lk y) (nk y) := S1.locals hn2 hs2 (lookup_put hm)
    have live2 : ∀ c ∈ fp, ∃ o, h2.get? c = some o := fun c hc => by
      obtain ⟨⟨o, ho⟩, hcL, _⟩ := hfp' c hc
      by_cases z : c = I
      · subst z
        obtain ⟨o, q⟩ := hlive _ _ hst1
        exact ⟨o, hs2.extBut c o hcL q⟩
      · exact ⟨o, hs2.extBut c o hcL (hk1' c o z ho)⟩
    have off2 : ∀ c ∈ fp, c ∉ env.locals :: (nk y).map (·.1) := fun c hc q => by
      rcases List.mem_cons.mp q with q | q
      · exact (hfp' c hc).2.1 q
      · exact (hfp' c hc).2.2 q
    have hst2 : Si (i + 1) h2 := Wk.frame _ _ _ hst1 fun c hc o q => hs2.extBut c o (hfp' c hc).2.1 q
    refine wpAny_mono (turn i v y g' h2 _ _ _ _ (fun _ _ x => x) lt hP hj' hsub S2.snap) (fun f s3 hf => ?_) fun _ _ y => y
    have step : ∀ {y3 g3 h3 tk3}, J (i + 1) y3 g3 → St b ⟨h2, g', env.locals :: (nk y).map (·.1)⟩ g3 env.locals h3 (lk y3) (nk y3) → s3 = ⟨h3, gs, dr, tk3, os⟩ →
        ∃ m, m < N + 1 - i ∧ FInv b e g env.locals gs dr os J lk nk fp N Si (fun g' => g' I = none) m s3 := by
      intro y3 g3 h3 tk3 hj3 T e3
      have kept : ∀ c ∈ fp, ∀ o, h2.get? c = some o → h3.get? c = some o := fun c hc o q => T.fr c o q (off2 c hc)
      refine ⟨N + 1 - (i + 1), by lia, i + 1, y3, g3, h3, tk3, rfl, lt, hj3, fun a o q => T.gsub a o (hsub a o q), S2.trans T, Wk.frame _ _ _ hst2 kept, ?_, fun c hc => ?_, e3⟩
      · show g3 I = none
        cases q : g3 I with
        | none => rfl
        | some o =>
          rcases T.gnew I o q with r | r
          · have r : g' I = some o := r
            rw [hg'] at r; cases r
          · obtain ⟨o', q'⟩ := live2 I hIfp
            have r : h2.get? I = none := r
            rw [r] at q'; cases q'
      · obtain ⟨o, q⟩ := live2 c hc
        refine ⟨⟨o, kept c hc o q⟩, (hfp' c hc).2.1, fun z => ?_⟩
        obtain ⟨p, hp, e4⟩ := List.mem_map.mp z
        rcases (T.own p hp).2.2.2 with r | r
        · exact off2 c hc (e4 ▸ r)
        · have r : h2.get? p.1 = none := r
          rw [e4, q] at r; cases r
    cases f with
    | next => obtain ⟨y3, g3, h3, tk3, hj3, T, e3⟩ := hf; exact step hj3 T e3
    | cont => obtain ⟨y3, g3, h3, tk3, hj3, T, e3⟩ := hf; exact step hj3 T e3
    | brk => obtain ⟨g3, h3, tk3, l3, n3, T, _, q⟩ := hf; exact q (S2.trans T)
    | ret v => obtain ⟨g3, h3, tk3, l3, n3, T, _, q⟩ := hf; exact q (S2.trans T)
  · have hiN : i = N := by lia
    subst hiN
    refine Wk.done _ _ _ hst' fun h1 tk1 hk1 => ?_
    have hk1' : ∀ a o, a ≠ I → h'.get? a = some o → h1.get? a = some o := fun a o ne q => hk1 a o (by simpa using ne) q
    exact wpAny_execs_nil (done y g' h1 tk1 hj' hsub (S'.off hk1' hg' hI.2.1 hI.2.2 hI0))
theorem r_for_list {σ : Type} {x : Str} {px : Pos} {body : List Stmt} {Q : Flow → Shared → Prop} {d u : Nat} {a : Addr} {vs : List Value} {kk : Nat} (J : Nat → σ → GH → Prop) (lk : σ → List (Str × Value)) (nk : σ → List (Addr × Obj)) {x0 : σ}
    (Ca : Cx A d u) (C : En env sc cl L) (hx : sc.names.lookup x = some .local) (S : St b e g L h (lk x0) (nk x0)) (hL : g a = some (listO vs kk)) (hj : J 0 x0 g)
    (turn : ∀ i v y g' h' tk' e' E' R, Cont R (FEnd b e e' L gs dr os (J (i + 1)) lk nk Q) → vs[i]? = some v → J i y g' → (∀ a o, g a = some o → g' a = some o) → St b e' g' L h' ((x, v) :: lk y) (nk y) →
      wpAny (model prog w) A (execs body env) R E' ⟨h', gs, dr, tk', os⟩)
    (done : ∀ y g' h' tk', J vs.length y g' → (∀ a o, g a = some o → g' a = some o) → St b e g' L h' (lk y) (nk y) → Q .next ⟨h', gs, dr, tk', os⟩) :
    wpAny (model prog w) A (pyIter (.ref a)) (fun it s₂ => codeAny (model prog w) A (.forLoop (.Name x px) it body [] env) (fun r s' => match r with | .ok f => Q f s' | .error e => cameBackBy (model prog w) A env E e s') s₂) E ⟨h, gs, dr, tk, os⟩ := by
  have hl := S.isListG hL
  refine wpAny_pyIter_list (s := ⟨h, gs, dr, tk, os⟩) hl ?_
  have hne : a ≠ h.objs.size := Nat.ne_of_lt (S.lt hL)
  have W := Walks.list (prog := prog) (w := w) Ca.hand h.objs.size a hne vs.toArray
  have S1 := S.push { cls := .type "list_iterator", data := .fields #[.ref a, .int 0 0] } rfl
  have S2 := S1.pick (nk x0) (fun p hp => .tail _ hp) S.nd
  have e8 : vs.toArray.size = vs.length := by simp
  rw [e8] at W
  refine r_forW J lk nk C hx W S2 ?_ S.gfresh S.efresh (fun i h' q => ?_) ⟨⟨_, Heap.get?_push_size _ rfl, rfl, rfl⟩, hl.push _⟩ hj (fun i v y g' h' tk' e' E' R hR lt hP => turn i v y g' h' tk' e' E' R hR (by simpa using hP)) done
  · intro c hc
    rcases List.mem_cons.mp hc with rfl | hc
    · exact ⟨⟨_, Heap.get?_push_size _ rfl⟩, Nat.ne_of_gt S.Llt, fun z => by
        obtain ⟨p, hp, e4⟩ := List.mem_map.mp z
        have := Heap.lt_size (S.own p hp).1
        rw [e4] at this
        exact Nat.lt_irrefl _ this⟩
    · obtain rfl := List.mem_singleton.mp hc
      refine ⟨⟨_, Heap.get?_push_of_some _ (S.gk _ _ hL)⟩, fun z => ?_, fun z => ?_⟩
      · have := S.lg; rw [← z, hL] at this; cases this
      · obtain ⟨p, hp, e4⟩ := List.mem_map.mp z
        have := (S.own p hp).2.1
        rw [e4, hL] at this; cases this
  · obtain ⟨o, ho, _⟩ := q.1
    exact ⟨o, ho⟩
theorem r_for_range {σ : Type} {x : Str} {px : Pos} {body : List Stmt} {Q : Flow → Shared → Prop} {d u : Nat} {r : Addr} {N : Nat} {ta tb tc : Tok} (J : Nat → σ → GH → Prop) (lk : σ → List (Str × Value)) (nk : σ → List (Addr × Obj)) {x0 : σ}
    (Ca : Cx A d u) (C : En env sc cl L) (hx : sc.names.lookup x = some .local) (S : St b e g L h (lk x0) (nk x0)) (hr : IsRange h r 0 N 1 ta tb tc) (hN : N ≤ 2 ^ 24) (hj : J 0 x0 g)
    (turn : ∀ (i : Nat) t y g' h' tk' e' E' R, Cont R (FEnd b e e' L gs dr os (J (i + 1)) lk nk Q) → i < N → J i y g' → (∀ a o, g a = some o → g' a = some o) → St b e' g' L h' ((x, .int i t) :: lk y) (nk y) →
      wpAny (model prog w) A (execs body env) R E' ⟨h', gs, dr, tk', os⟩)
    (done : ∀ y g' h' tk', J N y g' → (∀ a o, g a = some o → g' a = some o) → St b e g' L h' (lk y) (nk y) → Q .next ⟨h', gs, dr, tk', os⟩) :
    wpAny (model prog w) A (pyIter (.ref r)) (fun it s₂ => codeAny (model prog w) A (.forLoop (.Name x px) it body [] env) (fun r s' => match r with | .ok f => Q f s' | .error e => cameBackBy (model prog w) A env E e s') s₂) E ⟨h, gs, dr, tk, os⟩ := by
  have hsz : Builtin.Range.rangeSize 0 (N : Int) 1 = N := by
    unfold Builtin.Range.rangeSize
    simp
    lia
  refine wpAny_pyIter_range (s := ⟨h, gs, dr, tk, os⟩) hr ?_ ?_
  · unfold Builtin.Range.small
    rw [hsz]
    have q : ∀ i : Int, 0 ≤ i → i < 2 ^ 63 → Builtin.Range.rangeFitsLong i = true := fun i h0 h1 => by
      unfold Builtin.Range.rangeFitsLong
      rw [decide_eq_true (show -(2 ^ 63) ≤ i by lia), decide_eq_true h1]; rfl
    rw [q 0 (by first | decide | lia) (by first | decide | lia), q N (by first | decide | lia) (by first | decide | lia), q 1 (by first | decide | lia) (by first | decide | lia), if_pos (by first | decide | lia), q _ (by first | decide | lia) (by first | decide | lia)]
    simp
  have W := Walks.range (prog := prog) (w := w) Ca.hand h.objs.size 0 1 N
  have S1 := S.push { cls := .type "range_iterator", data := .fields #[rawInt 0, rawInt (Builtin.Range.rangeSize 0 N 1), rawInt 1] } rfl
  have S2 := S1.pick (nk x0) (fun p hp => .tail _ hp) S.nd
  refine r_forW J lk nk C hx W S2 ?_ S.gfresh S.efresh (fun i h' q => ?_) ?_ hj (fun i v y g' h' tk' e' E' R hR lt hP hj' hs S' => ?_) done
  · intro c hc
    obtain rfl := List.mem_singleton.mp hc
    exact ⟨⟨_, Heap.get?_push_size _ rfl⟩, Nat.ne_of_gt S.Llt, fun z => by
      obtain ⟨p, hp, e4⟩ := List.mem_map.mp z
      have := Heap.lt_size (S.own p hp).1
      rw [e4] at this
      exact Nat.lt_irrefl _ this⟩
  · exact ⟨_, q⟩
  · show (h.push _).get? h.objs.size = _
    rw [Heap.get?_push_size _ rfl, hsz]
    simp [rawInt]
  · obtain ⟨t, rfl⟩ := hP
    have : (0 : Int) + (i : Int) * 1 = i := by lia
    rw [this] at S'
    exact turn i t y g' h' tk' e' _ _ hR lt hj' hs S'
end
section
open Builtin Builtin.ObjectAttr Builtin.Getset_descriptor
/-- an object of an own class that never changes again -/
noncomputable def GInst (g : GH) (x C : Addr) (es : List DictEntry) (k : Nat) : Prop := ∃ dx, g x = some (instObj C dx) ∧ g dx = some (dictOf es k)
theorem GInst.mono {g g' : GH} {x C : Addr} {es : List DictEntry} {k : Nat} (I : GInst g x C es k) (hg : ∀ a o, g a = some o → g' a = some o) : GInst g' x C es k := let ⟨dx, a, d⟩ := I; ⟨dx, hg _ _ a, hg _ _ d⟩
section
variable {prog : Program} {w : World} {A : Around} {E : Value → Shared → Prop} {gs : Array GenState} {dr : Drawn} {tk : Tok} {os : OsState}
variable {b : Heap} {e : Ent} {g g' : GH} {L : Addr} {h h' : Heap} {l : List (Str × Value)} {n n1 n2 n' : List (Addr × Obj)} {K : Frag} {env : Env} {sc : Scope} {cl : List (Str × Addr)}
theorem r_code {d u : Nat} {R : Result → Shared → Prop} {f : Addr} {name qual : Str} {params : Arguments} {body : List Stmt} {scope : Scope} {dV kV doc pm cdv ct oc : Value} {an od : Option Addr} {osl : Array (Option Value)} {args : List Value} {binds : List (Str × Value)}
    (W : Wo K b) (C : Cx A (d + 1) (u + 3)) (P : Pre b g h n1) (ho : K.lookup f = some ⟨oc, od, .func (fnOf name qual params body scope dV kV doc pm an cdv ct), osl⟩) (hcd : codeIn K cdv qual = true)
    (hbind : bindArgs (fnOf name qual params body scope dV kV doc pm an cdv ct) ⟨args, []⟩ = pure binds) (hloc : (binds.all fun x => decide (scope.names.lookup x.1 = some .local)) = true)
    (hl : Knows l fun x => binds.reverse.lookup x)
    (k : ∀ A' env L h' tk', Cx A' d u → En env scope [] L → St b ⟨h, g, n1.map (·.1)⟩ g L h' l n1 → ∀ E', wpAny (model prog w) A' (execs body env) (Done fun v s' => R (.ok (.ret v)) s') E' ⟨h', gs, dr, tk', os⟩)
    (hcell : ∀ x ∈ scope.names, x.2 ≠ .cell := by decide) (hco : scope.isCoroutine = false := by rfl) (hgen : scope.isGenerator = false := by rfl) (hk : scope.kind = .function := by rfl) :
    codeAny (model prog w) A (.call (.ref f) ⟨args, []⟩) R ⟨h, gs, dr, tk, os⟩ := by
  refine codeAny_call_def (fd := fnOf name qual params body scope dV kV doc pm an cdv ct) (body := body) (binds := binds) C.room (P.kin W _ _ ho) rfl (P.lim W) (codeRec_of (P.kin W) hcd) rfl (BindsTo.of_eq hbind) hcell (locs hloc) (fun h₁ hns hk₁ => ?_) hco hgen hk
  exact k _ _ _ h₁ _ C.deeper ⟨rfl, rfl, rfl, rfl, rfl, hk⟩ (St.start P hns hk₁ hl) _
theorem Cx.make {d u : Nat} {C : Addr} {args : List Value} (X : Cx A (d + 1) (u + 1)) : Cx (A.under (.builtin "type.__call__" ⟨.ref C :: args, []⟩)) d u :=
  ⟨X.hand, by rw [depth_under_make]; have := X.dep; lia, by rw [units_under_make]; have := X.uni; lia⟩
/-- the class is called: what __init__ is handed -/
theorem r_make {d u : Nat} {Q : Value → Shared → Prop} {C fI : Addr} {args : List Value} (W : Wo K b) (X : Cx A (d + 1) (u + 1)) (P : Pre b g h []) (hm : makesIn K C = true) (hi : findIn K (.ref C) "__init__" = some (some (.ref fI))) (hf : isFn K (.ref fI) = true)
    (k : ∀ A' x dx h', Cx A' d u → Pre b g h' [(x, instObj C dx), (dx, dictOf [] 0)] → (∀ a o, h.get? a = some o → h'.get? a = some o) → h.get? x = none → h.get? dx = none →
      codeAny (model prog w) A' (.call (.ref fI) ⟨.ref x :: args, []⟩) (InitBack x fun r s' => match r with | .ok (.ret v) => Q v s' | .ok _ => False | .error e => E e s') ⟨h', gs, dr, tk, os⟩) :
    wpAny (model prog w) A (call (.ref C) args) Q E ⟨h, gs, dr, tk, os⟩ := by
  have Xk := P.kin W
  refine wpAny_call (make_core (makes_of Xk hm) (looks_findIn Xk hi) (fun self => bind_fn Xk self (beq_iff_eq.mp hf)) (.inl rfl) ?_)
  have fresh : ∀ a, h.objs.size ≤ a → h.get? a = none := fun a ha => by
    cases q : h.get? a with
    | none => rfl
    | some o => exact absurd (Heap.lt_size q) (Nat.not_lt.mpr ha)
  have gfresh : ∀ a, h.objs.size ≤ a → g a = none := fun a ha => by
    cases q : g a with
    | none => rfl
    | some o => exact absurd (Heap.lt_size (P.gk _ _ q)) (Nat.not_lt.mpr ha)
  have hk : ∀ a o, h.get? a = some o → ((h.push emptyDict).push (instObj C h.objs.size)).get? a = some o := fun a o q => Heap.get?_push_of_some _ (Heap.get?_push_of_some _ q)
  refine k _ (h.objs.size + 1) h.objs.size _ X.make ⟨fun a o q => hk a o (P.gk a o q), P.base, ?_, ?_, ?_⟩ hk (fresh _ (Nat.le_succ _)) (fresh _ (Nat.le_refl _))
  · intro p hp
    rcases List.mem_cons.mp hp with rfl | hp
    · refine ⟨?_, gfresh _ (Nat.le_succ _)⟩
      have := Heap.get?_push_size (h.push emptyDict) (o := instObj C h.objs.size) rfl
      rwa [Heap.size_push] at this
    · obtain rfl := List.mem_singleton.mp hp
      exact ⟨Heap.get?_push_of_some _ (Heap.get?_push_size _ rfl), gfresh _ (Nat.le_refl _)⟩
  · simp
  · rw [Heap.size_push, Heap.size_push]; have := P.bl; lia
/-- behind a class's call: the new objects are fixed -/
theorem Fin.fixed {h1 : Heap} (F : Fin ⟨h1, g, n1.map (·.1)⟩ g' h' n2) (hk : n2.map (·.1) = n1.map (·.1)) (P : Pre b g h1 n1) (h0 : ∀ p ∈ n1, h.get? p.1 = none) (hs : ∀ a o, h.get? a = some o → h1.get? a = some o) :
    Fin ⟨h, g, []⟩ (ext g' n2) h' [] ∧ (∀ a o, g a = some o → ext g' n2 a = some o) ∧ ∀ p ∈ n2, ext g' n2 p.1 = some p.2 := by
  obtain ⟨Fgk, Fsub, Fnew, Fown, Ffr, Flv⟩ := F
  dsimp only at Fsub Fnew Ffr Flv
  have nd : (n2.map (·.1)).Nodup := hk ▸ P.nd
  have key : ∀ p ∈ n2, ∃ q ∈ n1, q.1 = p.1 := fun p hp => by
    have : p.1 ∈ n1.map (·.1) := hk ▸ List.mem_map_of_mem hp
    obtain ⟨q, hq, e⟩ := List.mem_map.mp this
    exact ⟨q, hq, e⟩
  have gn : ∀ p ∈ n2, g' p.1 = none := fun p hp => by
    obtain ⟨q, hq, e⟩ := key p hp
    cases y : g' p.1 with
    | none => rfl
    | some o =>
      rcases Fnew _ _ y with r | r
      · rw [← e, (P.own q hq).2] at r; cases r
      · rw [← e, (P.own q hq).1] at r; cases r
  have sub : ∀ a o, g' a = some o → ext g' n2 a = some o := fun a o q => ext_sub gn q
  refine ⟨⟨?_, fun a o q => sub a o (Fsub a o q), ?_, fun p hp => (nomatch hp), ?_, ?_⟩, fun a o q => sub a o (Fsub a o q), fun p hp => ext_mem nd hp⟩
  · intro a o q
    rcases ext_some q with q | q
    · exact Fown _ q
    · exact Fgk a o q
  · intro a o q
    rcases ext_some q with q | q
    · obtain ⟨p, hp, e⟩ := key _ q
      have := h0 p hp
      rw [e] at this
      exact .inr this
    · rcases Fnew a o q with r | r
      · exact .inl r
      · refine .inr ?_
        show h.get? a = none
        cases y : h.get? a with
        | none => rfl
        | some o1 => rw [hs _ _ y] at r; cases r
  · intro a o q _
    refine Ffr a o (hs a o q) fun hm => ?_
    obtain ⟨p, hp, rfl⟩ := List.mem_map.mp hm
    have q : h.get? p.1 = some o := q
    rw [h0 p hp] at q; cases q
  · exact fun a o q => Flv a o (hs a o q)
theorem r_setattr {Q : Unit → Shared → Prop} {x C dx : Addr} {name : Str} {v : Value} {es : List DictEntry} {es' : Tok → List DictEntry} {n' : Tok → List (Addr × Obj)} {k k' : Nat} (W : Wo K b) (S : St b e g L h l n) (hx : (x, instObj C dx) ∈ n) (u : ∀ t, Up dx (dictOf es k) (dictOf (es' t) k') n (n' t))
    (hs : findIn K (.ref C) "__setattr__" = some (some (.builtin "object.__setattr__"))) (hp : plainOver K C = true) (ht : takerIn K C name = some none) (hh : hasDictIn K C = true) (hl : (getL name es).isSome = true)
    (he : ∀ t, (putL name (PyData.keyHash w.params name) (.str name t) v es, putN name es k) = (es' t, k')) (hz : ∀ t, (es' t).length ≤ 1000) (kk : ∀ h' t tk', St b e g L h' l (n' t) → Q () ⟨h', gs, dr, tk', os⟩) :
    wpAny (model prog w) A (setAttr (.ref x) name v) Q E ⟨h, gs, dr, tk, os⟩ := by
  have X := S.kin W
  have D := (S.own _ (u tk).mem).1
  have hX := (S.own _ hx).1
  have I : InstAt h x (instObj C dx) C (some (dictOf es k)) := ⟨hX, rfl, rfl, D⟩
  have up : ∀ t, Obj.putName name (PyData.keyHash w.params name) (.str name t) v (dictOf es k) = dictOf (es' t) k' := fun t => by
    obtain ⟨e1, e2⟩ := Prod.mk.inj (he t)
    rw [putName_dict, e1, e2]
  refine set_plain (s := ⟨h, gs, dr, tk, os⟩) X I hs (osa_open (s := ⟨h, gs, dr, tk + 1, os⟩) X I hp ht fun bb => ?_)
  obtain ⟨cd, hc, hd'⟩ := any_some hh
  have D2 : (h.update dx (Obj.putName name (PyData.keyHash w.params name) (.str name (tk + 1)) v)).get? dx = some (dictOf (es' (tk + 1)) k') := by
    rw [← up (tk + 1)]
    exact Heap.get?_update_self _ D (by rw [up]; rfl)
  show wpAny _ _ (storeInOwnDict (.ref x) (.ref C) (.str name tk) name v bb) _ _ _
  refine wpAny_bind (wpAny_pure (wpAny_bind (wpAny_bind (wpAny_loadPart hX (wpAny_bind ((looks_clsIn X hc).here ?_))))))
  rw [hd']
  refine wpAny_pure (a := some dx) (wpAny_bind (wpAny_pure (wpAny_bind ?_)))
  unfold nsSet
  refine wpAny_bind (wpAny_bind (wpAny_askSetting (wpAny_pure (wpAny_bind (wpAny_mkText (wpAny_bind (wpAny_loadPart D ?_)))))))
  dsimp only
  have c : (!es.toArray.any (·.key.isStr name) && es.toArray.any (·.refKey)) = false := by
    rw [← Array.any_toList, ← Array.any_toList]
    unfold getL at hl
    split at hl
    · rename_i en hen
      rw [List.any_eq_true.mpr ⟨en, List.mem_of_find?_eq_some hen, List.find?_some hen⟩]; rfl
    · split at hl
      · cases hl
      · rename_i z; rw [Bool.not_eq_true] at z; rw [z, Bool.and_false]
  rw [aRefKeyMayBeTheName_at, c]
  refine wpAny_updatePart D ?_
  refine wpAny_bind (wpAny_lookBehind D2 (pastItsLine_dict (by rw [List.size_toArray, sizeLine_eq]; have := hz (tk + 1); lia)) ?_)
  exact wpAny_pure (kk _ _ _ (S.same (u (tk + 1)) (Heap.SameBut.update ..) D2))
theorem St.inst (S : St b e g L h l n) {x C : Addr} {es : List DictEntry} {k : Nat} (I : GInst g x C es k) : ∃ dx, InstAt h x (instObj C dx) C (some (dictOf es k)) :=
  let ⟨dx, h1, h2⟩ := I; ⟨dx, S.gk _ _ h1, rfl, rfl, S.gk _ _ h2⟩
theorem r_getown {Q : Value → Shared → Prop} {expr : Bool} {x C : Addr} {name : Str} {v : Value} {attr : Option Value} {es : List DictEntry} {k : Nat} (W : Wo K b) (S : St b e g L h l n) (I : GInst g x C es k) (hg : plainGet K C name = true) (hh : hasDictIn K C = true)
    (ha : findIn K (.ref C) name = some attr) (hn : noGet K attr = true) (hl : getL name es = some (some v)) (hv : handedIn v = true) (kk : ∀ tk', Q v ⟨h, gs, dr, tk', os⟩) :
    wpAny (model prog w) A (getAttr (.ref x) name expr) Q E ⟨h, gs, dr, tk, os⟩ := by
  obtain ⟨m, F, _⟩ := S.frm
  obtain ⟨dx, J⟩ := S.inst I
  exact get_own (s := ⟨h, gs, dr, tk, os⟩) F W.K J hg hh ha hn hl hv (kk _)
theorem r_getcls {Q : Value → Shared → Prop} {expr : Bool} {x C : Addr} {name : Str} {a : Value} {es : List DictEntry} {k : Nat} (W : Wo K b) (S : St b e g L h l n) (I : GInst g x C es k) (hg : plainGet K C name = true) (hh : hasDictIn K C = true)
    (ha : findIn K (.ref C) name = some (some a)) (hn : specialIn K a "__get__" = some none) (hv : handedIn a = true) (hc : copiedNames.contains name = false) (hl : getL name es = some none) (kk : ∀ tk', Q a ⟨h, gs, dr, tk', os⟩) :
    wpAny (model prog w) A (getAttr (.ref x) name expr) Q E ⟨h, gs, dr, tk, os⟩ := by
  obtain ⟨m, F, _⟩ := S.frm
  obtain ⟨dx, J⟩ := S.inst I
  exact get_cls (s := ⟨h, gs, dr, tk, os⟩) F W.K J hg hh ha hn hv hc hl (kk _)
theorem r_method {Q : Value × List Value → Shared → Prop} {pl : Sem Bool} {x C f : Addr} {name : Str} {es : List DictEntry} {k : Nat} (W : Wo K b) (S : St b e g L h l n) (I : GInst g x C es k) (hg : plainGet K C name = true)
    (hf : findIn K (.ref C) name = some (some (.ref f))) (ht : isFn K (.ref f) = true) (hl : getL name es = some none) (kk : Q (.ref f, [.ref x]) ⟨h, gs, dr, tk, os⟩) :
    wpAny (model prog w) A (getMethod (.ref x) name pl) Q E ⟨h, gs, dr, tk, os⟩ := by
  obtain ⟨m, F, _⟩ := S.frm
  obtain ⟨dx, J⟩ := S.inst I
  exact method_inst (s := ⟨h, gs, dr, tk, os⟩) F W.K J hg hf ht hl kk
theorem r_meth0 {Q : Value → Shared → Prop} {pos : Pos} {f x : Value} (W : Wo K b) (S : St b e g L h l n) (hk : keepIn K f = true) (kk : wpAny (model prog w) A (call f [x]) Q E ⟨h, gs, dr, tk, os⟩) :
    wpAny (model prog w) A (callWith pos f [x] (backTo pos (starEach [] env)) []) Q E ⟨h, gs, dr, tk, os⟩ := callWith_K0 (s := ⟨h, gs, dr, tk, os⟩) (S.kin W) hk kk
theorem r_callW0 {Q : Value → Shared → Prop} {pos : Pos} {f : Value} (W : Wo K b) (S : St b e g L h l n) (hk : keepIn K f = true) (kk : wpAny (model prog w) A (call f []) Q E ⟨h, gs, dr, tk, os⟩) :
    wpAny (model prog w) A (callWith pos f [] (backTo pos (starEach [] env)) []) Q E ⟨h, gs, dr, tk, os⟩ := callWith_K0 (s := ⟨h, gs, dr, tk, os⟩) (S.kin W) hk kk
/-- a bound method as a value -/
theorem r_bound {Q : Value → Shared → Prop} {expr : Bool} {x C f : Addr} {name : Str} {es : List DictEntry} {k : Nat} (W : Wo K b) (S : St b e g L h l n) (I : GInst g x C es k) (hg : plainGet K C name = true)
    (hf : findObj K C (some (dictOf es k)) name = some (.bind (.builtin "function.__get__") (.ref f))) (hfn : isFn K (.ref f) = true)
    (kk : ∀ q h' g' tk', (∀ a o, g a = some o → g' a = some o) → g' q = some (methodObj (.ref f) (.ref x)) → St b e g' L h' l n → Q (.ref q) ⟨h', gs, dr, tk', os⟩) :
    wpAny (model prog w) A (getAttr (.ref x) name expr) Q E ⟨h, gs, dr, tk, os⟩ := by
  obtain ⟨dx, J⟩ := S.inst I
  have S' := S.push (methodObj (.ref f) (.ref x)) rfl
  obtain ⟨T, h1, h2⟩ := St.freeze (n1 := [(h.objs.size, methodObj (.ref f) (.ref x))]) (n2 := n) S' (fun p hp => by rw [List.mem_singleton.mp hp]; exact S.efresh)
  exact get_bind (s := ⟨h, gs, dr, tk, os⟩) (S.kin W) J (plainGet_of hg).1 hf (plainGet_of hg).2 (wpAny_call (fn_get (s := ⟨h, gs, dr, tk + 1, os⟩) (S.kin W) (beq_iff_eq.mp hfn) (handed_on rfl (kk _ _ _ _ h1 (h2 _ (.head _)) T))))
theorem r_callbound {Q : Value → Shared → Prop} {q f : Addr} {x : Value} {args : List Value} (P : Pre b g h n) (hq : g q = some (methodObj (.ref f) x))
    (kk : codeAny (model prog w) A (.call (.ref f) ⟨x :: args, []⟩) (fun r s' => match r with | .ok (.ret v) => Q v s' | .ok _ => False | .error e => E e s') ⟨h, gs, dr, tk, os⟩) :
    wpAny (model prog w) A (call (.ref q) args) Q E ⟨h, gs, dr, tk, os⟩ := wpAny_call (method_call (s := ⟨h, gs, dr, tk, os⟩) (P.gk _ _ hq) kk)
theorem St.freeze1 {a : Addr} {o : Obj} (S : St b e g L h l ((a, o) :: n)) (he : e.h.get? a = none) : ∃ g', St b e g' L h l n ∧ (∀ c x, g c = some x → g' c = some x) ∧ g' a = some o := by
  obtain ⟨T, h1, h2⟩ := St.freeze (n1 := [(a, o)]) (n2 := n) S (fun p hp => by rw [List.mem_singleton.mp hp]; exact he)
  exact ⟨_, T, h1, h2 _ (.head _)⟩
noncomputable abbrev ent (P : Params) (name : Str) (t : Tok) (v : Value) : DictEntry := ⟨PyData.keyHash P name, .str name t, v⟩
end
end
/-! trees -/
inductive CV | num (i : _root_.Fin 10) | bool (x : Bool) | unspec | pair
inductive Nk | const (c : CV) | loc (n : Int) | set (n : Int) | ite | lam (l : Int) (ps : List Int) (r : Int) | call | seq | prim (op : Int)
inductive Tree | node (k : Nk) (ks : List Tree)
noncomputable def Nk.num : Nk → Int
  | .const _ => 0 | .loc _ => 1 | .set _ => 3 | .ite => 6 | .lam .. => 7 | .call => 8 | .seq => 9 | .prim _ => 10
mutual
noncomputable def Tree.size : Tree → Nat
  | .node _ ks => 1 + sizes ks
noncomputable def sizes : List Tree → Nat
  | [] => 0
  | t :: ts => t.size + sizes ts
end
mutual
noncomputable def Tree.ht : Tree → Nat
  | .node _ ks => 1 + hts ks
noncomputable def hts : List Tree → Nat
  | [] => 0
  | t :: ts => max t.ht (hts ts)
end
theorem sizes_len : ∀ ks : List Tree, ks.length ≤ sizes ks
  | [] => Nat.le_refl _
  | .node _ ks' :: ts => by have := sizes_len ts; simp only [List.length_cons, sizes, Tree.size]; lia
/-! their make on the heap -/
noncomputable def CVal (g : GH) : CV → Value → Prop
  | .num i, v => ∃ t, v = .int (i.val : Nat) t
  | .bool x, v => v = .bool x
  | .unspec, v => v = .ref 353
  | .pair, v => ∃ x es k, v = .ref x ∧ GInst g x 395 es k
theorem CVal.mono {g g' : GH} (hg : ∀ a o, g a = some o → g' a = some o) : ∀ {c : CV} {v : Value}, CVal g c v → CVal g' c v
  | .num _, _, h => h
  | .bool _, _, h => h
  | .unspec, _, h => h
  | .pair, _, h => let ⟨x, es, k, e, I⟩ := h; ⟨x, es, k, e, I.mono hg⟩
inductive Shape (P : Params) (g : GH) : Value → Nk → List Value → Prop
  | const {x : Addr} {c t1 cv} : GInst g x 66 [ent P "value" t1 cv] 1 → CVal g c cv → Shape P g (.ref x) (.const c) []
  | loc {x : Addr} {i t1 u} : GInst g x 85 [ent P "number" t1 (.int i u)] 1 → Shape P g (.ref x) (.loc i) []
  | set {x : Addr} {i t1 t2 u v1} : GInst g x 118 [ent P "number" t1 (.int i u), ent P "value" t2 v1] 2 → Shape P g (.ref x) (.set i) [v1]
  | ite {x : Addr} {t1 t2 t3 v1 v2 v3} : GInst g x 151 [ent P "test" t1 v1, ent P "yes" t2 v2, ent P "no" t3 v3] 3 → Shape P g (.ref x) .ite [v1, v2, v3]
  | lam {x lp : Addr} {i ps r t1 t2 t3 t4 u1 u2 pvs kk v1} : GInst g x 198 [ent P "label" t1 (.int i u1), ent P "params" t2 (.ref lp), ent P "rest" t3 (.int r u2), ent P "body" t4 v1] 4 →
      g lp = some (listO pvs kk) → Ints pvs ps → ps.length ≤ 100 → Shape P g (.ref x) (.lam i ps r) [v1]
  | call {x lo : Addr} {t1 t2 v1 ws kk} : GInst g x 231 [ent P "operator" t1 v1, ent P "operands" t2 (.ref lo)] 2 → g lo = some (listO ws kk) → Shape P g (.ref x) .call (v1 :: ws)
  | seq {x lo : Addr} {t1 ws kk} : GInst g x 264 [ent P "items" t1 (.ref lo)] 1 → g lo = some (listO ws kk) → Shape P g (.ref x) .seq ws
  | prim {x lo : Addr} {t1 t2 i u ws kk} : GInst g x 297 [ent P "op" t1 (.int i u), ent P "operands" t2 (.ref lo)] 2 → g lo = some (listO ws kk) → Shape P g (.ref x) (.prim i) ws
theorem Shape.mono {P : Params} {g g' : GH} (hg : ∀ a o, g a = some o → g' a = some o) {v : Value} {k : Nk} {vs : List Value} : Shape P g v k vs → Shape P g' v k vs := by
  intro H
  cases H with
  | const I c => exact .const (I.mono hg) (c.mono hg)
  | loc I => exact .loc (I.mono hg)
  | set I => exact .set (I.mono hg)
  | ite I => exact .ite (I.mono hg)
  | lam I h i z => exact .lam (I.mono hg) (hg _ _ h) i z
  | call I h => exact .call (I.mono hg) (hg _ _ h)
  | seq I h => exact .seq (I.mono hg) (hg _ _ h)
  | prim I h => exact .prim (I.mono hg) (hg _ _ h)
mutual
inductive NodeAt (P : Params) (g : GH) : Value → Tree → Prop
  | mk {v k vs ks} : Shape P g v k vs → NodesAt P g vs ks → NodeAt P g v (.node k ks)
inductive NodesAt (P : Params) (g : GH) : List Value → List Tree → Prop
  | nil : NodesAt P g [] []
  | cons {v vs t ts} : NodeAt P g v t → NodesAt P g vs ts → NodesAt P g (v :: vs) (t :: ts)
end
theorem NodeAt.mono {P : Params} {g g' : GH} (hg : ∀ a o, g a = some o → g' a = some o) {v t} (h : NodeAt P g v t) : NodeAt P g' v t :=
  NodeAt.rec (motive_1 := fun v t _ => NodeAt P g' v t) (motive_2 := fun vs ts _ => NodesAt P g' vs ts) (fun s _ r => .mk (s.mono hg) r) .nil (fun _ _ a b => .cons a b) h
theorem NodesAt.mono {P : Params} {g g' : GH} (hg : ∀ a o, g a = some o → g' a = some o) {v t} (h : NodesAt P g v t) : NodesAt P g' v t :=
  NodesAt.rec (motive_1 := fun v t _ => NodeAt P g' v t) (motive_2 := fun vs ts _ => NodesAt P g' vs ts) (fun s _ r => .mk (s.mono hg) r) .nil (fun _ _ a b => .cons a b) h
theorem NodesAt.ind {P : Params} {g : GH} {C : List Value → List Tree → Prop} (c0 : C [] []) (c1 : ∀ {v vs t ts}, NodeAt P g v t → C vs ts → C (v :: vs) (t :: ts)) {vs ts} (h : NodesAt P g vs ts) : C vs ts :=
  NodesAt.rec (motive_1 := fun _ _ _ => True) (motive_2 := fun vs ts _ => C vs ts) (fun _ _ _ => trivial) c0 (fun a _ _ b => c1 a b) h
theorem NodesAt.length {P : Params} {g : GH} {vs ts} (h : NodesAt P g vs ts) : vs.length = ts.length := NodesAt.ind (C := fun vs ts => vs.length = ts.length) rfl (fun _ e => congrArg (· + 1) e) h
theorem NodesAt.append {P : Params} {g : GH} {vs ts ws us} (h : NodesAt P g vs ts) (q : NodesAt P g ws us) : NodesAt P g (vs ++ ws) (ts ++ us) := NodesAt.ind (C := fun vs ts => NodesAt P g (vs ++ ws) (ts ++ us)) q (fun a b => .cons a b) h
/-! readings back -/
theorem NodeAt.unmk {P : Params} {g : GH} {v : Value} {k : Nk} {ks : List Tree} {C : Prop} (h : NodeAt P g v (.node k ks)) (c : ∀ vs, Shape P g v k vs → NodesAt P g vs ks → C) : C := by
  cases h with | mk a b => exact c _ a b
@[elab_as_elim] theorem NodesAt.uncons {P : Params} {g : GH} {vs : List Value} {t : Tree} {ts : List Tree} {C : List Value → Prop} (h : NodesAt P g vs (t :: ts)) (c : ∀ y zs, NodeAt P g y t → NodesAt P g zs ts → C (y :: zs)) : C vs := by
  cases h with | cons a b => exact c _ _ a b
theorem NodesAt.unconsV {P : Params} {g : GH} {v : Value} {vs : List Value} {ks : List Tree} {C : Prop} (h : NodesAt P g (v :: vs) ks) (c : ∀ kx kxs ops, ks = .node kx kxs :: ops → NodeAt P g v (.node kx kxs) → C) : C := by
  cases h with | @cons _ _ t _ a b => cases t; exact c _ _ _ rfl a
@[elab_as_elim] theorem NodesAt.unnil {P : Params} {g : GH} {vs : List Value} {C : List Value → Prop} (h : NodesAt P g vs []) (c : C []) : C vs := by
  cases h; exact c
theorem Nk.is_const {k : Nk} (h : k.num = 0) : ∃ c, k = .const c := by cases k <;> simp [Nk.num] at h ⊢
theorem Nk.is_loc {k : Nk} (h : k.num = 1) : ∃ c, k = .loc c := by cases k <;> simp [Nk.num] at h ⊢
theorem Nk.is_set {k : Nk} (h : k.num = 3) : ∃ c, k = .set c := by cases k <;> simp [Nk.num] at h ⊢
theorem Nk.is_lam {k : Nk} (h : k.num = 7) : ∃ l ps r, k = .lam l ps r := by cases k <;> simp [Nk.num] at h ⊢
theorem Nk.is_call {k : Nk} (h : k.num = 8) : k = .call := by cases k <;> simp [Nk.num] at h ⊢
theorem Nk.is_prim {k : Nk} (h : k.num = 10) : ∃ o, k = .prim o := by cases k <;> simp [Nk.num] at h ⊢
theorem Nk.num_lt (k : Nk) : k.num ≠ 2 ∧ k.num ≠ 4 ∧ k.num ≠ 5 ∧ k.num ≠ 11 := by cases k <;> simp [Nk.num]
theorem Shape.ref {P : Params} {g : GH} {v : Value} {k : Nk} {vs : List Value} (h : Shape P g v k vs) : ∃ x, v = .ref x := by cases h <;> exact ⟨_, rfl⟩
theorem NodeAt.ref {P : Params} {g : GH} {v : Value} {t : Tree} (h : NodeAt P g v t) : ∃ x, v = .ref x := by cases h with | mk a _ => exact a.ref
theorem Shape.uncon {P : Params} {g : GH} {x : Addr} {c : CV} {vs : List Value} {C : Prop} (h : Shape P g (.ref x) (.const c) vs) (k : ∀ t1 cv, vs = [] → GInst g x 66 [ent P "value" t1 cv] 1 → CVal g c cv → C) : C := by
  cases h; exact k _ _ rfl (by assumption) (by assumption)
theorem Shape.unloc {P : Params} {g : GH} {x : Addr} {i : Int} {vs : List Value} {C : Prop} (h : Shape P g (.ref x) (.loc i) vs) (k : ∀ t1 u, vs = [] → GInst g x 85 [ent P "number" t1 (.int i u)] 1 → C) : C := by
  cases h; exact k _ _ rfl (by assumption)
theorem Shape.unset {P : Params} {g : GH} {x : Addr} {i : Int} {vs : List Value} {C : Prop} (h : Shape P g (.ref x) (.set i) vs) (k : ∀ t1 t2 u v1, vs = [v1] → GInst g x 118 [ent P "number" t1 (.int i u), ent P "value" t2 v1] 2 → C) : C := by
  cases h; exact k _ _ _ _ rfl (by assumption)
theorem Shape.unlam {P : Params} {g : GH} {x : Addr} {i r : Int} {ps : List Int} {vs : List Value} {C : Prop} (h : Shape P g (.ref x) (.lam i ps r) vs) (k : ∀ lp t1 t2 t3 t4 u1 u2 pvs kk v1, vs = [v1] → GInst g x 198 [ent P "label" t1 (.int i u1), ent P "params" t2 (.ref lp), ent P "rest" t3 (.int r u2), ent P "body" t4 v1] 4 → g lp = some (listO pvs kk) → Ints pvs ps → ps.length ≤ 100 → C) : C := by
  cases h; exact k _ _ _ _ _ _ _ _ _ _ rfl (by assumption) (by assumption) (by assumption) (by assumption)
theorem Shape.uncall {P : Params} {g : GH} {x : Addr} {vs : List Value} {C : Prop} (h : Shape P g (.ref x) .call vs) (k : ∀ lo t1 t2 v1 ws kk, vs = v1 :: ws → GInst g x 231 [ent P "operator" t1 v1, ent P "operands" t2 (.ref lo)] 2 → g lo = some (listO ws kk) → C) : C := by
  cases h; exact k _ _ _ _ _ _ rfl (by assumption) (by assumption)
theorem Shape.unprim {P : Params} {g : GH} {x : Addr} {i : Int} {vs : List Value} {C : Prop} (h : Shape P g (.ref x) (.prim i) vs) (k : ∀ lo t1 t2 u kk, GInst g x 297 [ent P "op" t1 (.int i u), ent P "operands" t2 (.ref lo)] 2 → g lo = some (listO vs kk) → C) : C := by
  cases h; exact k _ _ _ _ _ (by assumption) (by assumption)
@[elab_as_elim] theorem NodeAt.unlet {P : Params} {g : GH} {v : Value} {l0 r0 : Int} {ps : List Int} {bd : Tree} {ops : List Tree} {C : Value → Prop} (h : NodeAt P g v (.node .call (.node (.lam l0 ps r0) [bd] :: ops)))
    (c : ∀ x lo x2 lp t1 t2 t3 t4 t5 t6 u1 u2 pvs k1 k3 v2 ws, GInst g x 231 [ent P "operator" t1 (.ref x2), ent P "operands" t2 (.ref lo)] 2 → g lo = some (listO ws k1) → NodesAt P g ws ops →
      GInst g x2 198 [ent P "label" t3 (.int l0 u1), ent P "params" t4 (.ref lp), ent P "rest" t5 (.int r0 u2), ent P "body" t6 v2] 4 → g lp = some (listO pvs k3) → Ints pvs ps → ps.length ≤ 100 → NodeAt P g v2 bd → C (.ref x)) : C v := by
  cases h with
  | mk H hks =>
  cases H with
  | call I hL =>
  cases hks with
  | cons hx hops =>
  cases hx with
  | mk Hx hxs =>
  cases Hx with
  | lam I2 hp hi hz =>
  cases hxs with
  | cons hb _ => exact c _ _ _ _ _ _ _ _ _ _ _ _ _ _ _ _ _ I hL hops I2 hp hi hz hb
theorem NodesAt.split {P : Params} {g : GH} : ∀ {vs ts us}, NodesAt P g vs (ts ++ us) → ∃ ws xs, vs = ws ++ xs ∧ NodesAt P g ws ts ∧ NodesAt P g xs us
  | _, [], _, h => ⟨[], _, rfl, .nil, h⟩
  | _, _ :: ts, us, .cons x r => by
    obtain ⟨ws, xs, e, h1, h2⟩ := NodesAt.split (ts := ts) r
    exact ⟨_ :: ws, xs, by rw [e]; rfl, .cons x h1, h2⟩
theorem NodesAt.get {P : Params} {g : GH} : ∀ {vs ts} {i : Nat} {v : Value}, NodesAt P g vs ts → vs[i]? = some v → ∃ t, ts[i]? = some t ∧ NodeAt P g v t
  | _, _, 0, _, .cons (t := t) x _, q => by cases q; exact ⟨t, rfl, x⟩
  | _, _, i + 1, _, .cons _ r, q => NodesAt.get (i := i) r (by simpa using q)
section
variable {prog : Program} {w : World} {A : Around} {E : Value → Shared → Prop} {gs : Array GenState} {dr : Drawn} {tk : Tok} {os : OsState}
variable {b : Heap} {e : Ent} {g g' : GH} {L : Addr} {h h' : Heap} {l : List (Str × Value)} {n n1 n2 n' : List (Addr × Obj)} {K : Frag} {env : Env} {sc : Scope} {cl : List (Str × Addr)}
theorem St.grow (S : St b e g L h l n) (hk : ∀ a o, h.get? a = some o → h'.get? a = some o) : St b e g L h' l n :=
  { S with
    ns := let ⟨m, ⟨o, x, y, a, r⟩, q⟩ := S.ns; ⟨m, ⟨o, x, y, hk _ _ a, r⟩, q⟩
    gk := fun a o q => hk a o (S.gk a o q)
    own := fun p hp => ⟨hk _ _ (S.own p hp).1, (S.own p hp).2⟩
    fr := fun a o q w => hk a o (S.fr a o q w)
    lv := fun a o q => let ⟨x, y⟩ := S.lv a o q; ⟨x, hk _ _ y⟩ }
theorem St.add (S : St b e g L h l n) {a : Addr} {o : Obj} (hk : ∀ a o, h.get? a = some o → h'.get? a = some o) (ha : h'.get? a = some o) (h0 : h.get? a = none) : St b e g L h' l ((a, o) :: n) := by
  have T := S.grow hk
  have nL : a ≠ L := fun z => by
    obtain ⟨m, ⟨oL, _, _, hL, _⟩, _⟩ := S.ns
    rw [z, hL] at h0; cases h0
  refine { T with own := fun p hp => ?_, nd := ?_ }
  · rcases List.mem_cons.mp hp with rfl | hp
    · refine ⟨ha, ?_, nL, .inr (S.none_e h0)⟩
      cases q : g a with
      | none => rfl
      | some x => rw [S.gk _ _ q] at h0; cases h0
    · exact T.own p hp
  · rw [List.map_cons, List.nodup_cons]
    refine ⟨fun hm => ?_, S.nd⟩
    obtain ⟨p, hp, e1⟩ := List.mem_map.mp hm
    have := (S.own p hp).1
    rw [e1, h0] at this; cases this
theorem none_of_le {h : Heap} {a : Addr} (ha : h.objs.size ≤ a) : h.get? a = none := by
  cases q : h.get? a with
  | none => rfl
  | some o => exact absurd (Heap.lt_size q) (Nat.not_lt.mpr ha)
/-- where a list's object is read -/
theorem St.isL (S : St b e g L h l n) {a : Addr} {vs : List Value} {k : Nat} (ha : (a, listO vs k) ∈ n ∨ g a = some (listO vs k)) : h.get? a = some (listO vs k) := by
  rcases ha with q | q
  · exact (S.own _ q).1
  · exact S.gk _ _ q
theorem r_addlist {Q : Value → Shared → Prop} {a c : Addr} {vs ws : List Value} {k j : Nat} (S : St b e g L h l n) (ha : h.get? a = some (listO vs k)) (hc : h.get? c = some (listO ws j)) (hz : vs.length + ws.length ≤ sizeLine)
    (kk : ∀ a h', e.h.get? a = none → St b e g L h' l ((a, listO (vs ++ ws) 0) :: n) → Q (.ref a) ⟨h', gs, dr, tk, os⟩) :
    wpAny (model prog w) A (binaryOp .Add (.ref a) (.ref c)) Q E ⟨h, gs, dr, tk, os⟩ := by
  have S' := S.push (listO (vs ++ ws) 0) rfl
  refine P.add_list (s := ⟨h, gs, dr, tk, os⟩) ha hc ?_ (by simpa using hz)
  have e1 : vs.toArray ++ ws.toArray = (vs ++ ws).toArray := by simp
  rw [e1]
  exact kk _ _ S.efresh S'
theorem r_listof {Q : Value → Shared → Prop} {a : Addr} {vs : List Value} {o : Obj} {k : Nat} {T : String} (hT : T = "list" ∨ T = "tuple") (S : St b e g L h l n) (ha : h.get? a = some o) (hc : o.cls = .type T) (hd : o.data = .seq vs.toArray k) (hz : vs.length ≤ sizeLine)
    (kk : ∀ a h' j, e.h.get? a = none → St b e g L h' l ((a, listO vs j) :: n) → Q (.ref a) ⟨h', gs, dr, tk, os⟩) :
    wpAny (model prog w) A (call (.type "list") [.ref a]) Q E ⟨h, gs, dr, tk, os⟩ :=
  call_list_seq (s := ⟨h, gs, dr, tk, os⟩) a hT ha hc hd (fun h' c' hk hn => kk _ h' c' S.efresh (S.add hk hn (none_of_le (Nat.le_refl _)))) (by simpa using hz)
theorem r_tupleof {Q : Value → Shared → Prop} {a : Addr} {vs : List Value} (S : St b e g L h l n) (hL : h.IsList a vs.toArray) (hz : vs.length ≤ sizeLine)
    (kk : ∀ a h' g', (∀ c o, g c = some o → g' c = some o) → g' a = some (tupO vs) → St b e g' L h' l n → Q (.ref a) ⟨h', gs, dr, tk, os⟩) :
    wpAny (model prog w) A (call (.type "tuple") [.ref a]) Q E ⟨h, gs, dr, tk, os⟩ := by
  refine PySem.call_tuple_list (s := ⟨h, gs, dr, tk, os⟩) hL (fun h1 hk => ?_) (by simpa using hz)
  have S1 := S.grow hk
  obtain ⟨g1, T, h1, h2⟩ := (S1.push (tupO vs) rfl).freeze1 S1.efresh
  exact kk _ _ _ h1 h2 T
theorem pick_from (vs : List Value) (i : Int) (h0 : 0 ≤ i) (h1 : i ≤ vs.length) : slicePick vs.toArray (some i) none none = (vs.drop i.toNat).toArray := by
  have := slicePick_from vs.toArray i.toNat (by simp; lia)
  rw [Int.toNat_of_nonneg h0] at this
  simpa using this
theorem pick_upto (vs : List Value) (i : Int) (h0 : 0 ≤ i) (h1 : i ≤ vs.length) : slicePick vs.toArray none (some i) none = (vs.take i.toNat).toArray := by
  have := slicePick_upto vs.toArray i.toNat (by simp; lia)
  rw [Int.toNat_of_nonneg h0] at this
  simpa using this
/-- a slice by one: what stands behind it -/
theorem r_slice {Q : Value → Shared → Prop} {value : Expr} {lower upper : Option Expr} {p pos : Pos}
    (hh : wpAny (model prog w) A (eval value env) (fun o s₁ => wpAny (model prog w) A (evalPart lower env) (fun vl s₂ => wpAny (model prog w) A (evalPart upper env) (fun vu s₃ =>
      ∃ l items lo hi, o = .ref l ∧ s₃.heap.IsList l items ∧ items.size ≤ sizeLine ∧ IsPart vl lo ∧ IsPart vu hi ∧
        Q (.ref (s₃.heap.objs.size + 1)) { s₃ with heap := (s₃.heap.push { cls := .type "slice", data := .fields #[vl, vu, .none] }).push { cls := .type "list", data := .seq (slicePick items lo hi none) } }) E s₂) E s₁) E ⟨h, gs, dr, tk, os⟩)
    (ht : ∀ o r, letTemporaryGo value o r = pure () := by intro _ _; rfl) :
    wpAny (model prog w) A (eval (.Subscript value (.Slice lower upper none p) pos) env) Q E ⟨h, gs, dr, tk, os⟩ := wpAny_Subscript_list_slice hh ht
theorem r_sliced {Q : Value → Shared → Prop} {a : Addr} {vs ws : List Value} {k : Nat} {vl vu : Value} {lo hi : Option Int} (S : St b e g L h l n) (ha : h.get? a = some (listO vs k)) (hz : vs.length ≤ sizeLine) (pl : IsPart vl lo) (pu : IsPart vu hi) (he : slicePick vs.toArray lo hi none = ws.toArray)
    (kk : ∀ a h', e.h.get? a = none → St b e g L h' l ((a, listO ws 0) :: n) → Q (.ref a) ⟨h', gs, dr, tk, os⟩) :
    ∃ l items lo hi, Value.ref a = .ref l ∧ (⟨h, gs, dr, tk, os⟩ : Shared).heap.IsList l items ∧ items.size ≤ sizeLine ∧ IsPart vl lo ∧ IsPart vu hi ∧
        Q (.ref ((⟨h, gs, dr, tk, os⟩ : Shared).heap.objs.size + 1)) { (⟨h, gs, dr, tk, os⟩ : Shared) with heap := ((⟨h, gs, dr, tk, os⟩ : Shared).heap.push { cls := .type "slice", data := .fields #[vl, vu, .none] }).push { cls := .type "list", data := .seq (slicePick items lo hi none) } } := by
  refine ⟨a, vs.toArray, lo, hi, rfl, ⟨_, ha, rfl, k, rfl⟩, by simpa using hz, pl, pu, ?_⟩
  rw [he]
  have S1 := S.push { cls := .type "slice", data := .fields #[vl, vu, .none] } rfl
  have S2 := S1.push (listO ws 0) rfl
  have S3 := S2.pick ((_, listO ws 0) :: n) (fun p hp => by
    rcases List.mem_cons.mp hp with rfl | hp
    · exact .head _
    · exact .tail _ (.tail _ hp)) (by
    have q := S2.nd
    rw [List.map_cons, List.map_cons, List.nodup_cons, List.nodup_cons, List.mem_cons, not_or] at q
    rw [List.map_cons, List.nodup_cons]
    exact ⟨q.1.2, q.2.2⟩)
  have e1 : (h.push { cls := .type "slice", data := .fields #[vl, vu, .none] }).objs.size = h.objs.size + 1 := Heap.size_push _ _
  rw [e1] at S3
  exact kk _ _ (S.none_e (none_of_le (Nat.le_succ _))) S3
theorem evalPart_none (env : Env) : evalPart none env = pure .none := rfl
/-- xs[::-1], behind the value -/
theorem r_rev {Q : Value → Shared → Prop} {value : Expr} {p up cp : Pos} {kc : Nat} {a : Addr} {vs : List Value} {k : Nat} (S : St b e g L h l n) (ha : h.get? a = some (listO vs k)) (hz : vs.length ≤ sizeLine)
    (kk : ∀ a h' tk', e.h.get? a = none → St b e g L h' l ((a, listO vs.reverse 0) :: n) → Q (.ref a) ⟨h', gs, dr, tk', os⟩)
    (hs : ∀ c, subscripted (.Slice none none (some (.UnaryOp .USub (.Constant (.int 1) kc cp) up)) p) false (.ref a) (.ref c) = operate [.ref a, .ref c] (getItem (.ref a) (.ref c)) := by intro _; with_unfolding_all rfl) :
    wpAny (model prog w) A (eval (.Slice none none (some (.UnaryOp .USub (.Constant (.int 1) kc cp) up)) p) env) (fun i s₂ => wpAny (model prog w) A (subscriptTail value (.Slice none none (some (.UnaryOp .USub (.Constant (.int 1) kc cp) up)) p) (.ref a) i) Q E s₂) E ⟨h, gs, dr, tk, os⟩ := by
  refine wpAny_Slice (evalPart_none_step (evalPart_none_step (evalPart_some_step (wpAny_UnaryOp (wpAny_Constant_int (PyProof.Rows.neg_int ?_))))))
  have e0 : h.IsList a vs.toArray := ⟨_, ha, rfl, k, rfl⟩
  refine tail_any (Heap.IsList.typeIs (e0.push _)) slot_list_getitem.lookup (wpAny_getItem_list_slice (e0.push _) (Heap.IsSliceOf.new ..) .none .none (.int _ _) (by simp) ?_ (by simpa using hz)) (hs _)
  rw [show (-(1 : Int)) = -1 from rfl, krv_pick]
  have S1 := S.push { cls := .type "slice", data := .fields #[.none, .none, .int (-1) (tk + 1)] } rfl
  have S2 := S1.push (listO vs.reverse 0) rfl
  have S3 := S2.pick ((_, listO vs.reverse 0) :: n) (fun p hp => by
    rcases List.mem_cons.mp hp with rfl | hp
    · exact .head _
    · exact .tail _ (.tail _ hp)) (by
    have q := S2.nd
    rw [List.map_cons, List.map_cons, List.nodup_cons, List.nodup_cons, List.mem_cons, not_or] at q
    rw [List.map_cons, List.nodup_cons]
    exact ⟨q.1.2, q.2.2⟩)
  refine kk _ _ _ (S1.efresh) ?_
  simpa using S3
end
noncomputable def relab (scope sc : Scope) : Scope :=
  { scope with names := scope.names.map fun (n, k) => if (k == .free && sc.kind == .function && sc.names.lookup n == some .cell) then (n, .cell) else (n, k) }
section
variable {prog : Program} {w : World} {A : Around} {E : Value → Shared → Prop} {gs : Array GenState} {dr : Drawn} {tk : Tok} {os : OsState}
variable {b : Heap} {e : Ent} {g g' : GH} {L : Addr} {h h' : Heap} {l : List (Str × Value)} {n n1 n2 n' : List (Addr × Obj)} {K : Frag} {env : Env} {sc : Scope} {cl cl' : List (Str × Addr)}
/-- other locals: the old ones are one object more -/
theorem St.switch {C : Addr} {oC : Obj} {lC : List (Str × Value)} (S : St b e g L h l ((C, oC) :: n)) (hC : ∃ m, h.Ns C m ∧ ∀ x v, lC.lookup x = some v → m x = some v) (hb : b.objs.size ≤ C) :
    ∃ oL, (∀ h' : Heap, h'.get? L = some oL → ∃ m, h'.Ns L m ∧ ∀ x v, l.lookup x = some v → m x = some v) ∧ St b e g C h lC ((L, oL) :: n) := by
  obtain ⟨m, ⟨oL, a1, a2, hL, a3⟩, hm⟩ := S.ns
  have c := S.own _ (.head _)
  have nd := S.nd
  rw [List.map_cons, List.nodup_cons] at nd
  refine ⟨oL, fun h' q => ⟨m, ⟨oL, a1, a2, q, a3⟩, hm⟩, { S with ns := hC, own := fun p hp => ?_, nd := ?_, lg := c.2.1, le := c.2.2.2, bL := hb }⟩
  · rcases List.mem_cons.mp hp with rfl | hp
    · exact ⟨hL, S.lg, Ne.symm c.2.2.1, S.le⟩
    · have q := S.own p (.tail _ hp)
      refine ⟨q.1, q.2.1, fun z => ?_, q.2.2.2⟩
      have z : p.1 = C := z
      exact nd.1 (z ▸ List.mem_map_of_mem (f := (·.1)) hp)
  · rw [List.map_cons, List.nodup_cons]
    refine ⟨fun hm => ?_, nd.2⟩
    obtain ⟨p, hp, e1⟩ := List.mem_map.mp hm
    exact (S.own p (.tail _ hp)).2.2.1 e1
theorem relabel_eq (N : En env sc cl L) (scope : Scope) : relabel scope env = relab scope sc := by
  unfold relabel relab Env.kindOf
  rw [N.hs]
/-- an element's end -/
inductive CEnd {σ : Type} (b : Heap) (e' : Ent) (C D L : Addr) (oL : Obj) (gs : Array GenState) (dr : Drawn) (os : OsState) (J : σ → List Value → GH → Prop) (nk : σ → List (Addr × Obj)) (ys : List Value) (i : Nat) (v : Value) (s : Shared) : Prop
  | mk (y : σ) (g : GH) (h : Heap) (tk : Tok) (l : List (Str × Value)) (j : J y (ys ++ [v]) g) (S : St b e' g C h l ((D, listO ys i) :: (L, oL) :: nk y)) (e1 : s = ⟨h, gs, dr, tk, os⟩) : CEnd b e' C D L oL gs dr os J nk ys i v s
noncomputable def CSrc (prog : Program) (w : World) (A : Around) (E : Value → Shared → Prop) (env : Env) (scope : Scope) (cl' : List (Str × Addr)) (ex : Expr) (use : Option (Value → Sem Unit)) (Q : Value → Shared → Prop) (xv : Value) (s₁ : Shared) : Prop :=
  wpAny (model prog w) A (pyIter xv) (fun it s₂ => wpAny (model prog w) A (newList []) (fun acc s₃ => wpAny (model prog w) A (newFunctionEnv scope env.globals cl' [] env.qual none .none (some env)) (fun cenv s₄ =>
    codeAny (model prog w) A (.compStart ex 0 it acc { cenv with scope := relabel scope env }) (compPost (model prog w) A E use Q acc cenv.locals) s₄) E s₃) E s₂) E s₁
noncomputable def CSrcA (prog : Program) (w : World) (A : Around) (E : Value → Shared → Prop) (env : Env) (scope : Scope) (cl' : List (Str × Addr)) (ex : Expr) (yn : Str) (py : Pos) (Q : Flow → Shared → Prop) (xv : Value) (s₁ : Shared) : Prop :=
  CSrc prog w A E env scope cl' ex (some (assign (.Name yn py) env)) (fun _ s' => Q .next s') xv s₁
theorem r_listcomp {elt iter : Expr} {x : Str} {px : Pos} {scope : Scope} {pos : Pos} {Q : Value → Shared → Prop} {s : Shared} (hclos : closureFor scope env = pure cl')
    (hh : wpAny (model prog w) A (eval iter env) (CSrc prog w A E env scope cl' (.ListComp elt [⟨.Name x px, iter, [], 0⟩] scope pos) none Q) E s)
    (hnames : ∀ y ∈ scope.names, y.2 = .local → scope.names.lookup y.1 = some .local := by decide) (hkind : scope.kind = .function := by rfl) (hs : ∀ x, foldedSetIterable iter env x = pure x := by intro _; rfl) :
    wpAny (model prog w) A (eval (.ListComp elt [⟨.Name x px, iter, [], 0⟩] scope pos) env) Q E s := by
  rw [eval_ListComp]
  exact wpAny_comprehension_free (use := none) rfl hs hclos hkind hnames hh
theorem r_assigncomp {elt iter : Expr} {x y : Str} {px py : Pos} {scope : Scope} {pos spos : Pos} {Q : Flow → Shared → Prop} {s : Shared} (hclos : closureFor scope env = pure cl')
    (hsw : swapsWith (.ListComp elt [⟨.Name x px, iter, [], 0⟩] scope pos) (some (.Name y py)) spos.line env = pure true)
    (hh : wpAny (model prog w) A (eval iter env) (CSrcA prog w A E env scope cl' (.ListComp elt [⟨.Name x px, iter, [], 0⟩] scope pos) y py Q) E s)
    (hnames : ∀ y ∈ scope.names, y.2 = .local → scope.names.lookup y.1 = some .local := by decide) (hkind : scope.kind = .function := by rfl) (hs : ∀ x, foldedSetIterable iter env x = pure x := by intro _; rfl) :
    wpAny (model prog w) A (exec (.Assign [.Name y py] (.ListComp elt [⟨.Name x px, iter, [], 0⟩] scope pos) spos) env) Q E s := by
  rw [exec_Assign_Name_used _ _ _ _ hsw]
  refine wpAny_bind (wpAny_standAt (wpAny_bind ?_))
  show wpAny _ A (do let _ ← comprehension (.ListComp elt [⟨.Name x px, iter, [], 0⟩] scope pos) scope env _ (newList []) false (eval iter env) (some (assign (.Name y py) env))) _ _ s
  exact wpAny_bind (wpAny_mono (wpAny_comprehension_free (use := some (assign (.Name y py) env)) (Q := fun _ s' => Q .next s') rfl hs hclos hkind hnames hh) (fun _ s' hq => wpAny_pure (wpAny_pure hq)) fun _ _ e => e)
theorem cpost_none {Q : Value → Shared → Prop} {D C : Addr} {oC oD : Obj} (S : St b e g L h l ((C, oC) :: (D, oD) :: n)) (hC : ∃ m, h.Ns C m) (he : e.h.get? C = none)
    (k : ∀ h', St b e g L h' l ((D, oD) :: n) → Q (.ref D) ⟨h', gs, dr, tk, os⟩) : compPost (model prog w) A E none Q (.ref D) C (.ok .next) ⟨h, gs, dr, tk, os⟩ := by
  obtain ⟨m, hn⟩ := hC
  have nd := S.nd
  rw [List.map_cons, List.nodup_cons] at nd
  have c := S.own _ (.head _)
  exact ⟨m, hn, fun h'' hs => k h'' ((S.pick _ (fun p hp => .tail _ hp) nd.2).off (fun a o ne q => (hs.2 a ne).trans q) c.2.1 c.2.2.1 nd.1 he)⟩
theorem cpost_assign {Q : Flow → Shared → Prop} {D C : Addr} {oC oD : Obj} {y : Str} {py : Pos} (N : En env sc cl L) (hy : sc.names.lookup y = some .local) (S : St b e g L h l ((C, oC) :: (D, oD) :: n)) (hC : ∃ m, h.Ns C m) (he : e.h.get? C = none)
    (k : ∀ h' tk', St b e g L h' ((y, .ref D) :: l) ((D, oD) :: n) → Q .next ⟨h', gs, dr, tk', os⟩) : compPost (model prog w) A E (some (assign (.Name y py) env)) (fun _ s' => Q .next s') (.ref D) C (.ok .next) ⟨h, gs, dr, tk, os⟩ := by
  obtain ⟨m, hn⟩ := hC
  have nd := S.nd
  rw [List.map_cons, List.nodup_cons] at nd
  have c := S.own _ (.head _)
  show wpAny _ A (assign (.Name y py) env (.ref D)) _ _ _
  refine wpAny_assign_Name (r_store N S hy fun h2 tk2 S2 => ?_)
  have c2 := S2.own _ (.head _)
  have e1 : h2.get? C = h.get? C := c2.1.trans c.1.symm
  refine ⟨m, hn.at' (fun o q => e1.trans q), fun h'' hs => k h'' _ ((S2.pick _ (fun p hp => .tail _ hp) nd.2).off (fun a o ne q => (hs.2 a ne).trans q) c.2.1 c.2.2.1 nd.1 he)⟩
inductive CInv {σ : Type} (b : Heap) (e : Ent) (g : GH) (Ca D L : Addr) (oL : Obj) (gs : Array GenState) (dr : Drawn) (os : OsState) (J : Nat → σ → List Value → GH → Prop) (nk : σ → List (Addr × Obj)) (I : Addr) (fp : List Addr) (N : Nat) (Si : Nat → Heap → Prop) (k : Nat) (s : Shared) : Prop
  | mk (i : Nat) (y : σ) (ys : List Value) (g' : GH) (h' : Heap) (tk' : Tok) (e0 : k = N + 1 - i) (hi : i ≤ N) (hy : ys.length = i) (j : J i y ys g') (sub : ∀ a o, g a = some o → g' a = some o) (S : St b e g' Ca h' [] ((D, listO ys i) :: (L, oL) :: nk y)) (st : Si i h') (hg : g' I = none) (hfp : ∀ c ∈ fp, (∃ o, h'.get? c = some o) ∧ c ≠ Ca ∧ c ∉ D :: L :: (nk y).map (·.1)) (e1 : s = ⟨h', gs, dr, tk', os⟩) : CInv b e g Ca D L oL gs dr os J nk I fp N Si k s
theorem r_compW {σ : Type} {elt iter : Expr} {x : Str} {px : Pos} {scope : Scope} {pos : Pos} {use : Option (Value → Sem Unit)} {Q : Value → Shared → Prop} {I : Addr} {fp : List Addr} {N : Nat} {P : Nat → Value → Prop} {Si : Nat → Heap → Prop}
    (J : Nat → σ → List Value → GH → Prop) (nk : σ → List (Addr × Obj)) {x0 : σ} (C : En env sc cl L) (hx : scope.names.lookup x = some .local) (Wk : Walks prog w A I fp [I] N P Si) (hN : N ≤ sizeLine)
    (S : St b e g L h l (nk x0)) (hfp : ∀ c ∈ fp, (∃ o, h.get? c = some o) ∧ c ≠ L ∧ c ∉ (nk x0).map (·.1)) (hg : g I = none) (hI0 : e.h.get? I = none) (hlive : ∀ i h, Si i h → ∃ o, h.get? I = some o) (hst : Si 0 h) (hj : J 0 x0 [] g)
    (turn : ∀ i v y ys g' C D oL h' tk' e' E' R, Cont R (CEnd b e' C D L oL gs dr os (J (i + 1)) nk ys i) → i < N → P i v → J i y ys g' → (∀ a o, g a = some o → g' a = some o) → En (compEnvC scope cl' C env) (relab scope sc) cl' C → St b e' g' C h' [(x, v)] ((D, listO ys i) :: (L, oL) :: nk y) →
      wpAny (model prog w) A (eval elt (compEnvC scope cl' C env)) R E' ⟨h', gs, dr, tk', os⟩)
    (done : ∀ C oC D y ys g' h' tk', J N y ys g' → (∀ a o, g a = some o → g' a = some o) → St b e g' L h' l ((C, oC) :: (D, listO ys N) :: nk y) → (∃ m, h'.Ns C m) → e.h.get? C = none → e.h.get? D = none → compPost (model prog w) A E use Q (.ref D) C (.ok .next) ⟨h', gs, dr, tk', os⟩)
    (hcell : ∀ y ∈ scope.names, y.2 ≠ .cell) (hkind : scope.kind = .function) :
    wpAny (model prog w) A (newList []) (fun acc s₃ => wpAny (model prog w) A (newFunctionEnv scope env.globals cl' [] env.qual none .none (some env)) (fun cenv s₄ =>
      codeAny (model prog w) A (.compStart (.ListComp elt [⟨.Name x px, iter, [], 0⟩] scope pos) 0 (.ref I) acc { cenv with scope := relabel scope env }) (compPost (model prog w) A E use Q acc cenv.locals) s₄) E s₃) E ⟨h, gs, dr, tk, os⟩ := by
  have S1 := S.push (listO [] 0) rfl
  refine wpAny_newObj_type ?_
  refine wpAny_newFunctionEnv hcell (by intro y hy; simp at hy) (fun h2 hn2 hs2 => ?_) hkind
  dsimp only at hn2 hs2 ⊢
  have hkeep : ∀ a o, h.get? a = some o → (h.push (listO [] 0)).get? a = some o := fun a o q => Heap.get?_push_of_some _ q
  have hDsz : (h.push (listO [] 0)).objs.size = h.objs.size + 1 := Heap.size_push _ _
  have lt1 : @LT.lt Nat _ L (h.push (listO [] 0)).objs.size := S1.Llt
  have heD : e.h.get? h.objs.size = none := S.efresh
  have ltf : ∀ c ∈ fp, @LT.lt Nat _ c h.objs.size := fun c hc => by obtain ⟨⟨o, q⟩, _⟩ := hfp c hc; exact Heap.lt_size q
  change h2.Ns (h.push (listO [] 0)).objs.size _ at hn2
  change Heap.SameBut (h.push (listO [] 0)).objs.size ((h.push (listO [] 0)).push _) h2 at hs2
  show codeAny _ A (.compStart _ 0 (.ref I) (.ref h.objs.size) { newEnv scope (h.push (listO [] 0)).objs.size env.globals cl' env.qual none .none (some env) env.builtins with scope := relabel scope env }) _ _
  generalize h.push (listO [] 0) = h1 at hn2 hs2 S1 hkeep hDsz lt1 ⊢
  generalize hC0 : h1.objs.size = Ca at hn2 hs2 lt1 ⊢
  generalize hD0 : h.objs.size = D at *
  have hCD : Ca = D + 1 := by lia
  have hCf : h1.get? Ca = none := none_of_le (by first | decide | lia)
  have grow : ∀ a o, h1.get? a = some o → h2.get? a = some o := fun a o q => by
    have ne : a ≠ Ca := fun z => by rw [z, hCf] at q; cases q
    exact hs2.extBut a o ne (Heap.get?_push_of_some _ q)
  obtain ⟨oC, oa, ob, oc, od⟩ := id hn2
  have S2 : St b e g L h2 l ((Ca, oC) :: (D, listO [] 0) :: nk x0) := S1.add grow oc hCf
  have bC : b.objs.size ≤ Ca := by have := S1.bL; lia
  obtain ⟨oL, hoL, S3'⟩ := S2.switch (lC := []) ⟨_, hn2, fun x v q => by cases q⟩ bC
  have S3 : St b e g Ca h2 [] ((D, listO [] 0) :: (L, oL) :: nk x0) := S3'.pick _ (fun p hp => by
    rcases List.mem_cons.mp hp with rfl | hp
    · exact .tail _ (.head _)
    · rcases List.mem_cons.mp hp with rfl | hp
      · exact .head _
      · exact .tail _ (.tail _ hp)) (by
    have nd := S3'.nd
    simp only [List.map_cons, List.nodup_cons, List.mem_cons, not_or] at nd ⊢
    exact ⟨⟨Ne.symm nd.1.1, nd.2.1⟩, nd.1.2, nd.2.2⟩)
  have heC : e.h.get? Ca = none := S1.none_e hCf
  have hIfp : I ∈ fp := Wk.sub I (.head _)
  have loop : ∀ s₃ : Shared, (∃ t, s₃ = ⟨h2, gs, dr, t, os⟩) →
      codeAny (model prog w) A (.compLoop (.ListComp elt [⟨.Name x px, iter, [], 0⟩] scope pos) 0 (.ref I) (.ref D) (compEnvC scope cl' Ca env)) (compPost (model prog w) A E use Q (.ref D) Ca) s₃ := by
    rintro s₃ ⟨t3, rfl⟩
    refine codeAny_compLoop_list (CInv b e g Ca D L oL gs dr os J nk I fp N Si) ?_ (N + 1)
      ⟨0, x0, [], g, h2, _, rfl, Nat.zero_le _, rfl, hj, fun _ _ q => q, S3, Wk.frame _ _ _ hst fun c hc o q => grow c o (hkeep c o q), hg, fun c hc => ?_, rfl⟩
    · rintro k _ ⟨i, y, ys, g', h', tk', rfl, hi, hyl, hj', hsub, S', hst', hg', hfp', rfl⟩
      have hI := hfp' I hIfp
      by_cases lt : i < N
      · refine Wk.item i _ _ _ lt hst' fun v h3 tk3 hP hst3 hk3 => ?_
        have hk3' : ∀ a o, a ≠ I → h'.get? a = some o → h3.get? a = some o := fun a o ne q => hk3 a o (by simpa using ne) q
        have S4 : St b e g' Ca h3 [] ((D, listO ys i) :: (L, oL) :: nk y) := S'.off hk3' hg' hI.2.1 hI.2.2 hI0
        obtain ⟨m, hn, hm⟩ := S4.ns
        refine wpAny_assign_Name (wpAny_storeName_local (env := compEnvC scope cl' Ca env) (lookup_relabel_local hx) hn (fun h4 hn4 hs4 => ?_) (by simp [compEnvC, relabel, hkind]))
        have S5 : St b e g' Ca h4 [(x, v)] ((D, listO ys i) :: (L, oL) :: nk y) := S4.locals hn4 hs4 (lookup_put hm)
        have live4 : ∀ c ∈ fp, ∃ o, h4.get? c = some o := fun c hc => by
          obtain ⟨⟨o, ho⟩, hcL, _⟩ := hfp' c hc
          by_cases z : c = I
          · subst z
            obtain ⟨o, q⟩ := hlive _ _ hst3
            exact ⟨o, hs4.extBut c o hcL q⟩
          · exact ⟨o, hs4.extBut c o hcL (hk3' c o z ho)⟩
        have off4 : ∀ c ∈ fp, c ∉ Ca :: D :: L :: (nk y).map (·.1) := fun c hc q => by
          rcases List.mem_cons.mp q with q | q
          · exact (hfp' c hc).2.1 q
          · exact (hfp' c hc).2.2 q
        have hst4 : Si (i + 1) h4 := Wk.frame _ _ _ hst3 fun c hc o q => hs4.extBut c o (hfp' c hc).2.1 q
        have N' : En (compEnvC scope cl' Ca env) (relab scope sc) cl' Ca := ⟨relabel_eq C scope, rfl, C.gl, C.bu, rfl, hkind⟩
        refine wpAny_mono (turn i v y ys g' Ca D oL h4 _ _ _ _ (fun _ _ x => x) lt hP hj' hsub N' S5.snap) (fun yv s5 hf => ?_) fun _ _ y => y
        obtain ⟨y5, g5, h5, tk5, l5, hj5, T, rfl⟩ := hf
        have S6 := S5.trans T
        have kept : ∀ c ∈ fp, ∀ o, h4.get? c = some o → h5.get? c = some o := fun c hc o q => T.fr c o q (off4 c hc)
        have zD := (S6.own _ (.head _)).1
        refine append_at (hsz := by rw [List.size_toArray, hyl]; lia) zD fun h6 hs6 hD6 => ?_
        have e6 : h6.get? D = some (listO (ys ++ [yv]) (i + 1)) := by rw [hD6]; simp
        have S7 : St b e g5 Ca h6 l5 ((D, listO (ys ++ [yv]) (i + 1)) :: (L, oL) :: nk y5) := S6.same .head hs6 e6
        have fpD : ∀ c ∈ fp, c ≠ D := fun c hc z => (hfp' c hc).2.2 (z ▸ .head _)
        refine ⟨N + 1 - (i + 1), by lia, i + 1, y5, ys ++ [yv], g5, h6, _, rfl, lt, by simp [hyl], hj5, fun a o q => T.gsub a o (hsub a o q), S7.loc [] (fun x v q => by cases q), Wk.frame _ _ _ hst4 (fun c hc o q => hs6.extBut c o (fpD c hc) (kept c hc o q)), ?_, fun c hc => ?_, rfl⟩
        · cases q : g5 I with
          | none => rfl
          | some o =>
            rcases T.gnew I o q with r | r
            · have r : g' I = some o := r
              rw [hg'] at r; cases r
            · obtain ⟨o', q'⟩ := live4 I hIfp
              have r : h4.get? I = none := r
              rw [r] at q'; cases q'
        · obtain ⟨o, q⟩ := live4 c hc
          refine ⟨⟨o, hs6.extBut c o (fpD c hc) (kept c hc o q)⟩, (hfp' c hc).2.1, fun z => ?_⟩
          have z : c ∈ ((D, listO ys i) :: (L, oL) :: nk y5).map (·.1) := z
          obtain ⟨p, hp, e4⟩ := List.mem_map.mp z
          rcases (T.own p hp).2.2.2 with r | r
          · exact off4 c hc (e4 ▸ r)
          · have r : h4.get? p.1 = none := r
            rw [e4, q] at r; cases r
      · have hiN : i = N := by lia
        subst hiN
        refine Wk.done _ _ _ hst' fun h3 tk3 hk3 => ?_
        have hk3' : ∀ a o, a ≠ I → h'.get? a = some o → h3.get? a = some o := fun a o ne q => hk3 a o (by simpa using ne) q
        have S4 : St b e g' Ca h3 [] ((D, listO ys i) :: (L, oL) :: nk y) := S'.off hk3' hg' hI.2.1 hI.2.2 hI0
        have nd := S4.nd
        have S5 : St b e g' Ca h3 [] ((L, oL) :: (D, listO ys i) :: nk y) := S4.pick _ (fun p hp => by
          rcases List.mem_cons.mp hp with rfl | hp
          · exact .tail _ (.head _)
          · rcases List.mem_cons.mp hp with rfl | hp
            · exact .head _
            · exact .tail _ (.tail _ hp)) (by
          simp only [List.map_cons, List.nodup_cons, List.mem_cons, not_or] at nd ⊢
          exact ⟨⟨Ne.symm nd.1.1, nd.2.1⟩, nd.1.2, nd.2.2⟩)
        obtain ⟨oC', hoC', S6⟩ := S5.switch (lC := l) (hoL _ (S5.own _ (.head _)).1) S.bL
        obtain ⟨m, hm, _⟩ := S4.ns
        exact done Ca oC' D y ys g' h3 tk3 hj' hsub S6 ⟨m, hm⟩ heC heD
    · refine ⟨?_, fun z => ?_, fun z => ?_⟩
      · obtain ⟨⟨o, q⟩, _⟩ := hfp c hc
        exact ⟨o, grow _ _ (hkeep _ _ q)⟩
      · have q := ltf c hc; have z : @Eq Nat c Ca := z; lia
      · rcases List.mem_cons.mp z with z | z
        · have q := ltf c hc; have z : @Eq Nat c D := z; lia
        · rcases List.mem_cons.mp z with z | z
          · exact (hfp c hc).2.1 z
          · exact (hfp c hc).2.2 z
  exact codeAny_compStart_list (loop _ ⟨_, rfl⟩) (Wk.self 0 _ _ _ (Wk.frame _ _ _ hst fun c hc o q => grow c o (hkeep c o q)) (loop _ ⟨_, rfl⟩))
theorem St.offI {x0 : List (Addr × Obj)} {c : Addr} {o : Obj} (S : St b e g L h l x0) (hc : g c = some o) : (∃ o, h.get? c = some o) ∧ c ≠ L ∧ c ∉ x0.map (·.1) := by
  refine ⟨⟨_, S.gk _ _ hc⟩, fun z => ?_, fun z => ?_⟩
  · have := S.lg; rw [← z, hc] at this; cases this
  · obtain ⟨p, hp, e4⟩ := List.mem_map.mp z
    have := (S.own p hp).2.1
    rw [e4, hc] at this; cases this
theorem St.offNew {x0 : List (Addr × Obj)} {o : Obj} (S : St b e g L h l x0) (hf : o.isFreed = false) : (∃ o', (h.push o).get? h.objs.size = some o') ∧ h.objs.size ≠ L ∧ h.objs.size ∉ x0.map (·.1) :=
  ⟨⟨_, Heap.get?_push_size _ hf⟩, Nat.ne_of_gt S.Llt, fun z => by
    obtain ⟨p, hp, e4⟩ := List.mem_map.mp z
    have := Heap.lt_size (S.own p hp).1
    rw [e4] at this
    exact Nat.lt_irrefl _ this⟩
theorem r_clist {σ : Type} {elt iter : Expr} {x : Str} {px : Pos} {scope : Scope} {pos : Pos} {Q : Value → Shared → Prop} {d u : Nat} {a : Addr} {vs : List Value} {kk : Nat} (J : Nat → σ → List Value → GH → Prop) (nk : σ → List (Addr × Obj)) {x0 : σ}
    (Ca : Cx A d u) (C0 : En env sc cl L) (hx : scope.names.lookup x = some .local)  (S : St b e g L h l (nk x0)) (hL : g a = some (listO vs kk)) (hz : vs.length ≤ sizeLine) (hj : J 0 x0 [] g)
    (turn : ∀ i v y ys g' C D oL h' tk' e' E' R, Cont R (CEnd b e' C D L oL gs dr os (J (i + 1)) nk ys i) → vs[i]? = some v → J i y ys g' → (∀ a o, g a = some o → g' a = some o) → En (compEnvC scope cl' C env) (relab scope sc) cl' C → St b e' g' C h' [(x, v)] ((D, listO ys i) :: (L, oL) :: nk y) →
      wpAny (model prog w) A (eval elt (compEnvC scope cl' C env)) R E' ⟨h', gs, dr, tk', os⟩)
    (done : ∀ D y ys g' h' tk', J vs.length y ys g' → (∀ a o, g a = some o → g' a = some o) → e.h.get? D = none → St b e g' L h' l ((D, listO ys vs.length) :: nk y) → Q (.ref D) ⟨h', gs, dr, tk', os⟩)
    (hcell : ∀ y ∈ scope.names, y.2 ≠ .cell := by decide) (hkind : scope.kind = .function := by rfl) :
    CSrc prog w A E env scope cl' (.ListComp elt [⟨.Name x px, iter, [], 0⟩] scope pos) none Q (.ref a) ⟨h, gs, dr, tk, os⟩ := by
  have hne : a ≠ h.objs.size := Nat.ne_of_lt (S.lt hL)
  have hl := S.isListG hL
  refine wpAny_pyIter_list (s := ⟨h, gs, dr, tk, os⟩) hl ?_
  have W := Walks.list (prog := prog) (w := w) Ca.hand h.objs.size a hne vs.toArray
  have S1 := (S.push { cls := .type "list_iterator", data := .fields #[.ref a, .int 0 0] } rfl).pick (nk x0) (fun p hp => .tail _ hp) S.nd
  rw [show vs.toArray.size = vs.length by simp] at W
  refine r_compW J nk C0 hx W hz S1 ?_ S.gfresh S.efresh (fun i h' q => ?_) ⟨⟨_, Heap.get?_push_size _ rfl, rfl, rfl⟩, hl.push _⟩ hj (fun i v y ys g' C D oL h' tk' e' E' R hR lt hP => turn i v y ys g' C D oL h' tk' e' E' R hR (by simpa using hP)) (fun C oC D y ys g' h' tk' hj hs S hC h1 h2 => cpost_none S hC h1 (fun h'' S' => done D y ys g' h'' tk' hj hs h2 S')) hcell hkind
  · intro c hc
    rcases List.mem_cons.mp hc with rfl | hc
    · exact S.offNew rfl
    · obtain rfl := List.mem_singleton.mp hc
      exact S1.offI hL
  · obtain ⟨o, ho, _⟩ := q.1
    exact ⟨o, ho⟩
theorem r_clist_a {σ : Type} {elt iter : Expr} {x : Str} {px : Pos} {scope : Scope} {pos : Pos} {Q : Flow → Shared → Prop} {yn : Str} {py : Pos} {d u : Nat} {a : Addr} {vs : List Value} {kk : Nat} (J : Nat → σ → List Value → GH → Prop) (nk : σ → List (Addr × Obj)) {x0 : σ}
    (Ca : Cx A d u) (C0 : En env sc cl L) (hx : scope.names.lookup x = some .local) (hy : sc.names.lookup yn = some .local) (S : St b e g L h l (nk x0)) (hL : g a = some (listO vs kk)) (hz : vs.length ≤ sizeLine) (hj : J 0 x0 [] g)
    (turn : ∀ i v y ys g' C D oL h' tk' e' E' R, Cont R (CEnd b e' C D L oL gs dr os (J (i + 1)) nk ys i) → vs[i]? = some v → J i y ys g' → (∀ a o, g a = some o → g' a = some o) → En (compEnvC scope cl' C env) (relab scope sc) cl' C → St b e' g' C h' [(x, v)] ((D, listO ys i) :: (L, oL) :: nk y) →
      wpAny (model prog w) A (eval elt (compEnvC scope cl' C env)) R E' ⟨h', gs, dr, tk', os⟩)
    (done : ∀ D y ys g' h' tk', J vs.length y ys g' → (∀ a o, g a = some o → g' a = some o) → e.h.get? D = none → St b e g' L h' ((yn, .ref D) :: l) ((D, listO ys vs.length) :: nk y) → Q .next ⟨h', gs, dr, tk', os⟩)
    (hcell : ∀ y ∈ scope.names, y.2 ≠ .cell := by decide) (hkind : scope.kind = .function := by rfl) :
    CSrcA prog w A E env scope cl' (.ListComp elt [⟨.Name x px, iter, [], 0⟩] scope pos) yn py Q (.ref a) ⟨h, gs, dr, tk, os⟩ := by
  have hne : a ≠ h.objs.size := Nat.ne_of_lt (S.lt hL)
  have hl := S.isListG hL
  refine wpAny_pyIter_list (s := ⟨h, gs, dr, tk, os⟩) hl ?_
  have W := Walks.list (prog := prog) (w := w) Ca.hand h.objs.size a hne vs.toArray
  have S1 := (S.push { cls := .type "list_iterator", data := .fields #[.ref a, .int 0 0] } rfl).pick (nk x0) (fun p hp => .tail _ hp) S.nd
  rw [show vs.toArray.size = vs.length by simp] at W
  refine r_compW J nk C0 hx W hz S1 ?_ S.gfresh S.efresh (fun i h' q => ?_) ⟨⟨_, Heap.get?_push_size _ rfl, rfl, rfl⟩, hl.push _⟩ hj (fun i v y ys g' C D oL h' tk' e' E' R hR lt hP => turn i v y ys g' C D oL h' tk' e' E' R hR (by simpa using hP)) (fun C oC D y ys g' h' tk' hj hs S hC h1 h2 => cpost_assign C0 hy S hC h1 (fun h'' tk'' S' => done D y ys g' h'' tk'' hj hs h2 S')) hcell hkind
  · intro c hc
    rcases List.mem_cons.mp hc with rfl | hc
    · exact S.offNew rfl
    · obtain rfl := List.mem_singleton.mp hc
      exact S1.offI hL
  · obtain ⟨o, ho, _⟩ := q.1
    exact ⟨o, ho⟩
theorem r_ctuple {σ : Type} {elt iter : Expr} {x : Str} {px : Pos} {scope : Scope} {pos : Pos} {Q : Value → Shared → Prop} {d u : Nat} {a : Addr} {vs : List Value} (J : Nat → σ → List Value → GH → Prop) (nk : σ → List (Addr × Obj)) {x0 : σ}
    (Ca : Cx A d u) (C0 : En env sc cl L) (hx : scope.names.lookup x = some .local)  (S : St b e g L h l (nk x0)) (hL : g a = some (tupO vs)) (hz : vs.length ≤ sizeLine) (hj : J 0 x0 [] g)
    (turn : ∀ i v y ys g' C D oL h' tk' e' E' R, Cont R (CEnd b e' C D L oL gs dr os (J (i + 1)) nk ys i) → vs[i]? = some v → J i y ys g' → (∀ a o, g a = some o → g' a = some o) → En (compEnvC scope cl' C env) (relab scope sc) cl' C → St b e' g' C h' [(x, v)] ((D, listO ys i) :: (L, oL) :: nk y) →
      wpAny (model prog w) A (eval elt (compEnvC scope cl' C env)) R E' ⟨h', gs, dr, tk', os⟩)
    (done : ∀ D y ys g' h' tk', J vs.length y ys g' → (∀ a o, g a = some o → g' a = some o) → e.h.get? D = none → St b e g' L h' l ((D, listO ys vs.length) :: nk y) → Q (.ref D) ⟨h', gs, dr, tk', os⟩)
    (hcell : ∀ y ∈ scope.names, y.2 ≠ .cell := by decide) (hkind : scope.kind = .function := by rfl) :
    CSrc prog w A E env scope cl' (.ListComp elt [⟨.Name x px, iter, [], 0⟩] scope pos) none Q (.ref a) ⟨h, gs, dr, tk, os⟩ := by
  have hne : a ≠ h.objs.size := Nat.ne_of_lt (S.lt hL)
  have hl : h.IsTuple a vs.toArray := ⟨_, S.gk _ _ hL, rfl, 0, rfl⟩
  refine wpAny_pyIter_tuple (s := ⟨h, gs, dr, tk, os⟩) hl ?_
  have W := Walks.tuple (prog := prog) (w := w) Ca.hand h.objs.size a hne vs.toArray
  have S1 := (S.push { cls := .type "tuple_iterator", data := .fields #[.ref a, .int 0 0] } rfl).pick (nk x0) (fun p hp => .tail _ hp) S.nd
  rw [show vs.toArray.size = vs.length by simp] at W
  refine r_compW J nk C0 hx W hz S1 ?_ S.gfresh S.efresh (fun i h' q => ?_) ⟨⟨_, Heap.get?_push_size _ rfl, rfl, rfl⟩, hl.push _⟩ hj (fun i v y ys g' C D oL h' tk' e' E' R hR lt hP => turn i v y ys g' C D oL h' tk' e' E' R hR (by simpa using hP)) (fun C oC D y ys g' h' tk' hj hs S hC h1 h2 => cpost_none S hC h1 (fun h'' S' => done D y ys g' h'' tk' hj hs h2 S')) hcell hkind
  · intro c hc
    rcases List.mem_cons.mp hc with rfl | hc
    · exact S.offNew rfl
    · obtain rfl := List.mem_singleton.mp hc
      exact S1.offI hL
  · obtain ⟨o, ho, _⟩ := q.1
    exact ⟨o, ho⟩
theorem r_ctuple_a {σ : Type} {elt iter : Expr} {x : Str} {px : Pos} {scope : Scope} {pos : Pos} {Q : Flow → Shared → Prop} {yn : Str} {py : Pos} {d u : Nat} {a : Addr} {vs : List Value} (J : Nat → σ → List Value → GH → Prop) (nk : σ → List (Addr × Obj)) {x0 : σ}
    (Ca : Cx A d u) (C0 : En env sc cl L) (hx : scope.names.lookup x = some .local) (hy : sc.names.lookup yn = some .local) (S : St b e g L h l (nk x0)) (hL : g a = some (tupO vs)) (hz : vs.length ≤ sizeLine) (hj : J 0 x0 [] g)
    (turn : ∀ i v y ys g' C D oL h' tk' e' E' R, Cont R (CEnd b e' C D L oL gs dr os (J (i + 1)) nk ys i) → vs[i]? = some v → J i y ys g' → (∀ a o, g a = some o → g' a = some o) → En (compEnvC scope cl' C env) (relab scope sc) cl' C → St b e' g' C h' [(x, v)] ((D, listO ys i) :: (L, oL) :: nk y) →
      wpAny (model prog w) A (eval elt (compEnvC scope cl' C env)) R E' ⟨h', gs, dr, tk', os⟩)
    (done : ∀ D y ys g' h' tk', J vs.length y ys g' → (∀ a o, g a = some o → g' a = some o) → e.h.get? D = none → St b e g' L h' ((yn, .ref D) :: l) ((D, listO ys vs.length) :: nk y) → Q .next ⟨h', gs, dr, tk', os⟩)
    (hcell : ∀ y ∈ scope.names, y.2 ≠ .cell := by decide) (hkind : scope.kind = .function := by rfl) :
    CSrcA prog w A E env scope cl' (.ListComp elt [⟨.Name x px, iter, [], 0⟩] scope pos) yn py Q (.ref a) ⟨h, gs, dr, tk, os⟩ := by
  have hne : a ≠ h.objs.size := Nat.ne_of_lt (S.lt hL)
  have hl : h.IsTuple a vs.toArray := ⟨_, S.gk _ _ hL, rfl, 0, rfl⟩
  refine wpAny_pyIter_tuple (s := ⟨h, gs, dr, tk, os⟩) hl ?_
  have W := Walks.tuple (prog := prog) (w := w) Ca.hand h.objs.size a hne vs.toArray
  have S1 := (S.push { cls := .type "tuple_iterator", data := .fields #[.ref a, .int 0 0] } rfl).pick (nk x0) (fun p hp => .tail _ hp) S.nd
  rw [show vs.toArray.size = vs.length by simp] at W
  refine r_compW J nk C0 hx W hz S1 ?_ S.gfresh S.efresh (fun i h' q => ?_) ⟨⟨_, Heap.get?_push_size _ rfl, rfl, rfl⟩, hl.push _⟩ hj (fun i v y ys g' C D oL h' tk' e' E' R hR lt hP => turn i v y ys g' C D oL h' tk' e' E' R hR (by simpa using hP)) (fun C oC D y ys g' h' tk' hj hs S hC h1 h2 => cpost_assign C0 hy S hC h1 (fun h'' tk'' S' => done D y ys g' h'' tk'' hj hs h2 S')) hcell hkind
  · intro c hc
    rcases List.mem_cons.mp hc with rfl | hc
    · exact S.offNew rfl
    · obtain rfl := List.mem_singleton.mp hc
      exact S1.offI hL
  · obtain ⟨o, ho, _⟩ := q.1
    exact ⟨o, ho⟩
theorem r_crange {σ : Type} {elt iter : Expr} {x : Str} {px : Pos} {scope : Scope} {pos : Pos} {Q : Value → Shared → Prop} {d u : Nat} {r : Addr} {N : Nat} {ta tb tc : Tok} (J : Nat → σ → List Value → GH → Prop) (nk : σ → List (Addr × Obj)) {x0 : σ}
    (Ca : Cx A d u) (C0 : En env sc cl L) (hx : scope.names.lookup x = some .local)  (S : St b e g L h l (nk x0)) (hr : IsRange h r 0 N 1 ta tb tc) (hN : N ≤ 2 ^ 20) (hj : J 0 x0 [] g)
    (turn : ∀ i v y ys g' C D oL h' tk' e' E' R, Cont R (CEnd b e' C D L oL gs dr os (J (i + 1)) nk ys i) → (i < N ∧ ∃ t, v = .int i t) → J i y ys g' → (∀ a o, g a = some o → g' a = some o) → En (compEnvC scope cl' C env) (relab scope sc) cl' C → St b e' g' C h' [(x, v)] ((D, listO ys i) :: (L, oL) :: nk y) →
      wpAny (model prog w) A (eval elt (compEnvC scope cl' C env)) R E' ⟨h', gs, dr, tk', os⟩)
    (done : ∀ D y ys g' h' tk', J N y ys g' → (∀ a o, g a = some o → g' a = some o) → e.h.get? D = none → St b e g' L h' l ((D, listO ys N) :: nk y) → Q (.ref D) ⟨h', gs, dr, tk', os⟩)
    (hcell : ∀ y ∈ scope.names, y.2 ≠ .cell := by decide) (hkind : scope.kind = .function := by rfl) :
    CSrc prog w A E env scope cl' (.ListComp elt [⟨.Name x px, iter, [], 0⟩] scope pos) none Q (.ref r) ⟨h, gs, dr, tk, os⟩ := by
  have hsz : Builtin.Range.rangeSize 0 (N : Int) 1 = N := by
    unfold Builtin.Range.rangeSize
    simp
    lia
  refine wpAny_pyIter_range (s := ⟨h, gs, dr, tk, os⟩) hr ?_ ?_
  · unfold Builtin.Range.small
    rw [hsz]
    have q : ∀ i : Int, 0 ≤ i → i < 2 ^ 63 → Builtin.Range.rangeFitsLong i = true := fun i h0 h1 => by
      unfold Builtin.Range.rangeFitsLong
      rw [decide_eq_true (show -(2 ^ 63) ≤ i by lia), decide_eq_true h1]; rfl
    rw [q 0 (by first | decide | lia) (by first | decide | lia), q N (by first | decide | lia) (by first | decide | lia), q 1 (by first | decide | lia) (by first | decide | lia), if_pos (by first | decide | lia), q _ (by first | decide | lia) (by first | decide | lia)]
    simp
  have W := Walks.range (prog := prog) (w := w) Ca.hand h.objs.size 0 1 N
  have S1 := (S.push { cls := .type "range_iterator", data := .fields #[rawInt 0, rawInt (Builtin.Range.rangeSize 0 N 1), rawInt 1] } rfl).pick (nk x0) (fun p hp => .tail _ hp) S.nd
  refine r_compW J nk C0 hx W (by rw [sizeLine_eq]; lia) S1 ?_ S.gfresh S.efresh (fun i h' q => ⟨_, q⟩) ?_ hj (fun i v y ys g' C D oL h' tk' e' E' R hR lt hP => turn i v y ys g' C D oL h' tk' e' E' R hR ⟨lt, ?_⟩) (fun C oC D y ys g' h' tk' hj hs S hC h1 h2 => cpost_none S hC h1 (fun h'' S' => done D y ys g' h'' tk' hj hs h2 S')) hcell hkind
  · intro c hc
    obtain rfl := List.mem_singleton.mp hc
    exact S.offNew rfl
  · show (h.push _).get? h.objs.size = _
    rw [Heap.get?_push_size _ rfl, hsz]
    simp [rawInt]
  · obtain ⟨t, rfl⟩ := hP
    have : (0 : Int) + (i : Int) * 1 = i := by lia
    exact ⟨t, by rw [this]⟩
theorem r_crange_a {σ : Type} {elt iter : Expr} {x : Str} {px : Pos} {scope : Scope} {pos : Pos} {Q : Flow → Shared → Prop} {yn : Str} {py : Pos} {d u : Nat} {r : Addr} {N : Nat} {ta tb tc : Tok} (J : Nat → σ → List Value → GH → Prop) (nk : σ → List (Addr × Obj)) {x0 : σ}
    (Ca : Cx A d u) (C0 : En env sc cl L) (hx : scope.names.lookup x = some .local) (hy : sc.names.lookup yn = some .local) (S : St b e g L h l (nk x0)) (hr : IsRange h r 0 N 1 ta tb tc) (hN : N ≤ 2 ^ 20) (hj : J 0 x0 [] g)
    (turn : ∀ i v y ys g' C D oL h' tk' e' E' R, Cont R (CEnd b e' C D L oL gs dr os (J (i + 1)) nk ys i) → (i < N ∧ ∃ t, v = .int i t) → J i y ys g' → (∀ a o, g a = some o → g' a = some o) → En (compEnvC scope cl' C env) (relab scope sc) cl' C → St b e' g' C h' [(x, v)] ((D, listO ys i) :: (L, oL) :: nk y) →
      wpAny (model prog w) A (eval elt (compEnvC scope cl' C env)) R E' ⟨h', gs, dr, tk', os⟩)
    (done : ∀ D y ys g' h' tk', J N y ys g' → (∀ a o, g a = some o → g' a = some o) → e.h.get? D = none → St b e g' L h' ((yn, .ref D) :: l) ((D, listO ys N) :: nk y) → Q .next ⟨h', gs, dr, tk', os⟩)
    (hcell : ∀ y ∈ scope.names, y.2 ≠ .cell := by decide) (hkind : scope.kind = .function := by rfl) :
    CSrcA prog w A E env scope cl' (.ListComp elt [⟨.Name x px, iter, [], 0⟩] scope pos) yn py Q (.ref r) ⟨h, gs, dr, tk, os⟩ := by
  have hsz : Builtin.Range.rangeSize 0 (N : Int) 1 = N := by
    unfold Builtin.Range.rangeSize
    simp
    lia
  refine wpAny_pyIter_range (s := ⟨h, gs, dr, tk, os⟩) hr ?_ ?_
  · unfold Builtin.Range.small
    rw [hsz]
    have q : ∀ i : Int, 0 ≤ i → i < 2 ^ 63 → Builtin.Range.rangeFitsLong i = true := fun i h0 h1 => by
      unfold Builtin.Range.rangeFitsLong
      rw [decide_eq_true (show -(2 ^ 63) ≤ i by lia), decide_eq_true h1]; rfl
    rw [q 0 (by first | decide | lia) (by first | decide | lia), q N (by first | decide | lia) (by first | decide | lia), q 1 (by first | decide | lia) (by first | decide | lia), if_pos (by first | decide | lia), q _ (by first | decide | lia) (by first | decide | lia)]
    simp
  have W := Walks.range (prog := prog) (w := w) Ca.hand h.objs.size 0 1 N
  have S1 := (S.push { cls := .type "range_iterator", data := .fields #[rawInt 0, rawInt (Builtin.Range.rangeSize 0 N 1), rawInt 1] } rfl).pick (nk x0) (fun p hp => .tail _ hp) S.nd
  refine r_compW J nk C0 hx W (by rw [sizeLine_eq]; lia) S1 ?_ S.gfresh S.efresh (fun i h' q => ⟨_, q⟩) ?_ hj (fun i v y ys g' C D oL h' tk' e' E' R hR lt hP => turn i v y ys g' C D oL h' tk' e' E' R hR ⟨lt, ?_⟩) (fun C oC D y ys g' h' tk' hj hs S hC h1 h2 => cpost_assign C0 hy S hC h1 (fun h'' tk'' S' => done D y ys g' h'' tk'' hj hs h2 S')) hcell hkind
  · intro c hc
    obtain rfl := List.mem_singleton.mp hc
    exact S.offNew rfl
  · show (h.push _).get? h.objs.size = _
    rw [Heap.get?_push_size _ rfl, hsz]
    simp [rawInt]
  · obtain ⟨t, rfl⟩ := hP
    have : (0 : Int) + (i : Int) * 1 = i := by lia
    exact ⟨t, by rw [this]⟩
end
section
variable {prog : Program} {w : World} {A : Around} {E : Value → Shared → Prop} {gs : Array GenState} {dr : Drawn} {tk : Tok} {os : OsState}
variable {b : Heap} {e : Ent} {g g' : GH} {L : Addr} {h h' : Heap} {l : List (Str × Value)} {n n1 n2 n' : List (Addr × Obj)} {K : Frag} {env : Env} {sc : Scope} {cl cl' : List (Str × Addr)}
/-! slices -/
noncomputable def PartR (prog : Program) (w : World) (A : Around) (env : Env) (h : Heap) (gs : Array GenState) (dr : Drawn) (os : OsState) (x : Option Expr) (i : Option Int) : Prop :=
  ∀ (Q : Value → Shared → Prop) (E : Value → Shared → Prop) tk, (∀ v tk', IsPart v i → Q v ⟨h, gs, dr, tk', os⟩) → wpAny (model prog w) A (evalPart x env) Q E ⟨h, gs, dr, tk, os⟩
theorem PartR.none : PartR prog w A env h gs dr os none none := fun Q E tk k => evalPart_none_step (k _ _ .none)
theorem PartR.int {i : Int} {kc : Nat} {p : Pos} : PartR prog w A env h gs dr os (some (.Constant (.int i) kc p)) (some i) := fun Q E tk k => evalPart_some_step (wpAny_Constant_int (k _ _ (.int _ _)))
theorem PartR.neg {i : Int} {kc : Nat} {p up : Pos} : PartR prog w A env h gs dr os (some (.UnaryOp .USub (.Constant (.int i) kc p) up)) (some (-i)) := fun Q E tk k =>
  evalPart_some_step (wpAny_UnaryOp (wpAny_Constant_int (PyProof.Rows.neg_int (k _ _ (.int _ _)))))
theorem PartR.loc {x : Str} {p : Pos} {i : Int} {t : Tok} (N : En env sc cl L) (S : St b e g L h l n) (hl : sc.names.lookup x = some .local) (hv : l.lookup x = some (.int i t)) (hd : (x == ("__debug__" : Str)) = false := by decide) :
    PartR prog w A env h gs dr os (some (.Name x p)) (some i) := fun Q E tk k => evalPart_some_step (r_local N S hl hv (k _ _ (.int _ _)) hd)
theorem keep2 {o o' : Obj} (S : St b e g L h l ((h.objs.size + 1, o') :: (h.objs.size, o) :: n)) : St b e g L h l ((h.objs.size + 1, o') :: n) := S.pick _ (fun p hp => by
    rcases List.mem_cons.mp hp with rfl | hp
    · exact .head _
    · exact .tail _ (.tail _ hp)) (by
    have q := S.nd
    rw [List.map_cons, List.map_cons, List.nodup_cons, List.nodup_cons, List.mem_cons, not_or] at q
    rw [List.map_cons, List.nodup_cons]
    exact ⟨q.1.2, q.2.2⟩)
theorem St.push2 (S : St b e g L h l n) (o o' : Obj) (h1 : o.isFreed = false) (h2 : o'.isFreed = false) : St b e g L ((h.push o).push o') l ((h.objs.size + 1, o') :: n) := by
  have S2 := (S.push o h1).push o' h2
  have e1 : (h.push o).objs.size = h.objs.size + 1 := Heap.size_push _ _
  rw [e1] at S2
  have q := S2.nd
  refine S2.pick _ (fun p hp => ?_) ?_
  · rcases List.mem_cons.mp hp with rfl | hp
    · exact .head _
    · exact .tail _ (.tail _ hp)
  · rw [List.map_cons, List.map_cons, List.nodup_cons, List.nodup_cons, List.mem_cons, not_or] at q
    rw [List.map_cons, List.nodup_cons]
    exact ⟨q.1.2, q.2.2⟩
theorem r_slc {Q : Value → Shared → Prop} {value : Expr} {lower upper : Option Expr} {lo hi : Option Int} {p : Pos} {a : Addr} {vs ws : List Value} {k : Nat} (S : St b e g L h l n) (ha : h.get? a = some (listO vs k)) (hz : vs.length ≤ sizeLine)
    (hlo : PartR prog w A env h gs dr os lower lo) (hup : PartR prog w A env h gs dr os upper hi) (he : slicePick vs.toArray lo hi none = ws.toArray)
    (kk : ∀ a h' tk', e.h.get? a = none → St b e g L h' l ((a, listO ws 0) :: n) → Q (.ref a) ⟨h', gs, dr, tk', os⟩)
    (hs : ∀ c, subscripted (.Slice lower upper none p) false (.ref a) (.ref c) = operate [.ref c, .ref a] (getItem (.ref a) (.ref c)) := by intro _; with_unfolding_all rfl) :
    wpAny (model prog w) A (eval (.Slice lower upper none p) env) (fun i s₂ => wpAny (model prog w) A (subscriptTail value (.Slice lower upper none p) (.ref a) i) Q E s₂) E ⟨h, gs, dr, tk, os⟩ := by
  refine wpAny_Slice (hlo _ _ _ fun vl t1 pl => hup _ _ _ fun vu t2 pu => evalPart_none_step ?_)
  have e0 : h.IsList a vs.toArray := ⟨_, ha, rfl, k, rfl⟩
  refine tail_any (Heap.IsList.typeIs (e0.push _)) slot_list_getitem.lookup (wpAny_getItem_list_slice (e0.push _) (Heap.IsSliceOf.new ..) pl pu .none (by simp) ?_ (by simpa using hz)) (hs _)
  rw [he]
  have S3 := S.push2 { cls := .type "slice", data := .fields #[vl, vu, .none] } (listO ws 0) rfl rfl
  show Q (.ref (h.push _).objs.size) _
  rw [Heap.size_push]
  exact kk _ _ _ (S.none_e (none_of_le (Nat.le_succ _))) S3
/-- t[1:] -/
theorem r_tslc {Q : Value → Shared → Prop} {value : Expr} {j kc : Nat} {cp p : Pos} {a : Addr} {vs : List Value} (S : St b e g L h l n) (ha : g a = some (tupO vs)) (hj : 1 ≤ j) (hz : j ≤ vs.length) (hz2 : vs.length ≤ sizeLine)
    (kk : ∀ a h' g' tk', (∀ c o, g c = some o → g' c = some o) → g' a = some (tupO (vs.drop j)) → St b e g' L h' l n → Q (.ref a) ⟨h', gs, dr, tk', os⟩)
    (hs : ∀ c, subscripted (.Slice (some (.Constant (.int j) kc cp)) none none p) false (.ref a) (.ref c) = operate [.ref c, .ref a] (getItem (.ref a) (.ref c)) := by intro _; with_unfolding_all rfl) :
    wpAny (model prog w) A (eval (.Slice (some (.Constant (.int j) kc cp)) none none p) env) (fun i s₂ => wpAny (model prog w) A (subscriptTail value (.Slice (some (.Constant (.int j) kc cp)) none none p) (.ref a) i) Q E s₂) E ⟨h, gs, dr, tk, os⟩ := by
  refine wpAny_Slice (evalPart_some_step (wpAny_Constant_int (evalPart_none_step (evalPart_none_step ?_))))
  have ht : IsTup h a vs.toArray := ⟨_, S.gk _ _ ha, rfl, 0, rfl⟩
  have ht' : IsTup (h.push { cls := .type "slice", data := .fields #[.int j tk, .none, .none] }) a vs.toArray := ht.keeps fun _ _ e => Heap.get?_push_of_some _ e
  refine tail_any (s := ⟨h.push { cls := .type "slice", data := .fields #[.int j tk, .none, .none] }, gs, dr, tk + 1, os⟩) ht'.typeIs slot_tuple_getitem.lookup
    (getItem_tuple_from ht' (Heap.IsSliceOf.new ..) hj (by simpa using hz) ?_ (by simpa using hz2)) (hs _)
  have S3 := S.push2 { cls := .type "slice", data := .fields #[.int j tk, .none, .none] } (tupO (vs.drop j)) rfl rfl
  show Q (.ref (h.push _).objs.size) _
  rw [Heap.size_push]
  obtain ⟨g1, T, h1, h2⟩ := S3.freeze1 (S.none_e (none_of_le (Nat.le_succ _)))
  have := kk _ _ g1 (tk + 1) h1 h2 T
  simpa using this
/-! tuples -/
theorem r_tadd {Q : Value → Shared → Prop} {a c : Addr} {vs ws : List Value} (S : St b e g L h l n) (ha : g a = some (tupO vs)) (hc : g c = some (tupO ws)) (hz : vs.length + ws.length ≤ sizeLine)
    (kk : ∀ a h' g', (∀ c o, g c = some o → g' c = some o) → g' a = some (tupO (vs ++ ws)) → St b e g' L h' l n → Q (.ref a) ⟨h', gs, dr, tk, os⟩) :
    wpAny (model prog w) A (binaryOp .Add (.ref a) (.ref c)) Q E ⟨h, gs, dr, tk, os⟩ := by
  obtain ⟨m, F, _⟩ := S.frm
  have S' := S.push (tupO (vs ++ ws)) rfl
  have hA := S.gk _ _ ha
  have hC := S.gk _ _ hc
  by_cases hv : vs = []
  · subst hv
    exact add_tuples (s := ⟨h, gs, dr, tk, os⟩) (vs := []) (ws := ws) (news := []) F (fun p hp => by cases hp) ⟨_, hA, rfl, 0, rfl⟩ ⟨_, hC, rfl, 0, rfl⟩ (fun _ => kk _ _ g (fun _ _ q => q) hc S) (fun q => absurd rfl q) (fun q => absurd rfl q) hz
  · by_cases hw : ws = []
    · subst hw
      exact add_tuples (s := ⟨h, gs, dr, tk, os⟩) (vs := vs) (ws := []) (news := []) F (fun p hp => by cases hp) ⟨_, hA, rfl, 0, rfl⟩ ⟨_, hC, rfl, 0, rfl⟩ (fun q => absurd q hv) (fun _ _ => kk _ _ g (fun _ _ q => q) (by simpa using ha) S) (fun _ q => absurd rfl q) hz
    · refine PySem.P.add_tuple (s := ⟨h, gs, dr, tk, os⟩) (items := vs.toArray) (items2 := ws.toArray) hA hC (by simpa using hv) (by simpa using hw) ?_ (by simpa using hz)
      obtain ⟨g1, T, h1, h2⟩ := S'.freeze1 S.efresh
      have := kk _ _ g1 h1 h2 T
      simpa using this
theorem r_untup {Q : Unit → Shared → Prop} {elts : List Expr} {k : Nat} {pos : Pos} {a : Addr} {vs : List Value} {d u : Nat} (C : Cx A d u) (S : St b e g L h l n) (ha : g a = some (tupO vs)) (hn : (assignEach elts env).length = vs.length)
    (kk : ∀ h', St b e g L h' l n → wpAny (model prog w) A (assignInOrder ((assignEach elts env).map (·.2)) vs) Q E ⟨h', gs, dr, tk, os⟩) (hstar : (assignEach elts env).findIdx? (·.1) = none := by rfl) :
    wpAny (model prog w) A (assign (.Tuple elts k pos) env (.ref a)) Q E ⟨h, gs, dr, tk, os⟩ :=
  assign_Tuple_tuple (s := ⟨h, gs, dr, tk, os⟩) C.hand ⟨_, S.gk _ _ ha, rfl, 0, rfl⟩ (by simpa using hn) hstar fun h' he => kk h' (S.grow fun a o q => he a o (Nat.ne_of_lt (Heap.lt_size q)) q)
theorem r_unpack {Q : List Value → Shared → Prop} {a : Addr} {vs : List Value} {d u : Nat} {N : Nat} (C : Cx A d u) (S : St b e g L h l n) (ha : g a = some (tupO vs)) (hN : N = vs.length)
    (kk : ∀ h', St b e g L h' l n → Q vs ⟨h', gs, dr, tk, os⟩) : wpAny (model prog w) A (unpackItems (.ref a) N none) Q E ⟨h, gs, dr, tk, os⟩ := by
  have := unpackItems_tuple (prog := prog) (w := w) (E := E) (s := ⟨h, gs, dr, tk, os⟩) (t := a) (items := vs.toArray) (Q := Q) C.hand ⟨_, S.gk _ _ ha, rfl, 0, rfl⟩ (fun h' he => by
    simpa using kk h' (S.grow fun a o q => he a o (Nat.ne_of_lt (Heap.lt_size q)) q))
  rw [hN]
  simpa using this
/-! isinstance, in, is -/
theorem r_isi {Q : Value → Shared → Prop} {x t c : Value} {H : Heap → Prop} {r : Bool} (W : Wo K b) (S : St b e g L h l n) (Z : KitX K x t H) (p : H h) (hc : kitOne K t c = some r) (hx : x ≠ .builtin "__main__.__loader__#opaque") (kk : ∀ tk', Q (.bool r) ⟨h, gs, dr, tk', os⟩) :
    wpAny (model prog w) A (call (.builtin "isinstance") [x, c]) Q E ⟨h, gs, dr, tk, os⟩ := kia_one (s := ⟨h, gs, dr, tk, os⟩) Z (S.kin W) p hc hx kk
theorem r_isit {Q : Value → Shared → Prop} {x t : Value} {a : Addr} {cs : List Value} {H : Heap → Prop} {r : Bool} (W : Wo K b) (S : St b e g L h l n) (Z : KitX K x t H) (p : H h) (ha : g a = some (tupO cs)) (hc : kitAny K t cs = some r) (hx : x ≠ .builtin "__main__.__loader__#opaque") (kk : ∀ tk', Q (.bool r) ⟨h, gs, dr, tk', os⟩) :
    wpAny (model prog w) A (call (.builtin "isinstance") [x, .ref a]) Q E ⟨h, gs, dr, tk, os⟩ := kia_tup (s := ⟨h, gs, dr, tk, os⟩) Z (S.kin W) p (S.gk _ _ ha) hc hx kk
theorem ints_are : ∀ {vs is}, Ints vs is → IntsAre vs is
  | [], [], _ => .nil
  | v :: vs, i :: is, h => by
    obtain ⟨t, rfl⟩ := h.1
    exact .cons _ _ (ints_are h.2)
  | [], _ :: _, h => h.elim
  | _ :: _, [], h => h.elim
theorem r_inT {Q : Value → Shared → Prop} {a : Addr} {vs : List Value} {is : List Int} {x : Int} {t : Tok} (S : St b e g L h l n) (ha : g a = some (tupO vs)) (hi : Ints vs is) (kk : Q (.bool (is.any (· == x))) ⟨h, gs, dr, tk, os⟩) :
    wpAny (model prog w) A (compareOp .In (.int x t) (.ref a)) Q E ⟨h, gs, dr, tk, os⟩ := in_tuple_ints (s := ⟨h, gs, dr, tk, os⟩) ⟨_, S.gk _ _ ha, rfl, 0, rfl⟩ (ints_are hi) kk
end
section
variable {prog : Program} {w : World} {A : Around} {E : Value → Shared → Prop} {gs : Array GenState} {dr : Drawn} {tk : Tok} {os : OsState}
variable {b : Heap} {e : Ent} {g g' : GH} {L : Addr} {h h' : Heap} {l : List (Str × Value)} {n n1 n2 n' p q : List (Addr × Obj)} {K : Frag} {env : Env} {sc : Scope} {cl cl' : List (Str × Addr)}
theorem r_rangeN {Q : Value → Shared → Prop} {N : Nat} {t : Tok} (S : St b e g L h l n) (k : ∀ r h' tk' ta tb tc, IsRange h' r 0 N 1 ta tb tc → St b e g L h' l n → Q (.ref r) ⟨h', gs, dr, tk', os⟩) :
    wpAny (model prog w) A (call (.type "range") [.int (N : Nat) t]) Q E ⟨h, gs, dr, tk, os⟩ :=
  call_range_1 (s := ⟨h, gs, dr, tk, os⟩) (k _ _ _ _ _ _ (Heap.get?_push_size _ rfl) ((S.push _ rfl).pick n (fun p hp => .tail _ hp) S.nd))
theorem St.perm (S : St b e g L h l n) (hp : n.Perm n') : St b e g L h l n' := S.pick n' (fun p h => hp.mem_iff.mpr h) ((hp.map _).nodup_iff.mp S.nd)
theorem perm_mid : (p ++ (n1 ++ q)).Perm (n1 ++ (p ++ q)) := by
  rw [← List.append_assoc, ← List.append_assoc]
  exact List.Perm.append_right q List.perm_append_comm
/-- behind a call that was handed objects out of the middle -/
theorem St.backp (S : St b e g L h l (p ++ (n1 ++ q))) (F : Fin ⟨h, g, n1.map (·.1)⟩ g' h' n') (hk : n'.map (·.1) = n1.map (·.1)) : St b e g' L h' l (p ++ (n' ++ q)) :=
  (St.back (n1 := n1) (n2 := p ++ q) (S.perm perm_mid) F hk).perm perm_mid.symm
theorem St.prep (S : St b e g L h l (p ++ (n1 ++ q))) : Pre b g h n1 :=
  S.pre n1 (fun x hx => List.mem_append_right _ (List.mem_append_left _ hx)) (by
    have := S.nd
    rw [List.map_append, List.map_append, List.nodup_append, List.nodup_append] at this
    exact this.2.1.1)
theorem St.freezep {a : Addr} {o : Obj} (S : St b e g L h l (p ++ ([(a, o)] ++ q))) (he : e.h.get? a = none) : ∃ g', St b e g' L h l (p ++ q) ∧ (∀ c x, g c = some x → g' c = some x) ∧ g' a = some o := (S.perm perm_mid).freeze1 he
theorem St.drop1 {x : Addr × Obj} (S : St b e g L h l (x :: n)) : St b e g L h l n := S.pick n (fun p hp => .tail _ hp) (by have := S.nd; rw [List.map_cons, List.nodup_cons] at this; exact this.2)
theorem ite_join {α : Type} {c : Prop} [Decidable c] {M : Model} {A : Around} {E : Value → Shared → Prop} {s : Shared} {x y : Sem α} {K : α → Shared → Prop} (R : α → Shared → Prop) (h1 : c → wpAny M A x R E s) (h2 : ¬c → wpAny M A y R E s) (h : ∀ v s', R v s' → K v s') :
    (if c then wpAny M A x K E s else wpAny M A y K E s) := by
  by_cases q : c
  · rw [if_pos q]; exact wpAny_mono (h1 q) h fun _ _ z => z
  · rw [if_neg q]; exact wpAny_mono (h2 q) h fun _ _ z => z
/-- the numbers that a comprehension draws -/
noncomputable def numsL (m : Int) (i : Nat) : List Int := (List.range i).map fun j => m + 1 + (j : Nat)
theorem numsL_succ (m : Int) (i : Nat) : numsL m (i + 1) = numsL m i ++ [m + 1 + i] := by simp [numsL, List.range_succ]
theorem numsL_mem {m : Int} {i : Nat} {n : Int} (h : n ∈ numsL m i) : m < n ∧ n ≤ m + i := by
  simp only [numsL, List.mem_map, List.mem_range] at h
  obtain ⟨j, hj, rfl⟩ := h
  lia
theorem numsL_nodup (m : Int) : ∀ i : Nat, (numsL m i).Nodup
  | 0 => List.nodup_nil
  | i + 1 => by
    rw [numsL_succ, List.nodup_append]
    refine ⟨numsL_nodup m i, by simp, fun a ha b hb => ?_⟩
    simp only [List.mem_singleton] at hb
    have := numsL_mem ha
    lia
theorem numsL_length (m : Int) (i : Nat) : (numsL m i).length = i := by simp [numsL]
theorem r_bind {Q : Unit → Shared → Prop} {x : Str} {v : Value} (N : En env sc cl L) (S : St b e g L h l n) (hl : sc.names.lookup x = some .local)
    (k : ∀ h' tk', St b e g L h' ((x, v) :: l) n → Q () ⟨h', gs, dr, tk', os⟩) : wpAny (model prog w) A (bindName env x v) Q E ⟨h, gs, dr, tk, os⟩ :=
  wpAny_bindName (r_store N S hl k)
theorem r_swap2 {Q : Unit → Shared → Prop} {x y : Str} {v1 v2 : Value} {a : Addr} {d u : Nat} (C : Cx A d u) (N : En env sc cl L) (S : St b e g L h l n) (ha : g a = some (tupO [v1, v2])) (hx : sc.names.lookup x = some .local) (hy : sc.names.lookup y = some .local)
    (k : ∀ h' tk', St b e g L h' ((x, v1) :: (y, v2) :: l) n → Q () ⟨h', gs, dr, tk', os⟩) :
    wpAny (model prog w) A (unpackItems (.ref a) [x, y].length none) (fun items s₂ => wpAny (model prog w) A (assignInOrder ([x, y].reverse.map fun n => bindName env n) items.reverse) Q E s₂) E ⟨h, gs, dr, tk, os⟩ := by
  refine r_unpack C S ha rfl fun h1 S1 => ?_
  exact assignInOrder_cons (r_bind N S1 hy fun h2 t2 S2 => assignInOrder_cons (r_bind N S2 hx fun h3 t3 S3 => assignInOrder_nil (k _ _ S3)))
theorem r_swap3 {Q : Unit → Shared → Prop} {x y z : Str} {v1 v2 v3 : Value} {a : Addr} {d u : Nat} (C : Cx A d u) (N : En env sc cl L) (S : St b e g L h l n) (ha : g a = some (tupO [v1, v2, v3])) (hx : sc.names.lookup x = some .local) (hy : sc.names.lookup y = some .local) (hz : sc.names.lookup z = some .local)
    (k : ∀ h' tk', St b e g L h' ((x, v1) :: (y, v2) :: (z, v3) :: l) n → Q () ⟨h', gs, dr, tk', os⟩) :
    wpAny (model prog w) A (unpackItems (.ref a) [x, y, z].length none) (fun items s₂ => wpAny (model prog w) A (assignInOrder ([x, y, z].reverse.map fun n => bindName env n) items.reverse) Q E s₂) E ⟨h, gs, dr, tk, os⟩ := by
  refine r_unpack C S ha rfl fun h1 S1 => ?_
  exact assignInOrder_cons (r_bind N S1 hz fun h2 t2 S2 => assignInOrder_cons (r_bind N S2 hy fun h3 t3 S3 => assignInOrder_cons (r_bind N S3 hx fun h4 t4 S4 => assignInOrder_nil (k _ _ S4))))
end
section
variable {prog : Program} {w : World} {A : Around} {E : Value → Shared → Prop} {gs : Array GenState} {dr : Drawn} {tk : Tok} {os : OsState}
variable {b : Heap} {e : Ent} {g g' : GH} {L : Addr} {h h' : Heap} {l : List (Str × Value)} {n n1 n2 p q : List (Addr × Obj)} {K : Frag} {env : Env} {sc : Scope} {cl cl' : List (Str × Addr)}
theorem r_slcI {Q : Value → Shared → Prop} {value : Expr} {lower upper : Option Expr} {lo hi : Option Int} {p : Pos} {a : Addr} {vs ws : List Value} (S : St b e g L h l n) (e0 : h.IsList a vs.toArray) (hz : vs.length ≤ sizeLine)
    (hlo : PartR prog w A env h gs dr os lower lo) (hup : PartR prog w A env h gs dr os upper hi) (he : slicePick vs.toArray lo hi none = ws.toArray)
    (kk : ∀ a h' tk', e.h.get? a = none → St b e g L h' l ((a, listO ws 0) :: n) → Q (.ref a) ⟨h', gs, dr, tk', os⟩)
    (hs : ∀ c, subscripted (.Slice lower upper none p) false (.ref a) (.ref c) = operate [.ref c, .ref a] (getItem (.ref a) (.ref c)) := by intro _; with_unfolding_all rfl) :
    wpAny (model prog w) A (eval (.Slice lower upper none p) env) (fun i s₂ => wpAny (model prog w) A (subscriptTail value (.Slice lower upper none p) (.ref a) i) Q E s₂) E ⟨h, gs, dr, tk, os⟩ := by
  refine wpAny_Slice (hlo _ _ _ fun vl t1 pl => hup _ _ _ fun vu t2 pu => evalPart_none_step ?_)
  refine tail_any (Heap.IsList.typeIs (e0.push _)) slot_list_getitem.lookup (wpAny_getItem_list_slice (e0.push _) (Heap.IsSliceOf.new ..) pl pu .none (by simp) ?_ (by simpa using hz)) (hs _)
  rw [he]
  have S3 := S.push2 { cls := .type "slice", data := .fields #[vl, vu, .none] } (listO ws 0) rfl rfl
  show Q (.ref (h.push _).objs.size) _
  rw [Heap.size_push]
  exact kk _ _ _ (S.none_e (none_of_le (Nat.le_succ _))) S3
/-- behind a call that gives a new object, still to be changed -/
theorem St.backn {o : Obj} {a : Addr} (S : St b e g L h l n) (F : Fin ⟨h, g, []⟩ g' h' [(a, o)]) (hg : g' a = none) (ha : h.get? a = none) : St b e g' L h' l ((a, o) :: n) := by
  have T : St b e g' L h' l n := St.back (n1 := []) (n' := []) S { F with own := fun p hp => nomatch hp } rfl
  refine { T with own := fun p hp => ?_, nd := ?_ }
  · rcases List.mem_cons.mp hp with rfl | hp
    · refine ⟨F.own _ (.head _), hg, fun z => ?_, .inr (S.none_e ha)⟩
      obtain ⟨m, ⟨oL, _, _, hL, _⟩, _⟩ := S.ns
      have z : a = L := z
      rw [z, hL] at ha; cases ha
    · exact T.own p hp
  · rw [List.map_cons, List.nodup_cons]
    refine ⟨fun hm => ?_, S.nd⟩
    obtain ⟨p, hp, e1⟩ := List.mem_map.mp hm
    have := (S.own p hp).1
    rw [e1, ha] at this; cases this
theorem execs_append : ∀ x y : List Stmt, execs (x ++ y) env = (do let f ← execs x env; match f with | .next => execs y env | f => pure f)
  | [], y => by rw [execs_nil]; simp
  | st :: x, y => by
    rw [List.cons_append, execs_cons, execs_cons, execs_append x y]
    rw [bind_assoc]
    congr
    funext f
    cases f <;> simp
theorem execs_app {x y : List Stmt} {Q : Flow → Shared → Prop} {s : Shared} (R : Flow → Shared → Prop) (h1 : wpAny (model prog w) A (execs x env) R E s) (h2 : ∀ f s', R f s' → match f with | .next => wpAny (model prog w) A (execs y env) Q E s' | f => Q f s') :
    wpAny (model prog w) A (execs (x ++ y) env) Q E s := by
  rw [execs_append]
  refine wpAny_bind (wpAny_mono h1 (fun f s' hf => ?_) fun _ _ z => z)
  have := h2 f s' hf
  cases f <;> first | exact this | exact wpAny_pure this
theorem r_repr_int {Q : Value → Shared → Prop} {i : Int} {t : Tok} (hi : i.natAbs.log2 < 1920) (hz : (toString i : Str).length ≤ sizeLine) (kk : ∀ t tk', Q (.str (toString i) t) ⟨h, gs, dr, tk', os⟩) : wpAny (model prog w) A (call (.builtin "repr") [.int i t]) Q E ⟨h, gs, dr, tk, os⟩ :=
  call_repr_gives (s := ⟨h, gs, dr, tk, os⟩) (T := "int") rfl PySem.F.slot_int_repr PySem.F.entry_int_repr (PySem.F.args_int_repr_1 _) (gives_int_repr i t hi) (kk _ _) rfl hz
theorem r_repr_bool {Q : Value → Shared → Prop} {x : Bool} (kk : ∀ t tk', Q (.str (if x then "True" else "False") t) ⟨h, gs, dr, tk', os⟩) : wpAny (model prog w) A (call (.builtin "repr") [.bool x]) Q E ⟨h, gs, dr, tk, os⟩ :=
  call_repr_gives (s := ⟨h, gs, dr, tk, os⟩) (T := "bool") rfl PySem.F.slot_bool_repr PySem.F.entry_bool_repr (PySem.F.args_bool_repr_1 _) (gives_bool_repr x) (kk _ _) rfl (by cases x <;> decide)
theorem r_int_bool {Q : Value → Shared → Prop} {x : Bool} (kk : ∀ t tk', Q (.int (if x then 1 else 0) t) ⟨h, gs, dr, tk', os⟩) : wpAny (model prog w) A (call (.type "int") [.bool x]) Q E ⟨h, gs, dr, tk, os⟩ := call_int_bool (kk _ _)
theorem preSum_ints {is : List Int} : ∀ n : Nat, n ≤ is.length → preSum (fun i => is.getD i 0) n = (is.take n).sum
  | 0, _ => by simp [preSum]
  | n + 1, hn => by
    rw [preSum, preSum_ints n (by first | decide | lia), List.take_succ_eq_append_getElem (by first | decide | lia), List.sum_append]
    simp only [List.getD, List.sum_cons, List.sum_nil, Int.add_zero]
    rw [List.getElem?_eq_getElem (by first | decide | lia)]
    rfl
theorem r_sum {Q : Value → Shared → Prop} {d u : Nat} {a : Addr} {vs : List Value} {is : List Int} {kk : Nat} (C : Cx A d (u + 1)) (S : St b e g L h l n) (ha : g a = some (listO vs kk)) (hi : Ints vs is)
    (k : ∀ t h' tk', St b e g L h' l n → Q (.int is.sum t) ⟨h', gs, dr, tk', os⟩) : wpAny (model prog w) A (call (.builtin "sum") [.ref a]) Q E ⟨h, gs, dr, tk, os⟩ := by
  have hl := S.isListG ha
  refine call_sum_walkG (s := ⟨h, gs, dr, tk, os⟩) (wpAny_pyIter_list (s := ⟨h, gs, dr, tk, os⟩) hl ?_)
  have hne : a ≠ h.objs.size := Nat.ne_of_lt (S.lt ha)
  have S1 := (S.push { cls := .type "list_iterator", data := .fields #[.ref a, .int 0 0] } rfl).pick n (fun p hp => .tail _ hp) S.nd
  refine ⟨h.objs.size, [h.objs.size, a], [h.objs.size], vs.length, (fun i v => vs.toArray[i]? = some v), (fun i h' => h'.IsListIter h.objs.size a i ∧ h'.IsList a vs.toArray), fun i => is.getD i 0, rfl, by simpa using Walks.list (prog := prog) (w := w) C.in1.hand h.objs.size a hne vs.toArray, ⟨⟨_, Heap.get?_push_size _ rfl, rfl, rfl⟩, hl.push _⟩, ?_, ?_, ?_⟩
  · intro c hc
    show c < (h.push _).objs.size
    rw [Heap.size_push]
    rcases List.mem_cons.mp hc with rfl | hc
    · exact Nat.lt_succ_self _
    · rw [List.mem_singleton.mp hc]; exact Nat.lt_succ_of_lt (S.lt ha)
  · intro i v hv
    have hv : vs[i]? = some v := by simpa using hv
    have hlt : i < is.length := by rw [← Ints.length hi]; exact (List.getElem?_eq_some_iff.mp hv).1
    obtain ⟨t, ht⟩ := Ints.get hi (List.getElem?_eq_getElem hlt)
    rw [hv] at ht
    cases ht
    exact ⟨t, by simp [List.getD, List.getElem?_eq_getElem hlt]⟩
  · intro h' tk' t' hk
    rw [preSum_ints _ (by rw [Ints.length hi]; exact Nat.le_refl _), Ints.length hi, List.take_length]
    have off := S.offNew (o := { cls := .type "list_iterator", data := .fields #[.ref a, .int 0 0] }) rfl
    exact k _ _ _ (S1.off (fun c o ne z => hk c o (by simpa using ne) z) S.gfresh off.2.1 off.2.2 S.efresh)
/-! dicts by ints -/
noncomputable abbrev IsM (prog : Program) (w : World) (o : Obj) (kvs : List (Int × Value)) : Prop := o.IsDictOf (intKind prog w) kvs
theorem valueAt_nil (k : Int) : valueAt ([] : List (Int × Value)) k = none := rfl
theorem valueAt_cons (p : Int × Value) (kvs : List (Int × Value)) (x : Int) : valueAt (p :: kvs) x = if p.1 = x then some p.2 else valueAt kvs x := by
  unfold valueAt
  rw [List.find?_cons]
  by_cases h : p.1 = x
  · simp [h]
  · simp [h]
theorem valueAt_append (k : Int) (v : Value) (x : Int) : ∀ kvs : List (Int × Value), (∀ p ∈ kvs, p.1 ≠ k) → valueAt (kvs ++ [(k, v)]) x = if x = k then some v else valueAt kvs x
  | [], _ => by
    rw [List.nil_append, valueAt_cons]
    by_cases h : x = k
    · subst h; simp
    · rw [if_neg (fun z => h z.symm), if_neg h]
  | p :: kvs, hp => by
    rw [List.cons_append, valueAt_cons, valueAt_cons, valueAt_append k v x kvs fun q hq => hp q (.tail _ hq)]
    have := hp p (.head _)
    by_cases h : p.1 = x
    · subst h
      rw [if_pos rfl, if_pos rfl, if_neg this]
    · rw [if_neg h, if_neg h]
theorem valueAt_map (k : Int) (v : Value) (x : Int) : ∀ kvs : List (Int × Value), (∃ p ∈ kvs, p.1 = k) → valueAt (kvs.map fun kv => if kv.1 = k then (kv.1, v) else kv) x = if x = k then some v else valueAt kvs x
  | [], h => by obtain ⟨_, h, _⟩ := h; cases h
  | p :: kvs, h => by
    rw [List.map_cons, valueAt_cons, valueAt_cons]
    by_cases hp : p.1 = k
    · rw [if_pos hp]
      by_cases hx : p.1 = x
      · rw [if_pos hx, if_pos (hx ▸ hp)]
      · rw [if_neg hx, if_neg hx]
        by_cases hk : x = k
        · exact absurd (hp.trans hk.symm) hx
        · rw [if_neg hk]
          clear h
          induction kvs with
          | nil => rfl
          | cons r kvs ih =>
            rw [List.map_cons, valueAt_cons, valueAt_cons, ih]
            by_cases hr : r.1 = k
            · rw [if_pos hr]
              have : ¬ r.1 = x := fun z => hk (z ▸ hr)
              rw [if_neg this, if_neg this]
            · rw [if_neg hr]
    · rw [if_neg hp]
      have h' : ∃ p ∈ kvs, p.1 = k := by
        obtain ⟨q, hq, e⟩ := h
        rcases List.mem_cons.mp hq with rfl | hq
        · exact absurd e hp
        · exact ⟨q, hq, e⟩
      rw [valueAt_map k v x kvs h']
      by_cases hx : p.1 = x
      · subst hx; rw [if_pos rfl, if_pos rfl, if_neg hp]
      · rw [if_neg hx, if_neg hx]
theorem valueAt_stored (kvs : List (Int × Value)) (k x : Int) (v : Value) : valueAt (stored kvs k v) x = if x = k then some v else valueAt kvs x := by
  unfold stored
  split
  · rename_i h
    refine valueAt_map k v x kvs ?_
    obtain ⟨p, hp, e⟩ := List.any_eq_true.mp h
    exact ⟨p, hp, by simpa using e⟩
  · rename_i h
    refine valueAt_append k v x kvs fun p hp e => h (List.any_eq_true.mpr ⟨p, hp, by simpa using e⟩)
theorem stored_length (kvs : List (Int × Value)) (k : Int) (v : Value) : (stored kvs k v).length ≤ kvs.length + 1 := by
  unfold stored
  split <;> simp
theorem isM_nil : IsM prog w { cls := .type "dict", data := .dict #[] } [] :=
  ⟨#[], 0, ⟨rfl, rfl, rfl⟩, rfl, fun e he => by simp at he, .nil, List.nodup_nil⟩
theorem notMods (W : Wo K b) (S : St b e g L h l n) {d : Addr} (hd : b.objs.size ≤ d) : (d == sysModules) = false := by
  obtain ⟨_, _, _, _, T⟩ := W.top
  have := modules_low T.nolimit
  have h1 : @LT.lt Nat _ sysModules d := Nat.lt_of_lt_of_le this hd
  exact beq_eq_false_iff_ne.mpr (Nat.ne_of_gt h1)
theorem r_newdict {Q : Value → Shared → Prop} {pos : Pos} (W : Wo K b) (S : St b e g L h l n)
    (kk : ∀ d o h', e.h.get? d = none → (d == sysModules) = false → IsM prog w o [] → St b e g L h' l ((d, o) :: n) → Q (.ref d) ⟨h', gs, dr, tk, os⟩) : wpAny (model prog w) A (eval (.Dict [] [] pos) env) Q E ⟨h, gs, dr, tk, os⟩ :=
  wpAny_Dict_empty (s := ⟨h, gs, dr, tk, os⟩) (kk _ _ _ S.efresh (notMods W S (Nat.le_of_lt (Nat.lt_of_le_of_lt S.bL S.Llt))) isM_nil (S.push _ rfl))
theorem dictAt {d : Addr} {o : Obj} {kvs : List (Int × Value)} (hd : h.get? d = some o) (hm : IsM prog w o kvs) : h.DictOf (intKind prog w) d kvs := Heap.dictOf_iff.mpr ⟨o, hd, hm⟩
theorem isK (i : Int) (t : Tok) : (intKind prog w).is i (.int i t) = true := by simp [intKind, Value.isInt]
theorem r_dget2 {Q : Value → Shared → Prop} {d : Addr} {o : Obj} {kvs : List (Int × Value)} {i : Int} {t : Tok} {x : Value} (hd : h.get? d = some o) (hm : IsM prog w o kvs) (lo : (d == sysModules) = false) (kk : ∀ tk', Q ((valueAt kvs i).getD x) ⟨h, gs, dr, tk', os⟩) :
    wpAny (model prog w) A (call (.builtin "dict.get") [.ref d, .int i t, x]) Q E ⟨h, gs, dr, tk, os⟩ := by
  have hD := dictAt hd hm
  exact call_meetsIn PySem.F.slot_dict_get (s := ⟨h, gs, dr, tk, os⟩) hD.typeIs PySem.F.entry_dict_get (PySem.F.args_dict_get_3 _ _ _) (meets_dict_get_default (intKind prog w) d (isK i t) lo x) ⟨_, hD.mapOf, kk _⟩
theorem r_ditem {Q : Value → Shared → Prop} {value slice : Expr} {d : Addr} {o : Obj} {kvs : List (Int × Value)} {i : Int} {t : Tok} {v : Value} (hd : h.get? d = some o) (hm : IsM prog w o kvs) (hv : valueAt kvs i = some v) (kk : ∀ tk', Q v ⟨h, gs, dr, tk', os⟩)
    (hs : subscripted slice false (.ref d) (.int i t) = operate [.ref d, .int i t] (getItem (.ref d) (.int i t)) := by with_unfolding_all rfl) :
    wpAny (model prog w) A (subscriptTail value slice (.ref d) (.int i t)) Q E ⟨h, gs, dr, tk, os⟩ := by
  have hD := dictAt hd hm
  exact tail_any (s := ⟨h, gs, dr, tk, os⟩) hD.typeIs slot_dict_getitem.lookup (wpAny_getItem_of (isK i t) hD.mapOf hv (kk _)) hs
theorem r_dset {Q : Unit → Shared → Prop} {d : Addr} {o : Obj} {kvs : List (Int × Value)} {i : Int} {t : Tok} {v : Value} {n' : Obj → List (Addr × Obj)} (S : St b e g L h l n) (u : ∀ o', Up d o o' n (n' o')) (hm : IsM prog w o kvs) (hz : kvs.length ≤ sizeLine)
    (kk : ∀ o' h' tk', IsM prog w o' (stored kvs i v) → St b e g L h' l (n' o') → Q () ⟨h', gs, dr, tk', os⟩) : wpAny (model prog w) A (setItem (.ref d) (.int i t) v) Q E ⟨h, gs, dr, tk, os⟩ := by
  have hd := (S.own _ (u o).mem).1
  refine wpAny_setItem_pairs (s := ⟨h, gs, dr, tk, os⟩) (isK i t) (dictAt hd hm) (fun h' hm' hs => ?_) hz
  obtain ⟨o', ho', hm''⟩ := Heap.dictOf_iff.mp hm'
  exact kk o' h' _ hm'' (S.same (u o') hs ho')
theorem r_din {Q : Value → Shared → Prop} {d : Addr} {o : Obj} {kvs : List (Int × Value)} {i : Int} {t : Tok} (hd : h.get? d = some o) (hm : IsM prog w o kvs) (lo : (d == sysModules) = false) (kk : ∀ tk', Q (.bool (valueAt kvs i).isSome) ⟨h, gs, dr, tk', os⟩) :
    wpAny (model prog w) A (compareOp .In (.int i t) (.ref d)) Q E ⟨h, gs, dr, tk, os⟩ := wpAny_in_of (s := ⟨h, gs, dr, tk, os⟩) (isK i t) lo (dictAt hd hm).mapOf (kk _)
theorem r_dnotin {Q : Value → Shared → Prop} {d : Addr} {o : Obj} {kvs : List (Int × Value)} {i : Int} {t : Tok} (hd : h.get? d = some o) (hm : IsM prog w o kvs) (lo : (d == sysModules) = false) (kk : ∀ tk', Q (.bool (!(valueAt kvs i).isSome)) ⟨h, gs, dr, tk', os⟩) :
    wpAny (model prog w) A (compareOp .NotIn (.int i t) (.ref d)) Q E ⟨h, gs, dr, tk, os⟩ := wpAny_notIn_of (s := ⟨h, gs, dr, tk, os⟩) (isK i t) lo (dictAt hd hm).mapOf (kk _)
theorem r_dlen {Q : Value → Shared → Prop} {d : Addr} {o : Obj} {kvs : List (Int × Value)} (hd : h.get? d = some o) (hm : IsM prog w o kvs) (lo : (d == sysModules) = false) (hz : kvs.length ≤ 16777216) (kk : ∀ t tk', Q (.int kvs.length t) ⟨h, gs, dr, tk', os⟩) :
    wpAny (model prog w) A (call (.builtin "len") [.ref d]) Q E ⟨h, gs, dr, tk, os⟩ := call_len_dict (s := ⟨h, gs, dr, tk, os⟩) lo (dictAt hd hm) (by first | decide | lia) (kk _ _)
end
set_option hygiene false in
local macro_rules | `(tactic| walk_at "execs cons") => `(tactic| (refine wpAny_execs_cons (x_abs ?_); intro R_ hR_))
set_option hygiene false in
local macro_rules | `(tactic| walk_at "abs") => `(tactic| (refine x_abs ?_; intro R_ hR_))
set_option hygiene false in
local macro_rules | `(tactic| walk_at "fz") => `(tactic| (refine x_fz ?_; intro G_ hG_))
set_option hygiene false in
local macro_rules | `(tactic| walk_at "thaw") => `(tactic| (refine hG_ ?_; clear hG_ G_))
set_option hygiene false in
local macro_rules | `(tactic| walk_at "un") => `(tactic| repeat (first | (with_reducible refine hR_ _ _ ?_; clear hR_ R_) | with_reducible refine Cont.go (by assumption) _ _ ?_))
local macro_rules | `(tactic| walk_at "eval Name") => `(tactic| k_dflt (first
  | refine r_local (by assumption) (by assumption) (by rfl) (by rfl) ?_
  | refine r_global (by assumption) (by assumption) (by assumption) (by rfl) (by k_is) ?_
  | refine r_builtin (by assumption) (by assumption) (by assumption) (by rfl) (by k_is) (by boot_by_name) ?_
  | refine r_cell (by assumption) (by assumption) (by rfl) (by rfl) (by assumption) ?_
  | refine r_free (by assumption) (by assumption) (by rfl) (by rfl) (by assumption) ?_))
local macro_rules | `(tactic| walk_at "eval Constant int") => `(tactic| (refine r_int ?_; intro _ _))
local macro_rules | `(tactic| walk_at "eval Constant str") => `(tactic| (refine r_str ?_; intro _ _))
local macro_rules | `(tactic| walk_at "eval Constant bool") => `(tactic| (refine wpAny_Constant_bool ?_))
local macro_rules | `(tactic| walk_at "storeName") => `(tactic| k_dflt ((rename St _ _ _ _ _ _ _ => S0); refine r_store (by assumption) S0 (by rfl) ?_; clear S0; intro _ _ _))
local macro_rules | `(tactic| walk_at "binaryOp Add int int") => `(tactic| (refine r_add ?_; intro _ _))
local macro_rules | `(tactic| walk_at "binaryOp Sub int int") => `(tactic| (refine r_sub ?_; intro _ _))
local macro_rules | `(tactic| walk_at "eval Subscript") => `(tactic| (refine PyProof.Rows.Subscript_ ?_))
local macro_rules | `(tactic| walk_at "exec Assign") => `(tactic| k_dflt (first | refine wpAny_Assign_Name ?_ | refine wpAny_Assign_Subscript ?_ | refine plainObj_wpAny_Assign_Attribute ?_))
local macro_rules | `(tactic| walk_at "newList") => `(tactic| k_dflt ((rename St _ _ _ _ _ _ _ => S0); refine r_newlist S0 (by first | decide | (simp only [List.length_cons, List.length_nil, sizeLine_eq]; lia)) ?_; clear S0; intro _ _ _ _))
local macro_rules | `(tactic| walk_at "isTrue BoolOp") => `(tactic| (refine wpAny_isTrue_BoolOp ?_))
local macro_rules | `(tactic| walk_at "allTrue And cons") => `(tactic| (refine wpAny_allTrue_And_cons ?_))
local macro_rules | `(tactic| walk_at "allTrue And nil") => `(tactic| (refine wpAny_allTrue_And_nil ?_))
local macro_rules | `(tactic| walk_at "allTrue Or cons") => `(tactic| (refine wpAny_allTrue_Or_cons ?_))
local macro_rules | `(tactic| walk_at "allTrue Or nil") => `(tactic| (refine wpAny_allTrue_Or_nil ?_))
local macro_rules | `(tactic| walk_at "eval Attribute") => `(tactic| k_dflt (refine PyProof.Rows.Attribute_any_ ?_))
local macro_rules | `(tactic| walk_at "newTuple") => `(tactic| k_dflt ((rename St _ _ _ _ _ _ _ => S0); refine r_newtuple S0 (by first | decide | (simp only [List.length_cons, List.length_nil, sizeLine_eq]; lia)) ?_; clear S0; intro _ _ _ _ _ _))
local macro_rules | `(tactic| walk_at "callWith ref") => `(tactic| k_dflt (first
  | refine r_callWith (by assumption) (by k_is) ?_
  | refine r_meth (by assumption) (by k_is) ?_
  | refine r_callW0 (by assumption) (by assumption) (by k_is) ?_
  | refine r_meth0 (by assumption) (by assumption) (by k_is) ?_))
local macro_rules | `(tactic| walk_at "And") => `(tactic| k_dflt ((with_reducible show Frag.In _ _ ∧ _); (refine ⟨St.kin (by assumption) (by assumption), ?_⟩)))
local macro_rules | `(tactic| walk_at "exec Expr") => `(tactic| k_dflt (refine wpAny_Expr_any ?_ (En.noInter (by assumption)) (by rfl)))
local macro_rules | `(tactic| walk_at "mem") => `(tactic| repeat (first | exact List.Mem.head _ | refine List.Mem.tail _ ?_))
local macro_rules | `(tactic| walk_at "up") => `(tactic| repeat (first | exact Up.head | refine Up.tail ?_))
local macro_rules | `(tactic| walk_at "getMethod ref") => `(tactic| k_dflt ((with_reducible show wpAny _ _ (getMethod (Value.ref _) (PySem.Str.ofString "pop") _) _ _ _); (rename St _ _ _ _ _ _ _ => S0); refine r_lmeth S0 (by walk_at "mem") PySem.F.slot_list_pop PySem.F.type_list_pop ?_))
local macro_rules | `(tactic| walk_at "getMethod ref") => `(tactic| k_dflt ((with_reducible show wpAny _ _ (getMethod (Value.ref _) (PySem.Str.ofString "append") _) _ _ _); (rename St _ _ _ _ _ _ _ => S0); refine r_lmeth S0 (by walk_at "mem") PySem.F.slot_list_append PySem.F.type_list_append ?_))
noncomputable def binders (ps : List Int) (r : Int) : List Int := if 0 ≤ r then ps ++ [r] else ps
mutual
noncomputable def Tree.locs : Tree → List Int
  | .node (.loc n) ks => n :: locsL ks
  | .node _ ks => locsL ks
noncomputable def locsL : List Tree → List Int
  | [] => []
  | t :: ts => t.locs ++ locsL ts
end
noncomputable def letOk : Nk → List Tree → Prop
  | .call, .node (.lam _ ps _) _ :: ops => ps.Nodup ∧ ∀ n ∈ ps, n ∉ locsL ops
  | .call, _ => False
  | _, _ => True
mutual
noncomputable def Tree.good : Tree → Prop
  | .node k ks => letOk k ks ∧ goodL ks
noncomputable def goodL : List Tree → Prop
  | [] => True
  | t :: ts => t.good ∧ goodL ts
end
mutual
noncomputable def Tree.fits (B P : Int → Int) (lab : Int) : Tree → Prop
  | .node (.lam l ps r) ks => P l = lab ∧ (∀ n ∈ binders ps r, B n = l) ∧ fitsL B P l ks
  | .node _ ks => fitsL B P lab ks
noncomputable def fitsL (B P : Int → Int) (lab : Int) : List Tree → Prop
  | [] => True
  | t :: ts => t.fits B P lab ∧ fitsL B P lab ts
end
mutual
noncomputable def Tree.inSc (known : List Int) : Tree → Prop
  | .node (.loc n) ks => n ∈ known ∧ inScL known ks
  | .node (.set n) ks => n ∈ known ∧ inScL known ks
  | .node (.lam _ ps r) ks => inScL (known ++ binders ps r) ks
  | .node _ ks => inScL known ks
noncomputable def inScL (known : List Int) : List Tree → Prop
  | [] => True
  | t :: ts => t.inSc known ∧ inScL known ts
end
noncomputable def szB : Nat → Nat
  | 0 => 1
  | d + 1 => 2 + 5 * szB d
theorem szB_pos : ∀ d, 1 ≤ szB d
  | 0 => Nat.le_refl _
  | d + 1 => by simp only [szB]; lia
theorem locsL_append : ∀ ts us : List Tree, locsL (ts ++ us) = locsL ts ++ locsL us
  | [], _ => rfl
  | t :: ts, us => by simp only [List.cons_append, locsL, locsL_append ts us, List.append_assoc]
theorem goodL_append : ∀ ts us : List Tree, goodL (ts ++ us) ↔ goodL ts ∧ goodL us
  | [], us => by simp [goodL]
  | t :: ts, us => by simp only [List.cons_append, goodL, goodL_append ts us, and_assoc]
theorem fitsL_append {B P : Int → Int} {lab : Int} : ∀ ts us : List Tree, fitsL B P lab (ts ++ us) ↔ fitsL B P lab ts ∧ fitsL B P lab us
  | [], us => by simp [fitsL]
  | t :: ts, us => by simp only [List.cons_append, fitsL, fitsL_append ts us, and_assoc]
theorem inScL_append {known : List Int} : ∀ ts us : List Tree, inScL known (ts ++ us) ↔ inScL known ts ∧ inScL known us
  | [], us => by simp [inScL]
  | t :: ts, us => by simp only [List.cons_append, inScL, inScL_append ts us, and_assoc]
theorem sizes_append : ∀ ts us : List Tree, sizes (ts ++ us) = sizes ts + sizes us
  | [], us => by simp [sizes]
  | t :: ts, us => by simp only [List.cons_append, sizes, sizes_append ts us]; lia
theorem hts_append : ∀ ts us : List Tree, hts (ts ++ us) = max (hts ts) (hts us)
  | [], us => by simp [hts]
  | t :: ts, us => by simp only [List.cons_append, hts, hts_append ts us]; exact (Nat.max_assoc _ _ _).symm
/-- the labels that fit, whatever comes later -/
noncomputable def Forced (m q m' q' : Int) (F : (Int → Int) → (Int → Int) → Prop) : Prop :=
  ∀ B P : Int → Int, ∃ B' P' : Int → Int, (∀ n, n ≤ m → B' n = B n) ∧ (∀ l, l ≤ q → P' l = P l) ∧ ∀ B'' P'' : Int → Int, (∀ n, n ≤ m' → B'' n = B' n) → (∀ l, l ≤ q' → P'' l = P' l) → F B'' P''
theorem Forced.both {m q m1 q1 m2 q2 : Int} {F G : (Int → Int) → (Int → Int) → Prop} (h1 : m ≤ m1) (h2 : q ≤ q1) (h3 : m1 ≤ m2) (h4 : q1 ≤ q2) (f : Forced m q m1 q1 F) (g : Forced m1 q1 m2 q2 G) : Forced m q m2 q2 fun B P => F B P ∧ G B P := fun B P => by
  obtain ⟨B1, P1, a1, a2, a3⟩ := f B P
  obtain ⟨B2, P2, b1, b2, b3⟩ := g B1 P1
  refine ⟨B2, P2, fun n hn => (b1 n (by first | decide | lia)).trans (a1 n hn), fun l hl => (b2 l (by first | decide | lia)).trans (a2 l hl), fun B3 P3 c1 c2 => ⟨a3 B3 P3 (fun n hn => (c1 n (by first | decide | lia)).trans (b1 n hn)) (fun l hl => (c2 l (by first | decide | lia)).trans (b2 l hl)), b3 B3 P3 c1 c2⟩⟩
theorem Forced.triv {m q : Int} {F : (Int → Int) → (Int → Int) → Prop} (h : ∀ B P, F B P) : Forced m q m q F := fun B P => ⟨B, P, fun _ _ => rfl, fun _ _ => rfl, fun _ _ _ _ => h _ _⟩
theorem Forced.imp {m q m' q' : Int} {F G : (Int → Int) → (Int → Int) → Prop} (f : Forced m q m' q' F) (h : ∀ B P, F B P → G B P) : Forced m q m' q' G := fun B P => by
  obtain ⟨B1, P1, a1, a2, a3⟩ := f B P
  exact ⟨B1, P1, a1, a2, fun B2 P2 b1 b2 => h _ _ (a3 B2 P2 b1 b2)⟩
structure Made (known : List Int) (m q m' q' : Int) (d : Nat) (t : Tree) : Prop where
  le1 : m ≤ m'
  le2 : q ≤ q'
  loc : ∀ n ∈ t.locs, n ∈ known ∨ m < n
  good : t.good
  inSc : t.inSc known
  fits : ∀ lab, Forced m q m' q' fun B P => t.fits B P lab
  size : t.size ≤ szB d
  ht : t.ht ≤ 2 * d + 1
structure MadeL (known : List Int) (m q m' q' : Int) (d : Nat) (ts : List Tree) : Prop where
  le1 : m ≤ m'
  le2 : q ≤ q'
  loc : ∀ n ∈ locsL ts, n ∈ known ∨ m < n
  good : goodL ts
  inSc : inScL known ts
  fits : ∀ lab, Forced m q m' q' fun B P => fitsL B P lab ts
  size : sizes ts ≤ ts.length * szB d
  ht : hts ts ≤ 2 * d + 1
theorem MadeL.nil {known : List Int} {m q : Int} {d : Nat} : MadeL known m q m q d [] :=
  ⟨Int.le_refl _, Int.le_refl _, fun _ h => (nomatch h), trivial, trivial, fun _ => .triv fun _ _ => trivial, by simp [sizes], by simp [hts]⟩
theorem MadeL.snoc {known : List Int} {m q m1 q1 m2 q2 : Int} {d : Nat} {ts : List Tree} {t : Tree} (a : MadeL known m q m1 q1 d ts) (c : Made known m1 q1 m2 q2 d t) : MadeL known m q m2 q2 d (ts ++ [t]) where
  le1 := Int.le_trans a.le1 c.le1
  le2 := Int.le_trans a.le2 c.le2
  loc := fun n hn => by
    rw [locsL_append, List.mem_append] at hn
    rcases hn with hn | hn
    · exact a.loc n hn
    · simp only [locsL, List.append_nil] at hn
      rcases c.loc n hn with x | x
      · exact .inl x
      · have := a.le1; exact .inr (by first | decide | lia)
  good := (goodL_append _ _).mpr ⟨a.good, c.good, trivial⟩
  inSc := (inScL_append _ _).mpr ⟨a.inSc, c.inSc, trivial⟩
  fits := fun lab => ((a.fits lab).both a.le1 a.le2 c.le1 c.le2 (c.fits lab)).imp fun B P h => (fitsL_append _ _).mpr ⟨h.1, h.2, trivial⟩
  size := by
    rw [sizes_append, List.length_append]
    have h1 := a.size; have h2 := c.size
    simp only [sizes, List.length_singleton, Nat.add_mul, Nat.one_mul]; lia
  ht := by
    rw [hts_append]
    have h1 := a.ht; have h2 := c.ht
    simp only [hts]; lia
theorem Made.leaf {known : List Int} {m q : Int} {d : Nat} (c : CV) : Made known m q m q d (.node (.const c) []) :=
  ⟨Int.le_refl _, Int.le_refl _, fun _ h => (nomatch h), ⟨trivial, trivial⟩, trivial, fun _ => .triv fun _ _ => trivial, szB_pos d, by simp [Tree.ht, hts]⟩
theorem Made.locl {known : List Int} {m q n : Int} {d : Nat} (hn : n ∈ known) : Made known m q m q d (.node (.loc n) []) :=
  ⟨Int.le_refl _, Int.le_refl _, fun x h => by simp only [Tree.locs, locsL, List.mem_singleton] at h; exact .inl (h ▸ hn), ⟨trivial, trivial⟩, ⟨hn, trivial⟩, fun _ => .triv fun _ _ => trivial, szB_pos d, by simp [Tree.ht, hts]⟩
theorem Made.node {known : List Int} {m q m' q' : Int} {d : Nat} {ts : List Tree} {k : Nk} (a : MadeL known m q m' q' d ts) (hl : ts.length ≤ 3) (hk : (∃ n ∈ known, k = .set n) ∨ k = .ite ∨ k = .seq ∨ ∃ o, k = .prim o) : Made known m q m' q' (d + 1) (.node k ts) := by
  have e1 : (Tree.node k ts).locs = locsL ts := by rcases hk with ⟨n, _, rfl⟩ | rfl | rfl | ⟨o, rfl⟩ <;> rfl
  have e2 : letOk k ts := by rcases hk with ⟨n, _, rfl⟩ | rfl | rfl | ⟨o, rfl⟩ <;> trivial
  refine ⟨a.le1, a.le2, fun n hn => a.loc n (e1 ▸ hn), ⟨e2, a.good⟩, ?_, fun lab => (a.fits lab).imp fun B P h => ?_, ?_, ?_⟩
  · rcases hk with ⟨n, hn, rfl⟩ | rfl | rfl | ⟨o, rfl⟩
    · exact ⟨hn, a.inSc⟩
    all_goals exact a.inSc
  · rcases hk with ⟨n, hn, rfl⟩ | rfl | rfl | ⟨o, rfl⟩ <;> exact h
  · have h1 := a.size; have h2 := szB_pos d
    have h3 : ts.length * szB d ≤ 3 * szB d := Nat.mul_le_mul_right _ hl
    simp only [Tree.size, szB]; lia
  · have h1 := a.ht
    simp only [Tree.ht]; lia
/-- a lambda's own numbers -/
theorem Made.lam {known ps : List Int} {m m1 q m' q' r : Int} {d : Nat} {t : Tree} (h1 : m ≤ m1) (hps : ∀ n ∈ binders ps r, m < n ∧ n ≤ m1) (hk : ∀ n ∈ known, n ≤ m) (a : Made (known ++ binders ps r) m1 (q + 1) m' q' d t) :
    (∀ n ∈ (Tree.node (.lam (q + 1) ps r) [t]).locs, n ∈ known ∨ m < n) ∧ (Tree.node (.lam (q + 1) ps r) [t]).good ∧ (Tree.node (.lam (q + 1) ps r) [t]).inSc known ∧
    (∀ lab, Forced m q m' q' fun B P => (Tree.node (.lam (q + 1) ps r) [t]).fits B P lab) ∧ (Tree.node (.lam (q + 1) ps r) [t]).size = 1 + t.size ∧ (Tree.node (.lam (q + 1) ps r) [t]).ht = 1 + t.ht := by
  refine ⟨fun n hn => ?_, ⟨trivial, a.good, trivial⟩, ⟨a.inSc, trivial⟩, fun lab B P => ?_, by simp [Tree.size, sizes], by simp [Tree.ht, hts]⟩
  · simp only [Tree.locs, locsL, List.append_nil] at hn
    rcases a.loc n hn with x | x
    · rcases List.mem_append.mp x with x | x
      · exact .inl x
      · exact .inr (hps n x).1
    · exact .inr (by first | decide | lia)
  · obtain ⟨B2, P2, c1, c2, c3⟩ := a.fits (q + 1) (fun n => if n ≤ m then B n else q + 1) (fun l => if l ≤ q then P l else lab)
    have l1 := a.le1
    have l2 := a.le2
    refine ⟨B2, P2, fun n hn => ?_, fun l hl => ?_, fun B3 P3 b1 b2 => ⟨?_, fun n hn => ?_, c3 B3 P3 b1 b2, trivial⟩⟩
    · rw [c1 n (by first | decide | lia), if_pos hn]
    · rw [c2 l (by first | decide | lia), if_pos hl]
    · rw [b2 _ (by first | decide | lia), c2 _ (by first | decide | lia), if_neg (by first | decide | lia)]
    · have := hps n hn
      rw [b1 _ (by first | decide | lia), c1 _ (by first | decide | lia), if_neg (by first | decide | lia)]
structure MadeF (known : List Int) (m q m' q' : Int) (d : Nat) (t : Tree) (m1 : Int) : Prop where
  le1 : m ≤ m1 ∧ m1 ≤ m'
  le2 : q ≤ q'
  loc : ∀ n ∈ t.locs, n ∈ known ∨ m < n
  good : t.good
  inSc : t.inSc known
  fits : ∀ lab, Forced m q m' q' fun B P => t.fits B P lab
  size : t.size ≤ 1 + szB d
  ht : t.ht ≤ 2 * d + 2
  own : ∃ l ps r ks, t = .node (.lam l ps r) ks ∧ ps.Nodup ∧ ∀ n ∈ ps, m < n ∧ n ≤ m1
theorem Made.let {known : List Int} {m m1 q m2 q2 m' q' : Int} {d : Nat} {t : Tree} {ts : List Tree} (hk : ∀ n ∈ known, n ≤ m) (f : MadeF known m q m2 q2 d t m1) (a : MadeL known m2 q2 m' q' d ts) (hl : ts.length ≤ 4) : Made known m q m' q' (d + 1) (.node .call (t :: ts)) := by
  have l1 := f.le1; have l2 := a.le1; have l3 := f.le2; have l4 := a.le2
  obtain ⟨l, ps, r, ks, rfl, nd, rg⟩ := f.own
  refine ⟨by lia, by lia, fun n hn => ?_, ⟨⟨nd, fun n hn hm => ?_⟩, f.good, a.good⟩, ⟨f.inSc, a.inSc⟩, fun lab => ((f.fits lab).both (by first | decide | lia) l3 l2 l4 (a.fits lab)).imp fun B P h => h, ?_, ?_⟩
  · have hn : n ∈ (Tree.node (.lam l ps r) ks).locs ++ locsL ts := hn
    rcases List.mem_append.mp hn with x | x
    · exact f.loc n x
    · rcases a.loc n x with y | y
      · exact .inl y
      · exact .inr (by first | decide | lia)
  · have := rg n hn
    rcases a.loc n hm with y | y
    · have := hk n y; lia
    · lia
  · have h1 := f.size; have h2 := a.size; have h3 := szB_pos d
    have h4 : ts.length * szB d ≤ 4 * szB d := Nat.mul_le_mul_right _ hl
    have e : (Tree.node .call (Tree.node (.lam l ps r) ks :: ts)).size = 1 + ((Tree.node (.lam l ps r) ks).size + sizes ts) := rfl
    rw [e]; simp only [szB]; lia
  · have h1 := f.ht; have h2 := a.ht
    have e : (Tree.node .call (Tree.node (.lam l ps r) ks :: ts)).ht = 1 + max (Tree.node (.lam l ps r) ks).ht (hts ts) := rfl
    rw [e]; lia
theorem Made.ofLam {known : List Int} {m q m' q' : Int} {d : Nat} {t : Tree} {m1 : Int} (f : MadeF known m q m' q' d t m1) : Made known m q m' q' (d + 1) t :=
  ⟨by have := f.le1; lia, f.le2, f.loc, f.good, f.inSc, f.fits, by have := f.size; simp only [szB]; lia, by have := f.ht; lia⟩
noncomputable def CV.text : CV → Str
  | .num i => (toString ((i.val : Nat) : Int) : Str) | .bool x => if x then "True" else "False" | .unspec => "special" | .pair => "pair"
noncomputable def Nk.own : Nk → List PyData
  | .const c => [.str c.text] | .loc n => [.int n] | .set n => [.int n] | .ite => [] | .lam l ps r => [.int l, .tuple (ps.map .int), .int r] | .call => [] | .seq => [] | .prim o => [.int o]
mutual
noncomputable def told : Tree → PyData
  | .node k ks => .tuple [.int k.num, .tuple k.own, .tuple (tolds ks)]
noncomputable def tolds : List Tree → List PyData
  | [] => []
  | t :: ts => told t :: tolds ts
end
theorem tolds_append : ∀ ts us : List Tree, tolds (ts ++ us) = tolds ts ++ tolds us
  | [], _ => rfl
  | t :: ts, us => by simp only [List.cons_append, tolds, tolds_append ts us]
theorem tolds_length : ∀ ts : List Tree, (tolds ts).length = ts.length
  | [] => rfl
  | t :: ts => by simp only [tolds, List.length_cons, tolds_length ts]
theorem NodesAt.handed {P : Params} {g : GH} {vs ts} (h : NodesAt P g vs ts) : ∀ v ∈ vs, ∃ x, v = .ref x :=
  NodesAt.ind (C := fun vs _ => ∀ v ∈ vs, ∃ x, v = .ref x) (fun _ q => nomatch q) (fun a b v q => by
    rcases List.mem_cons.mp q with rfl | q
    · cases a with | mk s _ => exact s.ref
    · exact b v q) h
theorem size_get : ∀ {ts : List Tree} {i : Nat} {t : Tree}, ts[i]? = some t → t.size ≤ sizes ts ∧ t.ht ≤ hts ts
  | t :: ts, 0, _, h => by cases h; simp only [sizes, hts]; lia
  | t :: ts, i + 1, u, h => by
    have := size_get (ts := ts) (i := i) (by simpa using h)
    simp only [sizes, hts]; lia
  | [], _, _, h => by simp at h
theorem take_snoc {α : Type} {l : List α} {i : Nat} {x : α} (h : l[i]? = some x) : l.take (i + 1) = l.take i ++ [x] := by
  rw [List.take_succ, h]; rfl
noncomputable def hereB (kd n : Int) (k : Nk) : Bool := (k.num == kd) && PyData.eqv (.tuple k.own) (.tuple [.int n])
mutual
noncomputable def cnt (kd n : Int) : Tree → Int
  | .node k ks => (if hereB kd n k then 1 else 0) + (cntL kd n ks).sum
noncomputable def cntL (kd n : Int) : List Tree → List Int
  | [] => []
  | t :: ts => cnt kd n t :: cntL kd n ts
end
mutual
noncomputable def putT (n : Int) (o : Tree) : Tree → Tree
  | .node k ks => if hereB 1 n k then o else .node k (putL n o ks)
noncomputable def putL (n : Int) (o : Tree) : List Tree → List Tree
  | [] => []
  | t :: ts => putT n o t :: putL n o ts
end
theorem cntL_length (kd n : Int) : ∀ ts, (cntL kd n ts).length = ts.length
  | [] => rfl
  | t :: ts => by simp only [cntL, List.length_cons, cntL_length kd n ts]
theorem cntL_get {kd n : Int} : ∀ {ts : List Tree} {i : Nat} {t : Tree}, ts[i]? = some t → (cntL kd n ts)[i]? = some (cnt kd n t)
  | t :: ts, 0, _, h => by cases h; rfl
  | t :: ts, i + 1, u, h => by
    have := cntL_get (kd := kd) (n := n) (ts := ts) (i := i) (by simpa using h)
    simpa [cntL] using this
  | [], _, _, h => by simp at h
theorem putL_length (n : Int) (o : Tree) : ∀ ts, (putL n o ts).length = ts.length
  | [] => rfl
  | t :: ts => by simp only [putL, List.length_cons, putL_length n o ts]
theorem putL_get {n : Int} {o : Tree} : ∀ {ts : List Tree} {i : Nat} {t : Tree}, ts[i]? = some t → (putL n o ts)[i]? = some (putT n o t)
  | t :: ts, 0, _, h => by cases h; rfl
  | t :: ts, i + 1, u, h => by
    have := putL_get (n := n) (o := o) (ts := ts) (i := i) (by simpa using h)
    simpa [putL] using this
  | [], _, _, h => by simp at h
theorem tolds_get' : ∀ {ts : List Tree} {i : Nat} {d : PyData}, (tolds ts)[i]? = some d → ∃ t, ts[i]? = some t ∧ d = told t
  | t :: ts, 0, _, h => by cases h; exact ⟨t, rfl, rfl⟩
  | t :: ts, i + 1, u, h => by
    obtain ⟨t', h1, h2⟩ := tolds_get' (ts := ts) (i := i) (by simpa [tolds] using h)
    exact ⟨t', by simpa using h1, h2⟩
  | [], _, _, h => by simp [tolds] at h
theorem told_inv {g : GH} {v : Value} {k : Nk} {ks : List Tree} (h : DataAt g v (told (.node k ks))) : ∃ a t a1 a2 ovs pvs, v = .ref a ∧ g a = some (tupO [.int k.num t, .ref a1, .ref a2]) ∧ g a1 = some (tupO ovs) ∧ DatasAt g ovs k.own ∧ g a2 = some (tupO pvs) ∧ DatasAt g pvs (tolds ks) := by
  unfold told at h
  cases h with
  | tuple ha h =>
    cases h with
    | cons h0 h =>
      cases h0
      cases h with
      | cons h1 h =>
        cases h1 with
        | tuple ha1 h1 =>
          cases h with
          | cons h2 h =>
            cases h2 with
            | tuple ha2 h2 =>
              cases h
              exact ⟨_, _, _, _, _, _, rfl, ha, ha1, h1, ha2, h2⟩
@[elab_as_elim] theorem told_un {g : GH} {v : Value} {k : Nk} {ks : List Tree} {C : Value → Prop} (h : DataAt g v (told (.node k ks))) (c : ∀ a t a1 a2 ovs pvs, g a = some (tupO [.int k.num t, .ref a1, .ref a2]) → g a1 = some (tupO ovs) → DatasAt g ovs k.own → g a2 = some (tupO pvs) → DatasAt g pvs (tolds ks) → C (.ref a)) : C v := by
  obtain ⟨a, t, a1, a2, ovs, pvs, e, h1, h2, h3, h4, h5⟩ := told_inv h
  exact e ▸ c a t a1 a2 ovs pvs h1 h2 h3 h4 h5
@[elab_as_elim] theorem lam_un {g : GH} {xo : List Value} {l r : Int} {ps : List Int} {C : List Value → Prop} (h : DatasAt g xo (Nk.own (.lam l ps r))) (c : ∀ tl ap pvs tr, g ap = some (tupO pvs) → DatasAt g pvs (ps.map .int) → C [.int l tl, .ref ap, .int r tr]) : C xo := by
  refine h.uncons ?_
  intro y1 z1 a1 b1
  refine b1.uncons ?_
  intro y2 z2 a2 b2
  refine b2.uncons ?_
  intro y3 z3 a3 b3
  refine b3.unnil ?_
  refine a1.unint ?_
  intro tl
  refine a2.untup ?_
  intro ap pvs q1 q2
  refine a3.unint ?_
  intro tr
  exact c tl ap pvs tr q1 q2
theorem DatasAt.at {g : GH} : ∀ {vs ds} {i : Nat} {v : Value}, DatasAt g vs ds → vs[i]? = some v → ∃ d, ds[i]? = some d ∧ DataAt g v d
  | _, _, 0, _, .cons (d := d) x _, q => by cases q; exact ⟨d, rfl, x⟩
  | _, _, i + 1, _, .cons _ r, q => DatasAt.at (i := i) r (by simpa using q)
theorem text_ok (c : CV) : PyData.strOk c.text = true := by
  have h : ∀ i : _root_.Fin 10, PyData.strOk (CV.num i).text = true := by decide +kernel
  cases c with
  | num i => exact h i
  | bool x => cases x <;> decide +kernel
  | unspec => decide +kernel
  | pair => decide +kernel
theorem own_lay (k : Nk) : (PyData.tuple k.own).canLay0 = true ∧ (PyData.tuple k.own).depth ≤ 3 := by
  cases k with
  | lam l ps r =>
    have h1 := canLayAll_ints ps
    have h2 := depthAll_ints ps
    constructor
    · simp [PyData.canLay0, PyData.canLayAll0, Nk.own, h1]
    · simp only [Nk.own, PyData.depth, PyData.depthAll]; lia
  | const c => constructor <;> simp [PyData.canLay0, PyData.canLayAll0, Nk.own, PyData.depth, PyData.depthAll, text_ok]
  | _ => constructor <;> simp [PyData.canLay0, PyData.canLayAll0, Nk.own, PyData.depth, PyData.depthAll]
section
variable {prog : Program} {w : World} {A : Around} {E : Value → Shared → Prop}
/-- a tuple's own iterator is drawn from -/
theorem drawsTuple (hh : A.handled = none) (it t : Addr) (hne : t ≠ it) (items : Array Value) : Draws prog w A it [it, t] items.size (fun i v => items[i]? = some v) (fun i h => h.IsTupleIter it t i ∧ h.IsTuple t items) where
  live := fun i h st => let ⟨o, ho, _⟩ := st.1; ⟨o, ho⟩
  frame := fun i h h' st k => ⟨let ⟨o, ho, r⟩ := st.1; ⟨o, k it (.head _) o ho, r⟩, let ⟨o, ho, r⟩ := st.2; ⟨o, k t (.tail _ (.head _)) o ho, r⟩⟩
  item := fun i s Q E lt st kk => by
    obtain ⟨hit, htu⟩ := st
    have ⟨o, ho, hc, hd⟩ := hit
    have ⟨ol, hol, hcl, nl, hdl⟩ := htu
    unfold Builtin.SmallTypes.nextOf
    refine wpAny_bind (wpAny_callSpecial?_slot (name := Str.ofString "__next__") hit.typeIs F.slot_tuple_iterator_next (wpAny_call_entry F.slot_tuple_iterator_next hit.typeIs F.entry_tuple_iterator_next ?_ (F.args_tuple_iterator_next_1 _)))
    show wpAny _ _ (field (.ref it) 0 >>= _) _ _ s
    refine wpAny_bind (wpAny_field ho hd (x := .ref t) rfl ?_)
    show wpAny _ _ (if (Value.ref t == Value.none) = true then _ else _) _ _ s
    rw [if_neg (show ¬ ((Value.ref t == Value.none) = true) from Bool.false_ne_true)]
    show wpAny _ _ (field (.ref it) 1 >>= _) _ _ s
    refine wpAny_bind (wpAny_field ho hd (x := .int i 0) rfl ?_)
    show wpAny _ _ (seqItems? (.ref t) >>= _) _ _ s
    refine wpAny_bind (wpAny_seqItems hol hdl ?_)
    simp only [Int.toNat_natCast, Array.getElem?_eq_getElem lt]
    refine wpAny_bind (wpAny_setField ho hd (by simp) (wpAny_pure ⟨_, rfl, wpAny_pure (kk _ _ s.toks (Array.getElem?_eq_getElem lt) ⟨?_, ?_⟩ (Heap.SameBut.update ..))⟩))
    · exact ⟨_, Heap.get?_update_self _ ho (Obj.isFreed_of_fields (Obj.data_mapFields hd _)), (Obj.cls_mapFields ..).trans hc, by rw [Obj.data_mapFields hd]; simp [rawInt]⟩
    · exact ⟨ol, (Heap.get?_update_other _ _ (Ne.symm hne)).trans hol, hcl, nl, hdl⟩
  done := fun s Q E st kk => by
    obtain ⟨hit, htu⟩ := st
    have ⟨o, ho, hc, hd⟩ := hit
    have ⟨ol, hol, hcl, nl, hdl⟩ := htu
    unfold Builtin.SmallTypes.nextOf
    refine wpAny_bind (wpAny_callSpecial?_slot (name := Str.ofString "__next__") hit.typeIs F.slot_tuple_iterator_next (wpAny_call_entry F.slot_tuple_iterator_next hit.typeIs F.entry_tuple_iterator_next ?_ (F.args_tuple_iterator_next_1 _)))
    show wpAny _ _ (field (.ref it) 0 >>= _) _ _ s
    refine wpAny_bind (wpAny_field ho hd (x := .ref t) rfl ?_)
    show wpAny _ _ (if (Value.ref t == Value.none) = true then _ else _) _ _ s
    rw [if_neg (show ¬ ((Value.ref t == Value.none) = true) from Bool.false_ne_true)]
    show wpAny _ _ (field (.ref it) 1 >>= _) _ _ s
    refine wpAny_bind (wpAny_field ho hd (x := .int items.size 0) rfl ?_)
    show wpAny _ _ (seqItems? (.ref t) >>= _) _ _ s
    refine wpAny_bind (wpAny_seqItems hol hdl ?_)
    simp only [Int.toNat_natCast, Array.getElem?_eq_none (Nat.le_refl items.size)]
    refine wpAny_bind (wpAny_rule (wpAny_bind (wpAny_setField ho hd (by simp) ?_)))
    show wpAny _ _ (newExc (.type "StopIteration") [] >>= _) _ _ _
    refine wpAny_bind ?_
    simp only [newExc, newTuple]
    refine wpAny_bind (wpAny_newObj_type ?_ (by size_fits))
    refine wpAny_bind (m := firstArgMember _ _) (wpAny_of_eq (a := Value.none) (by first | rfl | (simp only [firstArgMember]; rfl)) ?_)
    refine wpAny_newObj_type ?_ (by size_fits)
    simp only [raiseNew]
    refine wpAny_bind (wpAny_handled ?_)
    first | rw [show A.in1.handled = none from hh] | rw [hh]
    refine wpAny_bind (wpAny_pure (wpAny_throw ?_))
    exact kk _ _ (((Heap.SameBut.update ..).extBut.push _).push _) ⟨_, Heap.get?_push_size _ rfl, rfl⟩
structure Apart2 (z TI TO i1 i2 : Addr) (f1 f2 : List Addr) : Prop where
  z1 : z ∉ f1
  z2 : z ∉ f2
  o1 : TO ∉ f1
  o2 : TO ∉ f2
  m1 : i1 ∈ f1
  m2 : i2 ∈ f2
  x1 : i1 ∉ f2
  x2 : i2 ∉ f1
  tz : TI ≠ z
  to : TI ≠ TO
  t1 : TI ≠ i1
  t2 : TI ≠ i2
  oz : TO ≠ z
section
variable {s : Shared} {z TI TO i1 i2 : Addr} {f1 f2 : List Addr} {n1 n2 i : Nat} {P1 P2 : Nat → Value → Prop} {S1 S2 : Nat → Heap → Prop} {a b : Value}
theorem out2 {f : List Addr} {h h' : Heap} {c : Addr} (hs : Heap.ExtBut c h h') (hc : c ∉ f) : ∀ x ∈ f, ∀ o, h.get? x = some o → h'.get? x = some o := fun x hx o q => hs x o (fun e => hc (e ▸ hx)) q
theorem zipD_item {Q : Value → Shared → Prop} (X : Apart2 z TI TO i1 i2 f1 f2) (D1 : Draws prog w A i1 f1 n1 P1 S1) (D2 : Draws prog w A i2 f2 n2 P2 S2) (h1 : i < n1) (h2 : i < n2)
    (hz : IsZip s.heap z TI TO .none) (hTI : IsPair s.heap TI (.ref i1) (.ref i2)) (hTO : IsPair s.heap TO a b) (g1 : S1 i s.heap) (g2 : S2 i s.heap)
    (kk : ∀ T x y h' tk, P1 i x → P2 i y → s.heap.objs.size ≤ T → IsZip h' z TI TO (rawInt T) → IsPair h' TO x y → S1 (i + 1) h' → S2 (i + 1) h' → IsPair h' T x y → (∀ c o, c ≠ z → c ≠ TO → c ≠ i1 → c ≠ i2 → s.heap.get? c = some o → h'.get? c = some o) → Q (.ref T) { s with heap := h', toks := tk }) :
    wpAny (model prog w) A (Builtin.«zip.__next__» ⟨[.ref z], []⟩) (fun fin s' => ∃ v, fin = .done (.ret v) ∧ Q v s') E s := by
  show wpAny _ _ (field (.ref z) 2 >>= _) _ _ _
  refine wpAny_bind (wpAny_field hz rfl (x := .bool false) rfl ?_)
  show wpAny _ _ (field (.ref z) 3 >>= _) _ _ _
  refine wpAny_bind (wpAny_field hz rfl (x := .ref TI) rfl (wpAny_bind (wpAny_seqItems hTI rfl ?_)))
  show wpAny _ _ (Builtin.SmallTypes.ownedTupleIsFree (.ref z) >>= _) _ _ _
  refine wpAny_bind ?_
  unfold Builtin.SmallTypes.ownedTupleIsFree
  refine wpAny_bind (wpAny_field hz rfl (x := .none) rfl (wpAny_pure ?_))
  simp only [if_true]
  refine wpAny_bind (wpAny_rule (wpAny_bind (wpAny_field hz rfl (x := .ref TO) rfl (wpAny_bind (wpAny_setField_rec hz (by simp) fun ha za sa => ?_)))))
  have za : IsZip ha z TI TO .ellipsis := za
  have n1z : i1 ≠ z := fun e => X.z1 (e ▸ X.m1)
  have n2z : i2 ≠ z := fun e => X.z2 (e ▸ X.m2)
  have n1o : i1 ≠ TO := fun e => X.o1 (e ▸ X.m1)
  have n2o : i2 ≠ TO := fun e => X.o2 (e ▸ X.m2)
  have n12 : i1 ≠ i2 := fun e => X.x1 (e ▸ X.m2)
  refine wpAny_bind ?_
  simp only [List.zipIdx_cons, List.zipIdx_nil, List.forIn_cons, List.forIn_nil]
  refine wpAny_bind (wpAny_bind (wpAny_onRaise ?_))
  show wpAny _ _ (Builtin.SmallTypes.nextOf (.ref i1) >>= _) _ _ _
  refine wpAny_bind (D1.item i _ _ _ h1 (D1.frame _ _ _ g1 (out2 sa.extBut X.z1)) fun x hb tb px gb sb => wpAny_pure ?_)
  have ob : IsPair hb TO a b := sb.extBut _ _ (Ne.symm n1o) (sa.extBut _ _ X.oz hTO)
  refine wpAny_bind (wpAny_seqItems ob rfl (wpAny_bind (wpAny_updateSeq_pair ob fun hc oc scc => wpAny_bind (wpAny_letGo (wpAny_pure ?_)))))
  have oc : IsPair hc TO x b := oc
  have gc : S1 (i + 1) hc := D1.frame _ _ _ gb (out2 scc.extBut X.o1)
  have g2c : S2 i hc := D2.frame _ _ _ (D2.frame _ _ _ (D2.frame _ _ _ g2 (out2 sa.extBut X.z2)) (out2 sb.extBut X.x1)) (out2 scc.extBut X.o2)
  refine wpAny_bind (wpAny_bind (wpAny_onRaise ?_))
  show wpAny _ _ (Builtin.SmallTypes.nextOf (.ref i2) >>= _) _ _ _
  refine wpAny_bind (D2.item i _ _ _ h2 g2c fun y hd td py gd sd => wpAny_pure ?_)
  have od : IsPair hd TO x b := sd.extBut _ _ (Ne.symm n2o) oc
  refine wpAny_bind (wpAny_seqItems od rfl (wpAny_bind (wpAny_updateSeq_pair od fun he oe se => wpAny_bind (wpAny_letGo (wpAny_pure (wpAny_pure ?_))))))
  have oe : IsPair he TO x y := oe
  have ge1 : S1 (i + 1) he := D1.frame _ _ _ (D1.frame _ _ _ gc (out2 sd.extBut X.x2)) (out2 se.extBut X.o1)
  have ge2 : S2 (i + 1) he := D2.frame _ _ _ gd (out2 se.extBut X.o2)
  have ze : IsZip he z TI TO .ellipsis := se.extBut _ _ (Ne.symm X.oz) (sd.extBut _ _ (Ne.symm n2z) (scc.extBut _ _ (Ne.symm X.oz) (sb.extBut _ _ (Ne.symm n1z) za)))
  have keep : ∀ c o, c ≠ z → c ≠ TO → c ≠ i1 → c ≠ i2 → s.heap.get? c = some o → he.get? c = some o := fun c o c1 c2 c3 c4 q => se.extBut _ _ c2 (sd.extBut _ _ c4 (scc.extBut _ _ c2 (sb.extBut _ _ c3 (sa.extBut _ _ c1 q))))
  have size : he.objs.size = s.heap.objs.size := by rw [se.1, sd.1, scc.1, sb.1, sa.1]
  refine wpAny_bind (wpAny_seqItems oe rfl (wpAny_bind (wpAny_newTuple ?_)))
  show wpAny _ _ (Builtin.SmallTypes.ownedTupleHandOut (.ref z) (.ref he.objs.size) >>= _) _ _ _
  refine wpAny_bind ?_
  unfold Builtin.SmallTypes.ownedTupleHandOut
  have zf : IsZip (he.push { cls := .type "tuple", data := .seq #[x, y] }) z TI TO .ellipsis := Heap.get?_push_of_some _ ze
  refine wpAny_bind (wpAny_setField_rec zf (by simp) fun hg zg sg => ?_)
  have zg : IsZip hg z TI TO (rawInt he.objs.size) := zg
  refine wpAny_setField_rec zg (by simp) fun hh zh sh => wpAny_pure ⟨_, rfl, ?_⟩
  have zh : IsZip hh z TI TO (rawInt he.objs.size) := zh
  have up : ∀ c o, c ≠ z → he.get? c = some o → hh.get? c = some o := fun c o c1 q => sh.extBut _ _ c1 (sg.extBut _ _ c1 (Heap.get?_push_of_some _ q))
  have Tz : he.objs.size ≠ z := Nat.ne_of_gt (Heap.lt_size ze)
  exact kk he.objs.size x y hh _ px py (by rw [size]; exact Nat.le_refl _) zh (up _ _ X.oz oe) (D1.frame _ _ _ ge1 fun c hc o q => up c o (fun e => X.z1 (e ▸ hc)) q) (D2.frame _ _ _ ge2 fun c hc o q => up c o (fun e => X.z2 (e ▸ hc)) q)
    (sh.extBut _ _ Tz (sg.extBut _ _ Tz (Heap.get?_push_size _ rfl))) fun c o c1 c2 c3 c4 q => up c o c1 (keep c o c1 c2 c3 c4 q)
/-- the first has come to its end -/
theorem zipD_end {Q : PySem.Fin → Shared → Prop} (X : Apart2 z TI TO i1 i2 f1 f2) (D1 : Draws prog w A i1 f1 n1 P1 S1) (hz : IsZip s.heap z TI TO .none) (hTI : IsPair s.heap TI (.ref i1) (.ref i2)) (g1 : S1 n1 s.heap)
    (kk : ∀ h' e, (∀ c o, c ≠ z → c ≠ TO → c ≠ i1 → c ≠ i2 → s.heap.get? c = some o → h'.get? c = some o) → (∃ o, h'.get? e = some o ∧ o.cls = .type "StopIteration") → E (.ref e) { s with heap := h' }) :
    wpAny (model prog w) A (Builtin.«zip.__next__» ⟨[.ref z], []⟩) Q E s := by
  have n1z : i1 ≠ z := fun e => X.z1 (e ▸ X.m1)
  show wpAny _ _ (field (.ref z) 2 >>= _) _ _ _
  refine wpAny_bind (wpAny_field hz rfl (x := .bool false) rfl ?_)
  show wpAny _ _ (field (.ref z) 3 >>= _) _ _ _
  refine wpAny_bind (wpAny_field hz rfl (x := .ref TI) rfl (wpAny_bind (wpAny_seqItems hTI rfl ?_)))
  show wpAny _ _ (Builtin.SmallTypes.ownedTupleIsFree (.ref z) >>= _) _ _ _
  refine wpAny_bind ?_
  unfold Builtin.SmallTypes.ownedTupleIsFree
  refine wpAny_bind (wpAny_field hz rfl (x := .none) rfl (wpAny_pure ?_))
  simp only [if_true]
  refine wpAny_bind (wpAny_rule (wpAny_bind (wpAny_field hz rfl (x := .ref TO) rfl (wpAny_bind (wpAny_setField_rec hz (by simp) fun ha za sa => ?_)))))
  have za : IsZip ha z TI TO .ellipsis := za
  refine wpAny_bind ?_
  simp only [List.zipIdx_cons, List.zipIdx_nil, List.forIn_cons, List.forIn_nil]
  refine wpAny_bind (wpAny_bind (wpAny_onRaise ?_))
  show wpAny _ _ (Builtin.SmallTypes.nextOf (.ref i1) >>= _) _ _ _
  refine wpAny_bind (D1.done _ _ _ (D1.frame _ _ _ g1 (out2 sa.extBut X.z1)) fun hb e sb he => ?_)
  obtain ⟨oe, hoe, hce⟩ := he
  have zb : IsZip hb z TI TO .ellipsis := sb _ _ (Ne.symm n1z) za
  have ez : e ≠ z := fun q => by subst q; rw [zb] at hoe; cases hoe; simp at hce
  exact wpAny_setField_rec zb (by simp) fun hc _ scc => kk hc e (fun c o c1 _ c3 _ q => scc.extBut _ _ c1 (sb _ _ c3 (sa.extBut _ _ c1 q))) ⟨oe, scc.extBut _ _ ez hoe, hce⟩
end
theorem walksZip {z TI TO i1 i2 : Addr} {f1 f2 : List Addr} {n : Nat} {P1 P2 : Nat → Value → Prop} {S1 S2 : Nat → Heap → Prop} (X : Apart2 z TI TO i1 i2 f1 f2) (D1 : Draws prog w A.in1 i1 f1 n P1 S1) (D2 : Draws prog w A.in1 i2 f2 n P2 S2) :
    WalksT prog w A z (z :: TI :: TO :: (f1 ++ f2)) [z, TO, i1, i2] n (fun i vals => ∃ x y, P1 i x ∧ P2 i y ∧ vals = #[x, y])
      (fun i h => IsZip h z TI TO .none ∧ IsPair h TI (.ref i1) (.ref i2) ∧ (∃ a b, IsPair h TO a b) ∧ S1 i h ∧ S2 i h)
      (fun i T h => IsZip h z TI TO (rawInt T) ∧ IsPair h TI (.ref i1) (.ref i2) ∧ (∃ a b, IsPair h TO a b) ∧ S1 (i + 1) h ∧ S2 (i + 1) h ∧ T ≠ z ∧ T ≠ TO ∧ T ≠ i1 ∧ T ≠ i2) where
  sub := fun c hc => by
    simp only [List.mem_cons, List.mem_append, List.not_mem_nil, or_false] at hc ⊢
    rcases hc with rfl | rfl | rfl | rfl
    · exact .inl rfl
    · exact .inr (.inr (.inl rfl))
    · exact .inr (.inr (.inr (.inl X.m1)))
    · exact .inr (.inr (.inr (.inr X.m2)))
  frame := fun i h h' st k => by
    obtain ⟨a1, a2, ⟨x, y, a3⟩, a4, a5⟩ := st
    refine ⟨k z (by simp) _ a1, k TI (by simp) _ a2, ⟨x, y, k TO (by simp) _ a3⟩, D1.frame _ _ _ a4 fun c hc => k c (by simp [hc]), D2.frame _ _ _ a5 fun c hc => k c (by simp [hc])⟩
  item := fun i s Q E lt st kk => by
    obtain ⟨a1, a2, ⟨x, y, a3⟩, a4, a5⟩ := st
    have hT : s.TypeIs (.ref z) "zip" := ⟨_, a1, rfl⟩
    unfold pyNext
    refine wpAny_bind (wpAny_attempt (wpAny_callSpecial?_slot (name := Str.ofString "__next__") hT F.slot_zip_next (wpAny_call_entry F.slot_zip_next hT F.entry_zip_next
      (zipD_item X D1 D2 lt lt a1 a2 a3 a4 a5 fun T x y h' tk px py hTs b1 b2 b3 b4 b5 keep => wpAny_pure ?_) (F.args_zip_next_1 _))))
    have ne : ∀ {c o}, s.heap.get? c = some o → T ≠ c := fun q => Nat.ne_of_gt (Nat.lt_of_lt_of_le (Heap.lt_size q) hTs)
    obtain ⟨o1, l1⟩ := D1.live _ _ a4
    obtain ⟨o2, l2⟩ := D2.live _ _ a5
    exact kk T #[x, y] h' tk ⟨x, y, px, py, rfl⟩ hTs ⟨_, b5, rfl, _, rfl⟩ ⟨b1, keep _ _ X.tz X.to X.t1 X.t2 a2, ⟨_, _, b2⟩, b3, b4, ne a1, ne a3, ne l1, ne l2⟩ fun c o hc q =>
      keep c o (fun e => hc (by simp [e])) (fun e => hc (by simp [e])) (fun e => hc (by simp [e])) (fun e => hc (by simp [e])) q
  go := fun elts k pos i T s Q E m kk => by
    obtain ⟨a1, a2, ⟨x, y, a3⟩, a4, a5, _⟩ := m
    exact wpAny_letOwnedTupleGo_zip a1 fun h' z' s' => kk h' ⟨z', s'.extBut _ _ X.tz a2, ⟨x, y, s'.extBut _ _ X.oz a3⟩, D1.frame _ _ _ a4 (out2 s'.extBut X.z1), D2.frame _ _ _ a5 (out2 s'.extBut X.z2)⟩ fun c o hc q => s'.extBut _ _ (fun e => hc (by simp [e])) q
  apart := fun i T h m hT => by
    obtain ⟨_, _, _, _, _, t1, t2, t3, t4⟩ := m
    simp only [List.mem_cons, List.not_mem_nil, or_false] at hT
    rcases hT with rfl | rfl | rfl | rfl
    · exact t1 rfl
    · exact t2 rfl
    · exact t3 rfl
    · exact t4 rfl
  done := fun s Q E st kk => by
    obtain ⟨a1, a2, _, a4, a5⟩ := st
    have hT : s.TypeIs (.ref z) "zip" := ⟨_, a1, rfl⟩
    unfold pyNext
    refine wpAny_bind (wpAny_attempt (wpAny_callSpecial?_slot (name := Str.ofString "__next__") hT F.slot_zip_next (wpAny_call_entry F.slot_zip_next hT F.entry_zip_next (zipD_end X D1 a1 a2 a4 fun h' e keep he => ?_) (F.args_zip_next_1 _))))
    obtain ⟨o, ho, hc⟩ := he
    refine wpAny_bind (wpAny_isInstance (T := "StopIteration") (b := true) ⟨o, ho, hc⟩ isSubtype_stop (wpAny_pure ?_))
    exact kk h' s.toks fun c o hc q => keep c o (fun e => hc (by simp [e])) (fun e => hc (by simp [e])) (fun e => hc (by simp [e])) (fun e => hc (by simp [e])) q
  self := fun i s Q E st hQ => wpAny_pyIter_zip st.1 hQ
/-! zip of two tuples -/
noncomputable def zh1 (h : Heap) (l : Addr) : Heap := h.push { cls := .type "tuple_iterator", data := .fields #[.ref l, .int 0 0] }
noncomputable def zh5 (h : Heap) (l1 l2 : Addr) : Heap :=
  ((((zh1 (zh1 h l1) l2).push { cls := .type "tuple", data := .seq #[.ref h.objs.size, .ref (h.objs.size + 1)] }).push { cls := .type "tuple", data := .seq #[.none, .none] }).push
    { cls := .type "zip", data := .fields #[.none, .bool false, .bool false, .ref (h.objs.size + 2), .ref (h.objs.size + 3)] })
theorem meetsZipT (l1 l2 : Addr) (xs ys : Array Value) : Meets (Builtin.«zip.__new__» ⟨[.type "zip", .ref l1, .ref l2], []⟩)
    (fun _ R s => s.heap.IsTuple l1 xs ∧ s.heap.IsTuple l2 ys ∧ R (.ok (.ret (.ref (s.heap.objs.size + 4)))) { s with heap := zh5 s.heap l1 l2 }) :=
  .of_wp fun prog w A R s h => by
    obtain ⟨hp, g, d, tk, os⟩ := s
    obtain ⟨a1, a2, h⟩ := h
    have hsub := sub_zip
    have q1 : Heap.IsTuple (Shared.heap ⟨hp, g, d, tk, os⟩) l1 xs := a1
    have q2 : Heap.IsTuple (Shared.heap ⟨hp.push { cls := .type "tuple_iterator", data := .fields #[.ref l1, .int 0 0] }, g, d, tk, os⟩) l2 ys := let ⟨o, ho, r⟩ := a2; ⟨o, Heap.get?_push_of_some _ ho, r⟩
    unfold zh5 zh1 at h
    wp_walk using wpAny_pyIter_tuple q1, wpAny_pyIter_tuple q2
    simp only [Heap.size_push]
    exact ⟨_, rfl, h⟩
theorem callZipT {s : Shared} {l1 l2 : Addr} {xs ys : Array Value} {Q : Value → Shared → Prop} (h1 : s.heap.IsTuple l1 xs) (h2 : s.heap.IsTuple l2 ys) (kk : Q (.ref (s.heap.objs.size + 4)) { s with heap := zh5 s.heap l1 l2 }) :
    wpAny (model prog w) A (call (.type "zip") [.ref l1, .ref l2]) Q E s := by
  have e1 : ∀ (h : Heap) (o : Obj), (h.push o).objs.size = h.objs.size + 1 := fun h o => Heap.size_push h o
  have g5 := Heap.get?_push_size ((((s.heap.push { cls := .type "tuple_iterator", data := .fields #[.ref l1, .int 0 0] }).push { cls := .type "tuple_iterator", data := .fields #[.ref l2, .int 0 0] }).push { cls := .type "tuple", data := .seq #[.ref s.heap.objs.size, .ref (s.heap.objs.size + 1)] }).push { cls := .type "tuple", data := .seq #[.none, .none] })
    (o := { cls := .type "zip", data := .fields #[.none, .bool false, .bool false, .ref (s.heap.objs.size + 2), .ref (s.heap.objs.size + 3)] }) rfl
  simp only [e1] at g5
  exact callType_new F.called_zip (by decide) (F.typeCall_zip_2 _ _) (F.newCall_zip_2 _ _) (fun obj => F.args_object_init_3 obj _ _) F.entry_zip_new (meetsZipT l1 l2 xs ys) ⟨h1, h2, ⟨_, g5, rfl⟩, kk⟩
theorem zh5_at (h : Heap) (l1 l2 : Addr) : IsZip (zh5 h l1 l2) (h.objs.size + 4) (h.objs.size + 2) (h.objs.size + 3) .none ∧ IsPair (zh5 h l1 l2) (h.objs.size + 2) (.ref h.objs.size) (.ref (h.objs.size + 1)) ∧ IsPair (zh5 h l1 l2) (h.objs.size + 3) .none .none ∧
    (zh5 h l1 l2).IsTupleIter h.objs.size l1 0 ∧ (zh5 h l1 l2).IsTupleIter (h.objs.size + 1) l2 0 ∧ ∀ c o, h.get? c = some o → (zh5 h l1 l2).get? c = some o := by
  have e1 : ∀ (h : Heap) (o : Obj), (h.push o).objs.size = h.objs.size + 1 := fun h o => Heap.size_push h o
  have at0 : ∀ (h : Heap) (o : Obj), o.isFreed = false → (h.push o).get? h.objs.size = some o := fun h o f => Heap.get?_push_size h f
  have up : ∀ (h : Heap) (o : Obj) {c x}, h.get? c = some x → (h.push o).get? c = some x := fun h o c x q => Heap.get?_push_of_some o q
  unfold zh5 zh1
  generalize ha : h.push { cls := .type "tuple_iterator", data := .fields #[.ref l1, .int 0 0] } = A1
  have a1 := at0 h { cls := .type "tuple_iterator", data := .fields #[.ref l1, .int 0 0] } rfl
  rw [ha] at a1
  have s1 : A1.objs.size = h.objs.size + 1 := by rw [← ha, e1]
  generalize hb : A1.push { cls := .type "tuple_iterator", data := .fields #[.ref l2, .int 0 0] } = A2
  have b1 := at0 A1 { cls := .type "tuple_iterator", data := .fields #[.ref l2, .int 0 0] } rfl
  rw [hb, s1] at b1
  have s2 : A2.objs.size = h.objs.size + 2 := by rw [← hb, e1, s1]
  generalize hc : A2.push { cls := .type "tuple", data := .seq #[.ref h.objs.size, .ref (h.objs.size + 1)] } = A3
  have c1 := at0 A2 { cls := .type "tuple", data := .seq #[.ref h.objs.size, .ref (h.objs.size + 1)] } rfl
  rw [hc, s2] at c1
  have s3 : A3.objs.size = h.objs.size + 3 := by rw [← hc, e1, s2]
  generalize hd : A3.push { cls := .type "tuple", data := .seq #[.none, .none] } = A4
  have d1 := at0 A3 { cls := .type "tuple", data := .seq #[.none, .none] } rfl
  rw [hd, s3] at d1
  have s4 : A4.objs.size = h.objs.size + 4 := by rw [← hd, e1, s3]
  have z1 := at0 A4 { cls := .type "zip", data := .fields #[.none, .bool false, .bool false, .ref (h.objs.size + 2), .ref (h.objs.size + 3)] } rfl
  rw [s4] at z1
  have u4 : ∀ {c x}, A3.get? c = some x → A4.get? c = some x := fun q => hd ▸ up _ _ q
  have u3 : ∀ {c x}, A2.get? c = some x → A3.get? c = some x := fun q => hc ▸ up _ _ q
  have u2 : ∀ {c x}, A1.get? c = some x → A2.get? c = some x := fun q => hb ▸ up _ _ q
  have u1 : ∀ {c x}, h.get? c = some x → A1.get? c = some x := fun q => ha ▸ up _ _ q
  exact ⟨z1, up _ _ (u4 c1), up _ _ d1, ⟨_, up _ _ (u4 (u3 (u2 a1))), rfl, rfl⟩, ⟨_, up _ _ (u4 (u3 b1)), rfl, rfl⟩, fun c o q => up _ _ (u4 (u3 (u2 (u1 q))))⟩
end
section
variable {prog : Program} {w : World} {A : Around} {E : Value → Shared → Prop} {gs : Array GenState} {dr : Drawn} {tk : Tok} {os : OsState}
variable {b : Heap} {e : Ent} {g g' : GH} {L : Addr} {h h' : Heap} {l : List (Str × Value)} {n n' : List (Addr × Obj)} {K : Frag} {env : Env} {sc : Scope} {cl : List (Str × Addr)}
/-- some things that are nobody's here have changed -/
theorem St.offs (S : St b e g L h l n) {wr : List Addr} (hk : ∀ a o, a ∉ wr → h.get? a = some o → h'.get? a = some o) (hw : ∀ c ∈ wr, g c = none ∧ c ≠ L ∧ c ∉ n.map (·.1) ∧ e.h.get? c = none) : St b e g L h' l n := by
  have ng : ∀ a x, g a = some x → a ∉ wr := fun a x q z => by have := (hw a z).1; rw [this] at q; cases q
  have ne : ∀ a x, e.h.get? a = some x → a ∉ wr := fun a x q z => by have := (hw a z).2.2.2; rw [this] at q; cases q
  refine { S with ns := ?_, gk := fun a x q => hk a x (ng a x q) (S.gk a x q), own := fun p hp => ⟨hk _ _ (fun z => (hw _ z).2.2.1 (List.mem_map_of_mem hp)) (S.own p hp).1, (S.own p hp).2⟩, fr := fun a x q w => hk a x (ne a x q) (S.fr a x q w), lv := fun a x q => ?_ }
  · obtain ⟨m, ⟨oL, a1, a2, hL', a3⟩, hm⟩ := S.ns
    exact ⟨m, ⟨oL, a1, a2, hk L oL (fun z => (hw _ z).2.1 rfl) hL', a3⟩, hm⟩
  · obtain ⟨o, y⟩ := S.lv a x q
    exact ⟨o, hk a o (ne a x q) y⟩
/-- a for over pairs that an iterator hands out -/
theorem r_forZ {σ : Type} {x1 x2 : Str} {p1 p2 pt : Pos} {kt : Nat} {body : List Stmt} {Q : Flow → Shared → Prop} {I : Addr} {fp wr : List Addr} {N : Nat} {Pt : Nat → Array Value → Prop} {Si : Nat → Heap → Prop} {Mid : Nat → Addr → Heap → Prop} {d u : Nat}
    (J : Nat → σ → GH → Prop) (lk : σ → List (Str × Value)) (nk : σ → List (Addr × Obj)) {x0 : σ} (Ca : Cx A d u) (C : En env sc cl L) (hx1 : sc.names.lookup x1 = some .local) (hx2 : sc.names.lookup x2 = some .local) (Wk : WalksT prog w A I fp wr N Pt Si Mid)
    (h2 : ∀ i vals, Pt i vals → ∃ v0 v1, vals = #[v0, v1])
    (S : St b e g L h (lk x0) (nk x0)) (hfp : ∀ c ∈ fp, (∃ o, h.get? c = some o) ∧ c ≠ L ∧ c ∉ (nk x0).map (·.1)) (hg : ∀ c ∈ wr, g c = none) (hI0 : ∀ c ∈ wr, e.h.get? c = none) (hlive : ∀ i h, Si i h → ∀ c ∈ wr, ∃ o, h.get? c = some o) (hst : Si 0 h) (hj : J 0 x0 g)
    (turn : ∀ i v1 v2 y g' h' tk' e' E' R, Cont R (FEnd b e e' L gs dr os (J (i + 1)) lk nk Q) → i < N → Pt i #[v1, v2] → J i y g' → (∀ a o, g a = some o → g' a = some o) → St b e' g' L h' ((x2, v2) :: (x1, v1) :: lk y) (nk y) →
      wpAny (model prog w) A (execs body env) R E' ⟨h', gs, dr, tk', os⟩)
    (done : ∀ y g' h' tk', J N y g' → (∀ a o, g a = some o → g' a = some o) → St b e g' L h' (lk y) (nk y) → Q .next ⟨h', gs, dr, tk', os⟩) :
    codeAny (model prog w) A (.forLoop (.Tuple [.Name x1 p1, .Name x2 p2] kt pt) (.ref I) body [] env) (fun r s' => match r with | .ok f => Q f s' | .error e => cameBackBy (model prog w) A env E e s') ⟨h, gs, dr, tk, os⟩ := by
  refine codeAny_forLoop_any (FInv b e g L gs dr os J lk nk fp N Si fun g' => ∀ c ∈ wr, g' c = none) ?_ (N + 1)
    ⟨0, x0, g, h, tk, rfl, Nat.zero_le _, hj, fun _ _ q => q, S, hst, hg, hfp, rfl⟩
  rintro k _ ⟨i, y, g', h', tk', rfl, hi, hj', hsub, S', hst', hg', hfp', rfl⟩
  have hg' : ∀ c ∈ wr, g' c = none := hg'
  have offw : ∀ c ∈ wr, g' c = none ∧ c ≠ L ∧ c ∉ (nk y).map (·.1) ∧ e.h.get? c = none := fun c hc => ⟨hg' c hc, (hfp' c (Wk.sub c hc)).2.1, (hfp' c (Wk.sub c hc)).2.2, hI0 c hc⟩
  by_cases lt : i < N
  · refine Wk.item i _ _ _ lt hst' fun T vals h1 tk1 hP hTs hT hMid hk1 => ?_
    obtain ⟨v1, v2, rfl⟩ := h2 _ _ hP
    refine Wk.go _ kt pt i T _ _ _ hMid fun h2 hst2 hk2 => ?_
    have hk2 : ∀ a o, a ∉ wr → h1.get? a = some o → h2.get? a = some o := hk2
    have hT2 : h2.IsTuple T #[v1, v2] := hT.at fun o q => hk2 T o (Wk.apart i T h1 hMid) q
    refine wpAny_assign_Tuple Ca.hand hT2 rfl rfl fun h3 hx3 => ?_
    have hx3 : Heap.ExtBut h2.objs.size h2 h3 := hx3
    have up3 : ∀ a o, h2.get? a = some o → h3.get? a = some o := fun a o q => hx3 a o (Nat.ne_of_lt (Heap.lt_size q)) q
    have S3 : St b e g' L h3 (lk y) (nk y) := S'.offs (wr := wr) (fun a o na q => up3 a o (hk2 a o na (hk1 a o na q))) offw
    have hlo := C.lo
    subst hlo
    show wpAny _ A (do holding [v2] (assign (.Name x1 p1) env v1); do holding [] (assign (.Name x2 p2) env v2); pure ()) _ _ _
    obtain ⟨m, hn, hm⟩ := S3.ns
    refine wpAny_bind (wpAny_holding (wpAny_assign_Name (wpAny_storeName_local (C.kindOf hx1) hn (fun h4 hn4 hs4 => ?_) (by rw [C.kind]; rfl))))
    have hs4 : Heap.SameBut env.locals h3 h4 := hs4
    have S4 : St b e g' env.locals h4 ((x1, v1) :: lk y) (nk y) := S3.locals hn4 hs4 (lookup_put hm)
    obtain ⟨m', hn', hm'⟩ := S4.ns
    refine wpAny_bind (wpAny_holding (wpAny_assign_Name (wpAny_storeName_local (C.kindOf hx2) hn' (fun h5 hn5 hs5 => wpAny_pure ?_) (by rw [C.kind]; rfl))))
    have hs5 : Heap.SameBut env.locals h4 h5 := hs5
    have S5 : St b e g' env.locals h5 ((x2, v2) :: (x1, v1) :: lk y) (nk y) := S4.locals hn5 hs5 (lookup_put hm')
    have up5 : ∀ c ∈ fp, ∀ o, h2.get? c = some o → h5.get? c = some o := fun c hc o q => hs5.extBut c o (hfp' c hc).2.1 (hs4.extBut c o (hfp' c hc).2.1 (up3 c o q))
    have live5 : ∀ c ∈ fp, ∃ o, h5.get? c = some o := fun c hc => by
      obtain ⟨⟨o, ho⟩, _⟩ := hfp' c hc
      by_cases z : c ∈ wr
      · obtain ⟨o, q⟩ := hlive _ _ hst2 c z
        exact ⟨o, up5 c hc o q⟩
      · exact ⟨o, up5 c hc o (hk2 c o z (hk1 c o z ho))⟩
    have off5 : ∀ c ∈ fp, c ∉ env.locals :: (nk y).map (·.1) := fun c hc q => by
      rcases List.mem_cons.mp q with q | q
      · exact (hfp' c hc).2.1 q
      · exact (hfp' c hc).2.2 q
    have hst5 : Si (i + 1) h5 := Wk.frame _ _ _ hst2 up5
    refine wpAny_mono (turn i v1 v2 y g' h5 _ _ _ _ (fun _ _ x => x) lt hP hj' hsub S5.snap) (fun f s3 hf => ?_) fun _ _ y => y
    have step : ∀ {y3 g3 h3 tk3}, J (i + 1) y3 g3 → St b ⟨h5, g', env.locals :: (nk y).map (·.1)⟩ g3 env.locals h3 (lk y3) (nk y3) → s3 = ⟨h3, gs, dr, tk3, os⟩ →
        ∃ m, m < N + 1 - i ∧ FInv b e g env.locals gs dr os J lk nk fp N Si (fun g' => ∀ c ∈ wr, g' c = none) m s3 := by
      intro y3 g3 h3 tk3 hj3 T e3
      have kept : ∀ c ∈ fp, ∀ o, h5.get? c = some o → h3.get? c = some o := fun c hc o q => T.fr c o q (off5 c hc)
      refine ⟨N + 1 - (i + 1), by lia, i + 1, y3, g3, h3, tk3, rfl, lt, hj3, fun a o q => T.gsub a o (hsub a o q), S5.trans T, Wk.frame _ _ _ hst5 kept, fun c hc => ?_, fun c hc => ?_, e3⟩
      · cases q : g3 c with
        | none => rfl
        | some o =>
          rcases T.gnew c o q with r | r
          · have r : g' c = some o := r
            rw [hg' c hc] at r; cases r
          · obtain ⟨o', q'⟩ := live5 c (Wk.sub c hc)
            have r : h5.get? c = none := r
            rw [r] at q'; cases q'
      · obtain ⟨o, q⟩ := live5 c hc
        refine ⟨⟨o, kept c hc o q⟩, (hfp' c hc).2.1, fun z => ?_⟩
        obtain ⟨p, hp, e4⟩ := List.mem_map.mp z
        rcases (T.own p hp).2.2.2 with r | r
        · exact off5 c hc (e4 ▸ r)
        · have r : h5.get? p.1 = none := r
          rw [e4, q] at r; cases r
    cases f with
    | next => obtain ⟨y3, g3, h3, tk3, hj3, T, e3⟩ := hf; exact step hj3 T e3
    | cont => obtain ⟨y3, g3, h3, tk3, hj3, T, e3⟩ := hf; exact step hj3 T e3
    | brk => obtain ⟨g3, h3, tk3, l3, n3, T, _, q⟩ := hf; exact q (S5.trans T)
    | ret v => obtain ⟨g3, h3, tk3, l3, n3, T, _, q⟩ := hf; exact q (S5.trans T)
  · have hiN : i = N := by lia
    subst hiN
    refine Wk.done _ _ _ hst' fun h1 tk1 hk1 => ?_
    exact wpAny_execs_nil (done y g' h1 tk1 hj' hsub (S'.offs (wr := wr) hk1 offw))
theorem St.newAt (S : St b e g L h l n) {c : Addr} (hc : h.objs.size ≤ c) : g c = none ∧ e.h.get? c = none ∧ c ≠ L ∧ c ∉ n.map (·.1) :=
  ⟨by
    cases q : g c with
    | none => rfl
    | some o => exact absurd (S.lt q) (Nat.not_lt.mpr hc), S.none_e (none_of_le hc), Nat.ne_of_gt (Nat.lt_of_lt_of_le S.Llt hc), fun z => by
    obtain ⟨p, hp, e4⟩ := List.mem_map.mp z
    have := Heap.lt_size (S.own p hp).1
    rw [e4] at this
    exact absurd this (Nat.not_lt.mpr hc)⟩
theorem St.gAt (S : St b e g L h l n) {c : Addr} {o : Obj} (hc : g c = some o) : c ≠ L ∧ c ∉ n.map (·.1) ∧ @LT.lt Nat _ c h.objs.size :=
  by
  refine ⟨fun z => ?_, fun z => ?_, S.lt hc⟩
  · have q := S.lg
    rw [← z, hc] at q; cases q
  · obtain ⟨p, hp, e4⟩ := List.mem_map.mp z
    have q := (S.own p hp).2.1
    rw [e4, hc] at q; cases q
theorem r_for_zipT {σ : Type} {x1 x2 : Str} {p1 p2 pt : Pos} {kt : Nat} {body : List Stmt} {Q : Flow → Shared → Prop} {a c : Addr} {vs ws : List Value} {d u : Nat}
    (J : Nat → σ → GH → Prop) (lk : σ → List (Str × Value)) (nk : σ → List (Addr × Obj)) {x0 : σ} (Ca : Cx A d u) (C : En env sc cl L) (hx1 : sc.names.lookup x1 = some .local) (hx2 : sc.names.lookup x2 = some .local)
    (S : St b e g L h (lk x0) (nk x0)) (ha : g a = some (tupO vs)) (hc : g c = some (tupO ws)) (hlen : vs.length = ws.length) (hj : J 0 x0 g)
    (turn : ∀ i v1 v2 y g' h' tk' e' E' R, Cont R (FEnd b e e' L gs dr os (J (i + 1)) lk nk Q) → vs[i]? = some v1 → ws[i]? = some v2 → J i y g' → (∀ a o, g a = some o → g' a = some o) → St b e' g' L h' ((x2, v2) :: (x1, v1) :: lk y) (nk y) →
      wpAny (model prog w) A (execs body env) R E' ⟨h', gs, dr, tk', os⟩)
    (done : ∀ y g' h' tk', J vs.length y g' → (∀ a o, g a = some o → g' a = some o) → St b e g' L h' (lk y) (nk y) → Q .next ⟨h', gs, dr, tk', os⟩) :
    wpAny (model prog w) A (call (.type "zip") [.ref a, .ref c]) (fun xv s₁ => wpAny (model prog w) A (pyIter xv) (fun it s₂ => codeAny (model prog w) A (.forLoop (.Tuple [.Name x1 p1, .Name x2 p2] kt pt) it body [] env)
      (fun r s' => match r with | .ok f => Q f s' | .error e => cameBackBy (model prog w) A env E e s') s₂) E s₁) E ⟨h, gs, dr, tk, os⟩ := by
  have t1 : h.IsTuple a vs.toArray := ⟨_, S.gk _ _ ha, rfl, 0, rfl⟩
  have t2 : h.IsTuple c ws.toArray := ⟨_, S.gk _ _ hc, rfl, 0, rfl⟩
  obtain ⟨a1, a2, a3⟩ := S.gAt ha
  obtain ⟨c1, c2, c3⟩ := S.gAt hc
  refine callZipT (s := ⟨h, gs, dr, tk, os⟩) t1 t2 ?_
  obtain ⟨z1, z2, z3, z4, z5, up⟩ := zh5_at h a c
  dsimp only
  generalize zh5 h a c = h5 at *
  refine wpAny_pyIter_zip (s := ⟨h5, gs, dr, tk, os⟩) z1 ?_
  have S5 := S.grow up
  generalize hk : h.objs.size = k at *
  have n0 : ∀ j : Nat, @LE.le Nat _ h.objs.size (k + j) := fun j => by rw [hk]; exact Nat.le_add_right _ _
  have ne1 : ∀ j : Nat, a ≠ k + j := fun j => Nat.ne_of_lt (Nat.lt_of_lt_of_le a3 (Nat.le_add_right _ _))
  have ne2 : ∀ j : Nat, c ≠ k + j := fun j => Nat.ne_of_lt (Nat.lt_of_lt_of_le c3 (Nat.le_add_right _ _))
  have X : Apart2 (k + 4) (k + 2) (k + 3) k (k + 1) [k, a] [k + 1, c] := by
    have q : ∀ i j : Nat, i ≠ j → @Ne Nat (k + i) (k + j) := fun i j h z => h (Nat.add_left_cancel z)
    have q0 : ∀ j : Nat, j ≠ 0 → @Ne Nat (k + j) k := fun j h z => h (Nat.add_left_cancel (z.trans (Nat.add_zero k).symm))
    have m1 : ∀ j : Nat, j ≠ 0 → k + j ∉ [k, a] := fun j h z => by
      rcases List.mem_cons.mp z with z | z
      · exact q0 j h z
      · exact ne1 j (List.mem_singleton.mp z).symm
    have m2 : ∀ j : Nat, j ≠ 1 → k + j ∉ [k + 1, c] := fun j h z => by
      rcases List.mem_cons.mp z with z | z
      · exact q j 1 h z
      · exact ne2 j (List.mem_singleton.mp z).symm
    exact ⟨m1 4 (by decide), m2 4 (by decide), m1 3 (by decide), m2 3 (by decide), .head _, .head _, m2 0 (by decide), m1 1 (by decide), q 2 4 (by decide), q 2 3 (by decide), q0 2 (by decide), q 2 1 (by decide), q 3 4 (by decide)⟩
  have D1 := drawsTuple (prog := prog) (w := w) (A := A.in1) Ca.hand k a (ne1 0) vs.toArray
  have D2 := drawsTuple (prog := prog) (w := w) (A := A.in1) Ca.hand (k + 1) c (ne2 1) ws.toArray
  rw [show vs.toArray.size = vs.length by simp] at D1
  rw [show ws.toArray.size = vs.length by simp [hlen]] at D2
  have Wk := walksZip X D1 D2
  have t1' : h5.IsTuple a vs.toArray := let ⟨o, ho, r⟩ := t1; ⟨o, up _ _ ho, r⟩
  have t2' : h5.IsTuple c ws.toArray := let ⟨o, ho, r⟩ := t2; ⟨o, up _ _ ho, r⟩
  refine r_forZ J lk nk Ca C hx1 hx2 Wk (fun i vals hv => ?_) S5 (fun x hx => ?_) (fun x hx => ?_) (fun x hx => ?_) (fun i hh st x hx => ?_) ⟨z1, z2, ⟨_, _, z3⟩, ⟨z4, t1'⟩, ⟨z5, t2'⟩⟩ hj (fun i v1 v2 y g' h' tk' e' E' R hR lt hP => ?_) done
  · obtain ⟨x, y, _, _, e⟩ := hv; exact ⟨x, y, e⟩
  · simp only [List.mem_cons, List.mem_append, List.not_mem_nil, or_false] at hx
    have new : ∀ j : Nat, (∃ o, h5.get? (k + j) = some o) → (∃ o, h5.get? (k + j) = some o) ∧ k + j ≠ L ∧ k + j ∉ (nk x0).map (·.1) := fun j l => ⟨l, (S.newAt (n0 j)).2.2⟩
    rcases hx with rfl | rfl | rfl | (rfl | rfl) | rfl | rfl
    · exact new 4 ⟨_, z1⟩
    · exact new 2 ⟨_, z2⟩
    · exact new 3 ⟨_, z3⟩
    · obtain ⟨o, q, _⟩ := z4; exact new 0 ⟨o, q⟩
    · obtain ⟨o, q, _⟩ := t1'; exact ⟨⟨o, q⟩, a1, a2⟩
    · obtain ⟨o, q, _⟩ := z5; exact new 1 ⟨o, q⟩
    · obtain ⟨o, q, _⟩ := t2'; exact ⟨⟨o, q⟩, c1, c2⟩
  · simp only [List.mem_cons, List.not_mem_nil, or_false] at hx
    rcases hx with rfl | rfl | rfl | rfl
    · exact (S.newAt (n0 4)).1
    · exact (S.newAt (n0 3)).1
    · exact (S.newAt (n0 0)).1
    · exact (S.newAt (n0 1)).1
  · simp only [List.mem_cons, List.not_mem_nil, or_false] at hx
    rcases hx with rfl | rfl | rfl | rfl
    · exact (S.newAt (n0 4)).2.1
    · exact (S.newAt (n0 3)).2.1
    · exact (S.newAt (n0 0)).2.1
    · exact (S.newAt (n0 1)).2.1
  · simp only [List.mem_cons, List.not_mem_nil, or_false] at hx
    obtain ⟨y1, y2, ⟨_, _, y3⟩, ⟨⟨o4, y4, _⟩, _⟩, ⟨o5, y5, _⟩, _⟩ := st
    rcases hx with rfl | rfl | rfl | rfl
    · exact ⟨_, y1⟩
    · exact ⟨_, y3⟩
    · exact ⟨_, y4⟩
    · exact ⟨_, y5⟩
  · obtain ⟨x, y', px, py, e5⟩ := hP
    have e6 : v1 = x ∧ v2 = y' := by simpa using e5
    obtain ⟨rfl, rfl⟩ := e6
    exact turn i v1 v2 y g' h' tk' e' E' R hR (by simpa using px) (by simpa using py)
theorem r_for_zipL {σ : Type} {x1 x2 : Str} {p1 p2 pt : Pos} {kt : Nat} {body : List Stmt} {Q : Flow → Shared → Prop} {a c : Addr} {vs ws : List Value} {ka kc : Nat} {d u : Nat}
    (J : Nat → σ → GH → Prop) (lk : σ → List (Str × Value)) (nk : σ → List (Addr × Obj)) {x0 : σ} (Ca : Cx A d u) (C : En env sc cl L) (hx1 : sc.names.lookup x1 = some .local) (hx2 : sc.names.lookup x2 = some .local)
    (S : St b e g L h (lk x0) (nk x0)) (ha : g a = some (listO vs ka)) (hc : g c = some (listO ws kc)) (hlen : vs.length = ws.length) (hj : J 0 x0 g)
    (turn : ∀ i v1 v2 y g' h' tk' e' E' R, Cont R (FEnd b e e' L gs dr os (J (i + 1)) lk nk Q) → vs[i]? = some v1 → ws[i]? = some v2 → J i y g' → (∀ a o, g a = some o → g' a = some o) → St b e' g' L h' ((x2, v2) :: (x1, v1) :: lk y) (nk y) →
      wpAny (model prog w) A (execs body env) R E' ⟨h', gs, dr, tk', os⟩)
    (done : ∀ y g' h' tk', J vs.length y g' → (∀ a o, g a = some o → g' a = some o) → St b e g' L h' (lk y) (nk y) → Q .next ⟨h', gs, dr, tk', os⟩) :
    wpAny (model prog w) A (call (.type "zip") [.ref a, .ref c]) (fun xv s₁ => wpAny (model prog w) A (pyIter xv) (fun it s₂ => codeAny (model prog w) A (.forLoop (.Tuple [.Name x1 p1, .Name x2 p2] kt pt) it body [] env)
      (fun r s' => match r with | .ok f => Q f s' | .error e => cameBackBy (model prog w) A env E e s') s₂) E s₁) E ⟨h, gs, dr, tk, os⟩ := by
  have t1 : h.IsList a vs.toArray := S.isListG ha
  have t2 : h.IsList c ws.toArray := S.isListG hc
  obtain ⟨a1, a2, a3⟩ := S.gAt ha
  obtain ⟨c1, c2, c3⟩ := S.gAt hc
  refine call_zip_2 (s := ⟨h, gs, dr, tk, os⟩) t1 t2 fun h5 z1 z2 z3 z4 z5 _ up => ?_
  dsimp only at z1 z2 z3 z4 z5 up ⊢
  refine wpAny_pyIter_zip (s := ⟨h5, gs, dr, tk, os⟩) z1 ?_
  have S5 := S.grow up
  have X := zipApart_new (n := h.objs.size) a3 c3
  have t1' : h5.IsList a vs.toArray := t1.at fun o q => up _ _ q
  have t2' : h5.IsList c ws.toArray := t2.at fun o q => up _ _ q
  generalize hk : h.objs.size = k at *
  have n0 : ∀ j : Nat, @LE.le Nat _ h.objs.size (k + j) := fun j => by rw [hk]; exact Nat.le_add_right _ _
  have Wk := WalksT.zip2 (prog := prog) (w := w) Ca.hand (k + 4) (k + 2) (k + 3) k (k + 1) a c X vs.toArray ws.toArray
  rw [show min vs.toArray.size ws.toArray.size = vs.length by simp [hlen]] at Wk
  refine r_forZ J lk nk Ca C hx1 hx2 Wk (fun i vals hv => ?_) S5 (fun x hx => ?_) (fun x hx => ?_) (fun x hx => ?_) (fun i hh st x hx => ?_) ⟨z1, z2, ⟨_, _, z3⟩, z4, z5, t1', t2'⟩ hj (fun i v1 v2 y g' h' tk' e' E' R hR lt hP => ?_) done
  · obtain ⟨x, y, _, _, e⟩ := hv; exact ⟨x, y, e⟩
  · simp only [List.mem_cons, List.not_mem_nil, or_false] at hx
    have new : ∀ j : Nat, (∃ o, h5.get? (k + j) = some o) → (∃ o, h5.get? (k + j) = some o) ∧ k + j ≠ L ∧ k + j ∉ (nk x0).map (·.1) := fun j l => ⟨l, (S.newAt (n0 j)).2.2⟩
    rcases hx with rfl | rfl | rfl | rfl | rfl | rfl | rfl
    · exact new 4 ⟨_, z1⟩
    · exact new 2 ⟨_, z2⟩
    · exact new 3 ⟨_, z3⟩
    · obtain ⟨o, q, _⟩ := z4; exact new 0 ⟨o, q⟩
    · obtain ⟨o, q, _⟩ := z5; exact new 1 ⟨o, q⟩
    · obtain ⟨o, q, _⟩ := t1'; exact ⟨⟨o, q⟩, a1, a2⟩
    · obtain ⟨o, q, _⟩ := t2'; exact ⟨⟨o, q⟩, c1, c2⟩
  · simp only [List.mem_cons, List.not_mem_nil, or_false] at hx
    rcases hx with rfl | rfl | rfl | rfl
    · exact (S.newAt (n0 4)).1
    · exact (S.newAt (n0 3)).1
    · exact (S.newAt (n0 0)).1
    · exact (S.newAt (n0 1)).1
  · simp only [List.mem_cons, List.not_mem_nil, or_false] at hx
    rcases hx with rfl | rfl | rfl | rfl
    · exact (S.newAt (n0 4)).2.1
    · exact (S.newAt (n0 3)).2.1
    · exact (S.newAt (n0 0)).2.1
    · exact (S.newAt (n0 1)).2.1
  · simp only [List.mem_cons, List.not_mem_nil, or_false] at hx
    obtain ⟨y1, y2, ⟨_, _, y3⟩, ⟨o4, y4, _⟩, ⟨o5, y5, _⟩, _⟩ := st
    rcases hx with rfl | rfl | rfl | rfl
    · exact ⟨_, y1⟩
    · exact ⟨_, y3⟩
    · exact ⟨_, y4⟩
    · exact ⟨_, y5⟩
  · obtain ⟨x, y', px, py, e5⟩ := hP
    have e6 : v1 = x ∧ v2 = y' := by simpa using e5
    obtain ⟨rfl, rfl⟩ := e6
    exact turn i v1 v2 y g' h' tk' e' E' R hR (by simpa using px) (by simpa using py)
end
/-! what the slow way leaves -/
noncomputable def Tree.kd : Tree → Nk | .node k _ => k
noncomputable def Tree.kids : Tree → List Tree | .node _ ks => ks
noncomputable def arity : Nk → List Tree → Prop
  | .const _, ks => ks = []
  | .loc _, ks => ks = []
  | .set _, ks => ks.length = 1
  | .ite, ks => ks.length = 3
  | .lam _ ps _, ks => ks.length = 1 ∧ ps.length ≤ 100
  | .call, ks => ks ≠ []
  | _, _ => True
mutual
noncomputable def Tree.wf : Tree → Prop
  | .node k ks => arity k ks ∧ wfL ks
noncomputable def wfL : List Tree → Prop
  | [] => True
  | t :: ts => t.wf ∧ wfL ts
end
theorem wfL_append : ∀ ts us : List Tree, wfL (ts ++ us) ↔ wfL ts ∧ wfL us
  | [], us => by simp [wfL]
  | t :: ts, us => by simp only [List.cons_append, wfL, wfL_append ts us, and_assoc]
theorem wfL_mem : ∀ {ts : List Tree} {t : Tree}, wfL ts → t ∈ ts → t.wf
  | u :: ts, t, h, m => by
    rcases List.mem_cons.mp m with rfl | m
    · exact h.1
    · exact wfL_mem h.2 m
mutual
theorem NodeAt.wf {P : Params} {g : GH} : ∀ {v t}, NodeAt P g v t → t.wf
  | _, _, .mk s r => ⟨by have q := NodesAt.length r; cases s <;> first | exact List.eq_nil_of_length_eq_zero q.symm | exact q.symm | exact ⟨q.symm, by assumption⟩ | (intro z; subst z; simp at q) | trivial, NodesAt.wf r⟩
theorem NodesAt.wf {P : Params} {g : GH} : ∀ {vs ts}, NodesAt P g vs ts → wfL ts
  | _, _, .nil => trivial
  | _, _, .cons x r => ⟨NodeAt.wf x, NodesAt.wf r⟩
end
noncomputable def goB (W : Tree) (n : Int) : Nk → Bool
  | .const .pair => cnt 3 n W == 0 && cnt 1 n W == 1
  | .const _ => cnt 3 n W == 0
  | .loc m => cnt 3 n W == 0 && cnt 3 m W == 0
  | _ => false
structure DS where
  b : Tree
  ks : List Int
  os : List Tree
noncomputable def dueTurn (W : Tree) (x : DS) (n : Int) (o : Tree) : DS := if goB W n o.kd then ⟨putT n o x.b, x.ks, x.os⟩ else ⟨x.b, x.ks ++ [n], x.os ++ [o]⟩
noncomputable def dueGo (W : Tree) : DS → List Int → List Tree → DS
  | x, n :: ns, o :: os => dueGo W (dueTurn W x n o) ns os
  | x, _, _ => x
noncomputable def dueLet (W : Tree) (l : Int) (ps : List Int) (r : Int) (body : Tree) (ops : List Tree) : Tree :=
  if 0 ≤ r ∨ ps.length ≠ ops.length then .node .call (.node (.lam l ps r) [body] :: ops)
  else
    let x := dueGo W ⟨body, [], []⟩ ps ops
    if x.ks = [] ∧ ps ≠ [] then x.b
    else if ps = [] ∨ x.ks.length = ps.length then .node .call (.node (.lam l ps r) [body] :: ops)
    else .node .call (.node (.lam l x.ks (-1)) [x.b] :: x.os)
noncomputable def dueStep (W : Tree) : Nk → List Tree → Tree
  | .call, .node (.lam l ps r) [body] :: ops => dueLet W l ps r body ops
  | k, ks => .node k ks
mutual
noncomputable def dueT (W : Tree) : Tree → Tree
  | .node k ks => dueStep W k (dueTs W ks)
noncomputable def dueTs (W : Tree) : List Tree → List Tree
  | [] => []
  | t :: ts => dueT W t :: dueTs W ts
end
theorem dueTs_length (W : Tree) : ∀ ts, (dueTs W ts).length = ts.length
  | [] => rfl
  | t :: ts => by simp only [dueTs, List.length_cons, dueTs_length W ts]
theorem dueTs_get {W : Tree} : ∀ {ts : List Tree} {i : Nat} {t : Tree}, ts[i]? = some t → (dueTs W ts)[i]? = some (dueT W t)
  | t :: ts, 0, _, h => by cases h; rfl
  | t :: ts, i + 1, u, h => by
    have := dueTs_get (W := W) (ts := ts) (i := i) (by simpa using h)
    simpa [dueTs] using this
  | [], _, _, h => by simp at h
theorem goB_leaf {W : Tree} {n : Int} {o : Tree} (hw : o.wf) (h : goB W n o.kd = true) : o.size = 1 ∧ o.ht = 1 := by
  obtain ⟨k, ks⟩ := o
  have ha := hw.1
  cases k <;> simp_all [goB, Tree.kd, arity, Tree.size, sizes, Tree.ht, hts]
/-! sizes, heights, arities stay -/
mutual
theorem putT_size {n : Int} {o : Tree} (ho : o.size = 1) (hh : o.ht = 1) : ∀ t : Tree, (putT n o t).size ≤ t.size ∧ (putT n o t).ht ≤ t.ht
  | .node k ks => by
    have h := putL_size (n := n) ho hh ks
    simp only [putT]
    split
    · simp only [Tree.size, Tree.ht]; lia
    · simp only [Tree.size, Tree.ht]; lia
theorem putL_size {n : Int} {o : Tree} (ho : o.size = 1) (hh : o.ht = 1) : ∀ ts : List Tree, sizes (putL n o ts) ≤ sizes ts ∧ hts (putL n o ts) ≤ hts ts
  | [] => by simp [putL, sizes, hts]
  | t :: ts => by
    have h1 := putT_size (n := n) ho hh t
    have h2 := putL_size (n := n) ho hh ts
    simp only [putL, sizes, hts]; lia
end
theorem arity_len {k : Nk} {ks ks' : List Tree} (h : arity k ks) (hl : ks'.length = ks.length) : arity k ks' := by
  have e : ks = [] → ks' = [] := fun q => by subst q; exact List.eq_nil_of_length_eq_zero hl
  cases k <;> first | exact e h | exact hl.trans h | exact ⟨hl.trans h.1, h.2⟩ | trivial | (intro q; subst q; exact h (List.eq_nil_of_length_eq_zero hl.symm))
mutual
theorem putT_wf {n : Int} {o : Tree} (ho : o.wf) : ∀ t : Tree, t.wf → (putT n o t).wf
  | .node k ks, h => by
    simp only [putT]
    split
    · exact ho
    · exact ⟨arity_len h.1 (putL_length n o ks), putL_wf ho ks h.2⟩
theorem putL_wf {n : Int} {o : Tree} (ho : o.wf) : ∀ ts : List Tree, wfL ts → wfL (putL n o ts)
  | [], _ => trivial
  | t :: ts, h => ⟨putT_wf ho t h.1, putL_wf ho ts h.2⟩
end
/-- what the loop keeps -/
structure DK (x : DS) (s : Nat) (h1 h2 : Nat) : Prop where
  wb : x.b.wf
  wo : wfL x.os
  len : x.ks.length = x.os.length
  sz : x.b.size + sizes x.os ≤ s
  hb : x.b.ht ≤ h1
  ho : hts x.os ≤ h2
theorem DK.turn {W : Tree} {x : DS} {s s' h1 h : Nat} {n : Int} {o : Tree} (D : DK x s h1 h) (wo : o.wf) (hs : s + o.size ≤ s') (hh : o.ht ≤ h) : DK (dueTurn W x n o) s' h1 h := by
  obtain ⟨a1, a2, a3, a4, a5, a6⟩ := D
  unfold dueTurn
  split
  · rename_i q
    obtain ⟨q1, q2⟩ := goB_leaf wo q
    have := putT_size (n := n) q1 q2 x.b
    exact ⟨putT_wf wo _ a1, a2, a3, by dsimp only; lia, by dsimp only; lia, a6⟩
  · refine ⟨a1, (wfL_append _ _).mpr ⟨a2, wo, trivial⟩, by simp [a3], ?_, a5, ?_⟩
    · simp only [sizes_append, sizes]; lia
    · simp only [hts_append, hts]; lia
theorem DK.go {W : Tree} {h1 h : Nat} : ∀ {ns : List Int} {os : List Tree} {x : DS} {s s' : Nat}, DK x s h1 h → wfL os → s + sizes os ≤ s' → hts os ≤ h → DK (dueGo W x ns os) s' h1 h
  | n :: ns, o :: os, x, s, s', D, w, e1, e2 => by
    simp only [sizes, hts] at e1 e2
    rw [dueGo]
    exact DK.go (s := s + o.size) (D.turn w.1 (Nat.le_refl _) (by first | decide | lia)) w.2 (by first | decide | lia) (by first | decide | lia)
  | [], os, x, s, s', D, w, e1, e2 => by
    have : dueGo W x [] os = x := by cases os <;> rfl
    rw [this]; exact ⟨D.wb, D.wo, D.len, by have := D.sz; lia, D.hb, D.ho⟩
  | n :: ns, [], x, s, s', D, w, e1, e2 => by
    rw [show dueGo W x (n :: ns) [] = x from rfl]; exact ⟨D.wb, D.wo, D.len, by have := D.sz; lia, D.hb, D.ho⟩
theorem dueGo_len {W : Tree} : ∀ {ns : List Int} {os : List Tree} {x : DS}, (dueGo W x ns os).ks.length ≤ x.ks.length + ns.length
  | n :: ns, o :: os, x => by
    have := dueGo_len (W := W) (ns := ns) (os := os) (x := dueTurn W x n o)
    rw [dueGo]
    have h2 : (dueTurn W x n o).ks.length ≤ x.ks.length + 1 := by unfold dueTurn; split <;> simp
    simp only [List.length_cons]; lia
  | [], os, x => by cases os <;> simp [dueGo]
  | n :: ns, [], x => by simp [dueGo]
theorem dueLet_ok {W : Tree} {l r : Int} {ps : List Int} {body : Tree} {ops : List Tree} (hp : ps.length ≤ 100) (hb : body.wf) (ho : wfL ops) :
    (dueLet W l ps r body ops).wf ∧ (dueLet W l ps r body ops).size ≤ 2 + body.size + sizes ops ∧ (dueLet W l ps r body ops).ht ≤ 1 + max (1 + body.ht) (hts ops) := by
  have same : (Tree.node .call (.node (.lam l ps r) [body] :: ops)).wf ∧ (Tree.node .call (.node (.lam l ps r) [body] :: ops)).size ≤ 2 + body.size + sizes ops ∧ (Tree.node .call (.node (.lam l ps r) [body] :: ops)).ht ≤ 1 + max (1 + body.ht) (hts ops) := by
    refine ⟨⟨by simp [arity], ⟨⟨rfl, hp⟩, hb, trivial⟩, ho⟩, ?_, ?_⟩
    · simp only [Tree.size, sizes]; lia
    · simp only [Tree.ht, hts]; lia
  unfold dueLet
  split
  · exact same
  · obtain ⟨a1, a2, a3, a4, a5, a6⟩ := DK.go (W := W) (ns := ps) (os := ops) (x := ⟨body, [], []⟩) (s := body.size) (s' := body.size + sizes ops) (h1 := body.ht) (h := hts ops) ⟨hb, trivial, rfl, by simp [sizes], Nat.le_refl _, by simp [hts]⟩ ho (Nat.le_refl _) (Nat.le_refl _)
    dsimp only
    split
    · exact ⟨a1, by lia, by lia⟩
    · split
      · exact same
      · refine ⟨⟨by simp [arity], ⟨⟨rfl, Nat.le_trans (dueGo_len (W := W) (x := ⟨body, [], []⟩)) (by simpa using hp)⟩, a1, trivial⟩, a2⟩, ?_, ?_⟩
        · simp only [Tree.size, sizes]; lia
        · simp only [Tree.ht, hts]; lia
theorem dueStep_ok {W : Tree} {k : Nk} {ks : List Tree} (ha : arity k ks) (hk : wfL ks) : (dueStep W k ks).wf ∧ (dueStep W k ks).size ≤ 1 + sizes ks ∧ (dueStep W k ks).ht ≤ 1 + hts ks := by
  unfold dueStep
  split
  · rename_i l ps r body ops
    obtain ⟨⟨hp, hb, _⟩, ho⟩ := hk
    have := dueLet_ok (W := W) (l := l) (r := r) (ps := ps) hp.2 hb ho
    refine ⟨this.1, ?_, ?_⟩
    · simp only [sizes, Tree.size]; lia
    · simp only [hts, Tree.ht]; lia
  · exact ⟨⟨ha, hk⟩, by simp [Tree.size], by simp [Tree.ht]⟩
mutual
theorem dueT_ok (W : Tree) : ∀ t : Tree, t.wf → (dueT W t).wf ∧ (dueT W t).size ≤ t.size ∧ (dueT W t).ht ≤ t.ht
  | .node k ks, h => by
    have h1 := dueTs_ok W ks h.2
    have h2 := dueStep_ok (W := W) (k := k) (ks := dueTs W ks) (arity_len h.1 (dueTs_length W ks)) h1.1
    simp only [dueT, Tree.size, Tree.ht]
    exact ⟨h2.1, by lia, by lia⟩
theorem dueTs_ok (W : Tree) : ∀ ts : List Tree, wfL ts → wfL (dueTs W ts) ∧ sizes (dueTs W ts) ≤ sizes ts ∧ hts (dueTs W ts) ≤ hts ts
  | [], _ => ⟨trivial, Nat.le_refl _, Nat.le_refl _⟩
  | t :: ts, h => by
    have h1 := dueT_ok W t h.1
    have h2 := dueTs_ok W ts h.2
    simp only [dueTs, sizes, hts]
    exact ⟨⟨h1.1, h2.1⟩, by lia, by lia⟩
end
mutual
noncomputable def rebT (f : Nk → List Tree → Tree) : Tree → Tree
  | .node k ks => f k (rebTs f ks)
noncomputable def rebTs (f : Nk → List Tree → Tree) : List Tree → List Tree
  | [] => []
  | t :: ts => rebT f t :: rebTs f ts
end
theorem rebTs_length (f : Nk → List Tree → Tree) : ∀ ts, (rebTs f ts).length = ts.length
  | [] => rfl
  | t :: ts => by simp only [rebTs, List.length_cons, rebTs_length f ts]
theorem rebTs_append (f : Nk → List Tree → Tree) : ∀ ts us, rebTs f (ts ++ us) = rebTs f ts ++ rebTs f us
  | [], _ => rfl
  | t :: ts, us => by simp only [List.cons_append, rebTs, rebTs_append f ts us]
mutual
theorem dueT_reb (W : Tree) : ∀ t, dueT W t = rebT (dueStep W) t
  | .node k ks => by simp only [dueT, rebT, dueTs_reb W ks]
theorem dueTs_reb (W : Tree) : ∀ ts, dueTs W ts = rebTs (dueStep W) ts
  | [] => rfl
  | t :: ts => by simp only [dueTs, rebTs, dueT_reb W t, dueTs_reb W ts]
end
noncomputable def lookT : List (Int × Tree) → Int → Option Tree
  | [], _ => none
  | p :: σ, n => if p.1 = n then some p.2 else lookT σ n
noncomputable def subN (σ : List (Int × Tree)) : Nk → List Tree → Tree
  | .loc n, ks => (lookT σ n).getD (.node (.loc n) ks)
  | k, ks => .node k ks
noncomputable def goneT (W : Tree) : List Int → List Tree → List (Int × Tree)
  | n :: ns, o :: os => if goB W n o.kd then (n, o) :: goneT W ns os else goneT W ns os
  | _, _ => []
noncomputable def stayT (W : Tree) : List Int → List Tree → List (Int × Tree)
  | n :: ns, o :: os => if goB W n o.kd then stayT W ns os else (n, o) :: stayT W ns os
  | _, _ => []
noncomputable def keptT (σ : List (Int × Tree)) : List Int → List Tree → List (Int × Tree)
  | n :: ns, o :: os => if (lookT σ n).isSome then keptT σ ns os else (n, o) :: keptT σ ns os
  | _, _ => []
noncomputable def copyLet (W : Tree) (l : Int) (ps : List Int) (r : Int) (body : Tree) (ops : List Tree) : Tree :=
  if 0 ≤ r ∨ ps.length ≠ ops.length then .node .call (.node (.lam l ps r) [body] :: ops)
  else if goneT W ps ops = [] then .node .call (.node (.lam l ps r) [body] :: ops)
  else if keptT (goneT W ps ops) ps ops = [] then rebT (subN (goneT W ps ops)) body
  else .node .call (.node (.lam l ((keptT (goneT W ps ops) ps ops).map (·.1)) (-1)) [rebT (subN (goneT W ps ops)) body] :: (keptT (goneT W ps ops) ps ops).map (·.2))
noncomputable def copyStep (W : Tree) : Nk → List Tree → Tree
  | .call, .node (.lam l ps r) [body] :: ops => copyLet W l ps r body ops
  | k, ks => .node k ks
theorem hereB_loc (n m : Int) : hereB 1 n (.loc m) = (m == n) := by simp [hereB, Nk.num, Nk.own, PyData.eqv, PyData.eqvAll]
theorem hereB_other {n : Int} {k : Nk} (h : k.num ≠ 1) : hereB 1 n k = false := by simp [hereB, h]
/-- what may be put: a leaf, no local of the numbers -/
noncomputable def leafOut (ns : List Int) (o : Tree) : Prop := (∃ c, o = .node (.const c) []) ∨ ∃ m, o = .node (.loc m) [] ∧ m ∉ ns
theorem lookT_none : ∀ {σ : List (Int × Tree)} {n : Int}, n ∉ σ.map (·.1) → lookT σ n = none
  | [], _, _ => rfl
  | p :: σ, n, h => by
    simp only [List.map_cons, List.mem_cons, not_or] at h
    rw [lookT, if_neg (fun z => h.1 z.symm), lookT_none h.2]
theorem lookT_some : ∀ {σ : List (Int × Tree)} {n : Int} {o : Tree}, lookT σ n = some o → (n, o) ∈ σ
  | p :: σ, n, o, h => by
    rw [lookT] at h
    split at h
    · rename_i e; cases h; subst e; exact .head _
    · exact .tail _ (lookT_some h)
theorem sub_leaf {σ : List (Int × Tree)} {o : Tree} (h : leafOut (σ.map (·.1)) o) : rebT (subN σ) o = o := by
  rcases h with ⟨c, rfl⟩ | ⟨m, rfl, hm⟩
  · rfl
  · simp only [rebT, rebTs, subN, lookT_none hm, Option.getD_none]
mutual
theorem sub_nil : ∀ t : Tree, rebT (subN []) t = t
  | .node k ks => by
    simp only [rebT, subs_nil ks]
    cases k <;> rfl
theorem subs_nil : ∀ ts : List Tree, rebTs (subN []) ts = ts
  | [] => rfl
  | t :: ts => by simp only [rebTs, sub_nil t, subs_nil ts]
end
mutual
theorem sub_put {σ : List (Int × Tree)} {n : Int} {o : Tree} (hn : n ∉ σ.map (·.1)) (ho : leafOut (σ.map (·.1)) o) : ∀ t : Tree, t.wf → rebT (subN σ) (putT n o t) = rebT (subN ((n, o) :: σ)) t
  | .node k ks, hw => by
    have ih := subs_put hn ho ks hw.2
    by_cases hk : k.num = 1
    · obtain ⟨m, rfl⟩ : ∃ m, k = .loc m := by cases k <;> simp [Nk.num] at hk ⊢
      have hks : ks = [] := hw.1
      subst hks
      simp only [putT, hereB_loc, putL, rebT, rebTs, subN, lookT]
      by_cases hm : m = n
      · subst hm
        simp only [beq_self_eq_true, if_true, Option.getD_some]
        exact sub_leaf ho
      · have : (m == n) = false := by simpa using hm
        simp only [this, Bool.false_eq_true, if_false, if_neg (fun z => hm z.symm : ¬ n = m), rebT, rebTs, subN]
    · simp only [putT, hereB_other hk, Bool.false_eq_true, if_false, rebT, ih]
      cases k <;> first | rfl | (simp [Nk.num] at hk)
theorem subs_put {σ : List (Int × Tree)} {n : Int} {o : Tree} (hn : n ∉ σ.map (·.1)) (ho : leafOut (σ.map (·.1)) o) : ∀ ts : List Tree, wfL ts → rebTs (subN σ) (putL n o ts) = rebTs (subN ((n, o) :: σ)) ts
  | [], _ => rfl
  | t :: ts, hw => by simp only [putL, rebTs, sub_put hn ho t hw.1, subs_put hn ho ts hw.2]
end
theorem goneT_keys {W : Tree} : ∀ {ps : List Int} {ops : List Tree} {n : Int}, n ∈ (goneT W ps ops).map (·.1) → n ∈ ps
  | n :: ns, o :: os, m, h => by
    rw [goneT] at h
    split at h
    · rcases List.mem_cons.mp h with h | h
      · exact h ▸ .head _
      · exact .tail _ (goneT_keys h)
    · exact .tail _ (goneT_keys h)
  | [], _, _, h => by simp [goneT] at h
  | _ :: _, [], _, h => by simp [goneT] at h
theorem goneT_leaf {W : Tree} : ∀ {ps : List Int} {ops : List Tree} {ns : List Int} {p : Int × Tree}, wfL ops → (∀ n ∈ ns, n ∉ locsL ops) → p ∈ goneT W ps ops → leafOut ns p.2
  | n :: ps, o :: os, ns, p, hw, hl, h => by
    have tl : ∀ n ∈ ns, n ∉ locsL os := fun n hn q => hl n hn (by simp only [locsL, List.mem_append]; exact .inr q)
    rw [goneT] at h
    split at h
    · rename_i hg
      rcases List.mem_cons.mp h with rfl | h
      · obtain ⟨k, ks⟩ := o
        have ha : arity k ks := hw.1.1
        cases k with
        | const c => have : ks = [] := ha; subst this; exact .inl ⟨c, rfl⟩
        | loc m =>
          have : ks = [] := ha
          subst this
          exact .inr ⟨m, rfl, fun q => hl m q (by simp [locsL, Tree.locs])⟩
        | _ => simp [goB, Tree.kd] at hg
      · exact goneT_leaf hw.2 tl h
    · exact goneT_leaf hw.2 tl h
  | [], _, _, _, _, _, h => by simp [goneT] at h
  | _ :: _, [], _, _, _, _, h => by simp [goneT] at h
theorem dueGo_eq {W : Tree} : ∀ {ps : List Int} {ops : List Tree} {body : Tree} {k : List Int} {os : List Tree}, body.wf → wfL ops → ps.Nodup → (∀ n ∈ ps, n ∉ locsL ops) →
    dueGo W ⟨body, k, os⟩ ps ops = ⟨rebT (subN (goneT W ps ops)) body, k ++ (stayT W ps ops).map (·.1), os ++ (stayT W ps ops).map (·.2)⟩
  | n :: ns, o :: ops, body, k, os, hb, hw, hd, hl => by
    have hd' := List.nodup_cons.mp hd
    have tl : ∀ n ∈ ns, n ∉ locsL ops := fun n hn q => hl n (.tail _ hn) (by simp only [locsL, List.mem_append]; exact .inr q)
    by_cases hg : goB W n o.kd = true
    · have hleaf : leafOut ((goneT W ns ops).map (·.1)) o := by
        have := goneT_leaf (W := W) (ps := n :: ns) (ops := o :: ops) (ns := ns) (p := (n, o)) hw (fun m hm => hl m (.tail _ hm)) (by rw [goneT, if_pos hg]; exact .head _)
        rcases this with h | ⟨m, h, hm⟩
        · exact .inl h
        · exact .inr ⟨m, h, fun q => hm (goneT_keys q)⟩
      rw [dueGo, dueTurn, if_pos hg, goneT, if_pos hg, stayT, if_pos hg, dueGo_eq (putT_wf hw.1 _ hb) hw.2 hd'.2 tl, sub_put (fun q => hd'.1 (goneT_keys q)) hleaf _ hb]
    · rw [dueGo, dueTurn, if_neg hg, goneT, if_neg hg, stayT, if_neg hg, dueGo_eq hb hw.2 hd'.2 tl]
      simp
  | [], ops, body, k, os, hb, hw, hd, hl => by
    have : dueGo W ⟨body, k, os⟩ [] ops = ⟨body, k, os⟩ := by cases ops <;> rfl
    rw [this]; simp [goneT, stayT, sub_nil]
  | n :: ns, [], body, k, os, hb, hw, hd, hl => by
    rw [show dueGo W ⟨body, k, os⟩ (n :: ns) [] = ⟨body, k, os⟩ from rfl]; simp [goneT, stayT, sub_nil]
theorem kept_stay {W : Tree} {σ : List (Int × Tree)} : ∀ {ps : List Int} {ops : List Tree}, ps.Nodup → (∀ n ∈ ps, lookT σ n = lookT (goneT W ps ops) n) → keptT σ ps ops = stayT W ps ops
  | n :: ns, o :: os, hd, h => by
    have hd' := List.nodup_cons.mp hd
    have hn := h n (.head _)
    have tl : ∀ m ∈ ns, lookT σ m = lookT (goneT W ns os) m := fun m hm => by
      rw [h m (.tail _ hm), goneT]
      split
      · rw [lookT, if_neg]
        intro z; exact hd'.1 (by rw [show n = m from z]; exact hm)
      · rfl
    rw [keptT, stayT, kept_stay hd'.2 tl, hn, goneT]
    by_cases hg : goB W n o.kd = true
    · rw [if_pos hg, if_pos hg, lookT, if_pos rfl]; rfl
    · rw [if_neg hg, if_neg hg, lookT_none fun q => hd'.1 (goneT_keys q)]; rfl
  | [], _, _, _ => by simp [keptT, stayT]
  | _ :: _, [], _, _ => by simp [keptT, stayT]
theorem gone_stay_len {W : Tree} : ∀ {ps : List Int} {ops : List Tree}, ps.length = ops.length → (goneT W ps ops).length + (stayT W ps ops).length = ps.length
  | n :: ns, o :: os, h => by
    have := gone_stay_len (W := W) (ps := ns) (ops := os) (by simpa using h)
    rw [goneT, stayT]
    split
    · simp only [List.length_cons]; lia
    · simp only [List.length_cons]; lia
  | [], _, _ => by simp [goneT, stayT]
  | _ :: _, [], h => by simp at h
theorem let_eq {W : Tree} {l r : Int} {ps : List Int} {body : Tree} {ops : List Tree} (hb : body.wf) (hw : wfL ops) (hd : ps.Nodup) (hl : ∀ n ∈ ps, n ∉ locsL ops) : copyLet W l ps r body ops = dueLet W l ps r body ops := by
  unfold copyLet dueLet
  by_cases h0 : 0 ≤ r ∨ ps.length ≠ ops.length
  · rw [if_pos h0, if_pos h0]
  · rw [if_neg h0, if_neg h0]
    have hlen : ps.length = ops.length := by simp only [not_or, Decidable.not_not] at h0; exact h0.2
    rw [dueGo_eq hb hw hd hl, kept_stay hd fun _ _ => rfl]
    have hz := gone_stay_len (W := W) hlen
    simp only [List.nil_append, List.map_eq_nil_iff, List.length_map]
    by_cases hg : goneT W ps ops = []
    · have e1 : (stayT W ps ops).length = ps.length := by rw [hg] at hz; simpa using hz
      rw [if_pos hg]
      have e2 : ¬ (stayT W ps ops = [] ∧ ps ≠ []) := fun ⟨a, c⟩ => by
        rw [a] at e1; exact c (List.eq_nil_of_length_eq_zero e1.symm)
      rw [if_neg e2, if_pos (.inr e1)]
    · rw [if_neg hg]
      have e0 : 0 < (goneT W ps ops).length := List.length_pos_iff.mpr hg
      have e1 : ps ≠ [] := fun q => by subst q; exact hg (by simp [goneT])
      by_cases hk : stayT W ps ops = []
      · rw [if_pos hk, if_pos ⟨hk, e1⟩]
      · rw [if_neg hk, if_neg (fun q => hk q.1), if_neg]
        rintro (q | q)
        · exact e1 q
        · lia
/-! the locals that stand in the rewritten tree stood before -/
mutual
theorem locs_put {n : Int} {o : Tree} : ∀ (t : Tree) (m : Int), m ∈ (putT n o t).locs → m ∈ t.locs ∨ m ∈ o.locs
  | .node k ks, m, h => by
    rw [putT] at h
    split at h
    · exact .inr h
    · have ih := locs_putL (n := n) (o := o) ks m
      cases k with
      | loc x =>
        simp only [Tree.locs, List.mem_cons] at h ⊢
        rcases h with h | h
        · exact .inl (.inl h)
        · rcases ih h with q | q
          · exact .inl (.inr q)
          · exact .inr q
      | _ => exact ih h
theorem locs_putL {n : Int} {o : Tree} : ∀ (ts : List Tree) (m : Int), m ∈ locsL (putL n o ts) → m ∈ locsL ts ∨ m ∈ o.locs
  | [], _, h => by simp [putL, locsL] at h
  | t :: ts, m, h => by
    simp only [putL, locsL, List.mem_append] at h ⊢
    rcases h with h | h
    · rcases locs_put t m h with q | q
      · exact .inl (.inl q)
      · exact .inr q
    · rcases locs_putL ts m h with q | q
      · exact .inl (.inr q)
      · exact .inr q
end
theorem dueGo_locs {W : Tree} : ∀ {ps : List Int} {ops : List Tree} {x : DS} (m : Int), m ∈ (dueGo W x ps ops).b.locs ∨ m ∈ locsL (dueGo W x ps ops).os → m ∈ x.b.locs ∨ m ∈ locsL x.os ∨ m ∈ locsL ops
  | n :: ns, o :: os, x, m, h => by
    rw [dueGo] at h
    have := dueGo_locs m h
    simp only [locsL, List.mem_append]
    rcases this with q | q | q
    · unfold dueTurn at q
      split at q
      · rcases locs_put _ _ q with q | q
        · exact .inl q
        · exact .inr (.inr (.inl q))
      · exact .inl q
    · unfold dueTurn at q
      split at q
      · exact .inr (.inl q)
      · simp only [locsL_append, locsL, List.append_nil, List.mem_append] at q
        rcases q with q | q
        · exact .inr (.inl q)
        · exact .inr (.inr (.inl q))
    · exact .inr (.inr (.inr q))
  | [], ops, x, m, h => by
    have e : dueGo W x [] ops = x := by cases ops <;> rfl
    rw [e] at h
    rcases h with q | q
    · exact .inl q
    · exact .inr (.inl q)
  | n :: ns, [], x, m, h => by
    rcases h with q | q
    · exact .inl q
    · exact .inr (.inl q)
theorem dueLet_locs {W : Tree} {l r : Int} {ps : List Int} {body : Tree} {ops : List Tree} {m : Int} (h : m ∈ (dueLet W l ps r body ops).locs) : m ∈ body.locs ∨ m ∈ locsL ops := by
  have same : m ∈ (Tree.node .call (.node (.lam l ps r) [body] :: ops)).locs → m ∈ body.locs ∨ m ∈ locsL ops := fun q => by
    simpa only [Tree.locs, locsL, List.append_nil, List.mem_append] using q
  have go := dueGo_locs (W := W) (ps := ps) (ops := ops) (x := ⟨body, [], []⟩) m
  unfold dueLet at h
  split at h
  · exact same h
  · dsimp only at h
    split at h
    · rcases go (.inl h) with q | q | q
      · exact .inl q
      · simp [locsL] at q
      · exact .inr q
    · split at h
      · exact same h
      · simp only [Tree.locs, locsL, List.append_nil, List.mem_append] at h
        rcases go h with q | q | q
        · exact .inl q
        · simp [locsL] at q
        · exact .inr q
theorem dueStep_locs {W : Tree} {k : Nk} {ks : List Tree} {m : Int} (h : m ∈ (dueStep W k ks).locs) : m ∈ (Tree.node k ks).locs := by
  unfold dueStep at h
  split at h
  · simpa only [Tree.locs, locsL, List.append_nil, List.mem_append] using dueLet_locs h
  · exact h
mutual
theorem dueT_locs (W : Tree) : ∀ (t : Tree) (m : Int), m ∈ (dueT W t).locs → m ∈ t.locs
  | .node k ks, m, h => by
    rw [dueT] at h
    have h := dueStep_locs h
    have ih := dueTs_locs W ks m
    cases k with
    | loc x =>
      simp only [Tree.locs, List.mem_cons] at h ⊢
      rcases h with h | h
      · exact .inl h
      · exact .inr (ih h)
    | _ => exact ih h
theorem dueTs_locs (W : Tree) : ∀ (ts : List Tree) (m : Int), m ∈ locsL (dueTs W ts) → m ∈ locsL ts
  | [], _, h => h
  | t :: ts, m, h => by
    simp only [dueTs, locsL, List.mem_append] at h ⊢
    rcases h with h | h
    · exact .inl (dueT_locs W t m h)
    · exact .inr (dueTs_locs W ts m h)
end
/-- what stands in front of a rewritten call -/
theorem call_head {ks : List Tree} (h : letOk .call ks) (hw : wfL ks) : ∃ l ps r body ops, ks = .node (.lam l ps r) [body] :: ops ∧ body.wf ∧ wfL ops ∧ ps.Nodup ∧ ∀ n ∈ ps, n ∉ locsL ops := by
  cases ks with
  | nil => exact h.elim
  | cons x ops =>
    obtain ⟨k, bs⟩ := x
    cases k with
    | lam l ps r =>
      have hl : bs.length = 1 := hw.1.1.1
      cases bs with
      | nil => simp at hl
      | cons body rest =>
        have : rest = [] := List.eq_nil_of_length_eq_zero (by simpa using hl)
        subst this
        exact ⟨l, ps, r, body, ops, rfl, hw.1.2.1, hw.2, h.1, h.2⟩
    | _ => exact h.elim
theorem due_head {W : Tree} {ks : List Tree} (h : letOk .call ks) (hw : wfL ks) : ∃ l ps r body ops, dueTs W ks = .node (.lam l ps r) [body] :: ops ∧ body.wf ∧ wfL ops ∧ ps.Nodup ∧ ∀ n ∈ ps, n ∉ locsL ops := by
  obtain ⟨l, ps, r, body, ops, rfl, h1, h2, h3, h4⟩ := call_head h hw
  refine ⟨l, ps, r, dueT W body, dueTs W ops, rfl, (dueT_ok W body h1).1, (dueTs_ok W ops h2).1, h3, fun n hn q => h4 n hn (dueTs_locs W ops n q)⟩
mutual
theorem copy_due (W : Tree) : ∀ t : Tree, t.wf → t.good → rebT (copyStep W) t = dueT W t
  | .node k ks, hw, hg => by
    have ih := copys_due W ks hw.2 hg.2
    rw [rebT, dueT, ih]
    cases k with
    | call =>
      obtain ⟨l, ps, r, body, ops, e, h1, h2, h3, h4⟩ := due_head (W := W) hg.1 hw.2
      rw [e]
      exact let_eq h1 h2 h3 h4
    | _ => rfl
theorem copys_due (W : Tree) : ∀ ts : List Tree, wfL ts → goodL ts → rebTs (copyStep W) ts = dueTs W ts
  | [], _, _ => rfl
  | t :: ts, hw, hg => by simp only [rebTs, dueTs, copy_due W t hw.1 hg.1, copys_due W ts hw.2 hg.2]
end
section
variable {prog : Program} {w : World} {A : Around} {E : Value → Shared → Prop} {gs : Array GenState} {dr : Drawn} {tk : Tok} {os : OsState}
variable {b : Heap} {e : Ent} {g g' : GH} {L : Addr} {h h' : Heap} {l : List (Str × Value)} {n n1 n2 n' : List (Addr × Obj)} {K : Frag} {env : Env} {sc : Scope} {cl cl' : List (Str × Addr)}
theorem r_tlen {Q : Value → Shared → Prop} {a : Addr} {vs : List Value} (S : St b e g L h l n) (ha : g a = some (tupO vs)) (hz : vs.length ≤ sizeLine) (k : ∀ t tk', Q (.int (vs.length : Nat) t) ⟨h, gs, dr, tk', os⟩) : wpAny (model prog w) A (call (.builtin "len") [.ref a]) Q E ⟨h, gs, dr, tk, os⟩ := by
  have := PyProof.Rows.len_tuple (prog := prog) (w := w) (A := A) (E := E) (s := ⟨h, gs, dr, tk, os⟩) (Q := Q) (t := a) (items := vs.toArray) ⟨_, S.gk _ _ ha, rfl, 0, rfl⟩ (by rw [List.size_toArray]; rw [sizeLine_eq] at hz; lia) (by rw [List.size_toArray]; exact k _ _)
  exact this
theorem r_asgT3 {Q : Unit → Shared → Prop} {x y z : Str} {p1 p2 p3 pos : Pos} {kt : Nat} {v1 v2 v3 : Value} {a : Addr} {d u : Nat} (C : Cx A d u) (N : En env sc cl L) (S : St b e g L h l n) (ha : g a = some (tupO [v1, v2, v3])) (hx : sc.names.lookup x = some .local) (hy : sc.names.lookup y = some .local) (hz : sc.names.lookup z = some .local)
    (k : ∀ h' tk', St b e g L h' ((z, v3) :: (y, v2) :: (x, v1) :: l) n → Q () ⟨h', gs, dr, tk', os⟩) :
    wpAny (model prog w) A (assign (.Tuple [.Name x p1, .Name y p2, .Name z p3] kt pos) env (.ref a)) Q E ⟨h, gs, dr, tk, os⟩ := by
  refine r_untup C S ha rfl (fun h1 S1 => ?_)
  show wpAny _ A (assignInOrder [assign (.Name x p1) env, assign (.Name y p2) env, assign (.Name z p3) env] [v1, v2, v3]) _ _ _
  exact assignInOrder_cons (wpAny_assign_Name (r_store N S1 hx fun h2 t2 S2 => assignInOrder_cons (wpAny_assign_Name (r_store N S2 hy fun h3 t3 S3 => assignInOrder_cons (wpAny_assign_Name (r_store N S3 hz fun h4 t4 S4 => assignInOrder_nil (k _ _ S4)))))))
end
section
variable {prog : Program} {w : World} {A : Around} {E : Value → Shared → Prop} {gs : Array GenState} {dr : Drawn} {tk : Tok} {os : OsState}
variable {b : Heap} {e : Ent} {g g' : GH} {L : Addr} {h h' : Heap} {l : List (Str × Value)} {n n1 n2 n' : List (Addr × Obj)} {K : Frag} {env : Env} {sc : Scope} {cl cl' : List (Str × Addr)}
theorem r_callM {Q : Value → Shared → Prop} {q f : Addr} {x : Value} {pos : Pos} {ex : Expr} {rest : List Expr} (hf : fnIn K f = true)
    (hh : wpAny (model prog w) A (spliced (backTo pos (starEach (ex :: rest) env))) (fun vs s₁ => MethP K q f x s₁.heap ∧ wpAny (model prog w) A (call (.ref q) vs) Q E s₁) E ⟨h, gs, dr, tk, os⟩)
    (he : starEach (ex :: rest) env = (false, eval ex env) :: starEach rest env := by rfl) (hplain : (backTo pos (starEach rest env)).any (·.1) = false := by rfl) :
    wpAny (model prog w) A (callWith pos (.ref q) [] (backTo pos (starEach (ex :: rest) env)) []) Q E ⟨h, gs, dr, tk, os⟩ := by
  rw [he] at hh ⊢
  exact callWith_of (by show ((false || (backTo pos (starEach rest env)).any (·.1)) || false) = false; rw [hplain]; rfl) (keeps_M hf) (evalArgs_plain hh)
theorem r_isnot {Q : Value → Shared → Prop} {x y : Addr} {ox oy : Obj} (hx : h.get? x = some ox) (hy : h.get? y = some oy) (hnt : ox.cls ≠ .type "tuple") (k : Q (.bool (!decide (x = y))) ⟨h, gs, dr, tk, os⟩) :
    wpAny (model prog w) A (compareOp .IsNot (.ref x) (.ref y)) Q E ⟨h, gs, dr, tk, os⟩ := by
  by_cases q : x = y
  · subst q
    simp only [decide_true, Bool.not_true] at k
    exact wpAny_isNot_ref_self k
  · rw [decide_eq_false q] at k
    exact wpAny_isNot_ref_other (s := ⟨h, gs, dr, tk, os⟩) q hx hy hnt k
end
/-- a value that is an object of an own class, never to change -/
noncomputable def IsInst (g : GH) (v : Value) : Prop := ∃ x C dx, v = .ref x ∧ g x = some (instObj C dx)
theorem GInst.isInst {g : GH} {x C : Addr} {es : List DictEntry} {k : Nat} (I : GInst g x C es k) : IsInst g (.ref x) := let ⟨dx, a, _⟩ := I; ⟨x, C, dx, rfl, a⟩
theorem Shape.isInst {P : Params} {g : GH} {v : Value} {k : Nk} {vs : List Value} (h : Shape P g v k vs) : IsInst g v := by
  cases h <;> exact GInst.isInst (by assumption)
theorem NodeAt.isInst {P : Params} {g : GH} {v t} (h : NodeAt P g v t) : IsInst g v := by cases h with | mk s _ => exact s.isInst
theorem NodesAt.isInst {P : Params} {g : GH} {vs ts} (h : NodesAt P g vs ts) : ∀ v ∈ vs, IsInst g v :=
  NodesAt.ind (C := fun vs _ => ∀ v ∈ vs, IsInst g v) (fun _ q => nomatch q) (fun a b v q => by
    rcases List.mem_cons.mp q with rfl | q
    · exact a.isInst
    · exact b v q) h
/-! the rebuilding machine: what waits (the top first), what is done -/
noncomputable abbrev Stk := List (Tree × Bool)
mutual
noncomputable def allSub (f : Nk → List Tree → Tree) (Pc : Nk → List Tree → Prop) : Tree → Prop
  | .node k ks => Pc k (rebTs f ks) ∧ allSubs f Pc ks
noncomputable def allSubs (f : Nk → List Tree → Tree) (Pc : Nk → List Tree → Prop) : List Tree → Prop
  | [] => True
  | t :: ts => allSub f Pc t ∧ allSubs f Pc ts
end
noncomputable def finR (f : Nk → List Tree → Tree) : Stk → List Tree → List Tree
  | [], d => d
  | (t, false) :: r, d => finR f r (d ++ [rebT f t])
  | (.node k ks, true) :: r, d => finR f r (d.take (d.length - ks.length) ++ [f k (d.drop (d.length - ks.length))])
noncomputable def okR (f : Nk → List Tree → Tree) (Pc : Nk → List Tree → Prop) : Stk → List Tree → Prop
  | [], _ => True
  | (t, false) :: r, d => allSub f Pc t ∧ okR f Pc r (d ++ [rebT f t])
  | (.node k ks, true) :: r, d => ks.length ≤ d.length ∧ ks ≠ [] ∧ Pc k (d.drop (d.length - ks.length)) ∧ okR f Pc r (d.take (d.length - ks.length) ++ [f k (d.drop (d.length - ks.length))])
noncomputable def wR : Stk → Nat
  | [] => 0
  | (t, false) :: r => t.size + wR r
  | (_, true) :: r => 1 + wR r
noncomputable def mR : Stk → Nat
  | [] => 0
  | (t, false) :: r => 2 * t.size + mR r
  | (_, true) :: r => 1 + mR r
noncomputable def kidsR (ks : List Tree) : Stk := ks.map fun t => (t, false)
section
variable {f : Nk → List Tree → Tree} {Pc : Nk → List Tree → Prop}
theorem finR_push : ∀ (ks : List Tree) (S : Stk) (d : List Tree), finR f (kidsR ks ++ S) d = finR f S (d ++ rebTs f ks)
  | [], S, d => by simp [kidsR, rebTs]
  | t :: ks, S, d => by
    show finR f ((t, false) :: (kidsR ks ++ S)) d = _
    rw [finR, finR_push ks S, rebTs]
    simp
theorem okR_push : ∀ (ks : List Tree) (S : Stk) (d : List Tree), allSubs f Pc ks → okR f Pc S (d ++ rebTs f ks) → okR f Pc (kidsR ks ++ S) d
  | [], S, d, _, h => by simpa [kidsR, rebTs] using h
  | t :: ks, S, d, hs, h => by
    show okR f Pc ((t, false) :: (kidsR ks ++ S)) d
    rw [okR]
    refine ⟨hs.1, okR_push ks S _ hs.2 ?_⟩
    simpa [rebTs] using h
theorem wR_push : ∀ (ks : List Tree) (S : Stk), wR (kidsR ks ++ S) = sizes ks + wR S
  | [], S => by simp [kidsR, sizes]
  | t :: ks, S => by
    show wR ((t, false) :: (kidsR ks ++ S)) = _
    rw [wR, wR_push ks S, sizes]; lia
theorem mR_push : ∀ (ks : List Tree) (S : Stk), mR (kidsR ks ++ S) = 2 * sizes ks + mR S
  | [], S => by simp [kidsR, sizes]
  | t :: ks, S => by
    show mR ((t, false) :: (kidsR ks ++ S)) = _
    rw [mR, mR_push ks S, sizes]; lia
theorem Tree.size_pos : ∀ t : Tree, 1 ≤ t.size
  | .node _ ks => by simp only [Tree.size]; lia
theorem wR_len : ∀ S : Stk, S.length ≤ wR S
  | [] => Nat.le_refl _
  | (t, false) :: r => by have := wR_len r; have := t.size_pos; simp only [List.length_cons, wR]; lia
  | (_, true) :: r => by have := wR_len r; simp only [List.length_cons, wR]; lia
theorem step_push {k : Nk} {ks : List Tree} {r : Stk} {d : List Tree} (h : okR f Pc ((.node k ks, false) :: r) d) (hne : ks ≠ []) :
    okR f Pc (kidsR ks ++ (.node k ks, true) :: r) d ∧ finR f (kidsR ks ++ (.node k ks, true) :: r) d = finR f ((.node k ks, false) :: r) d := by
  rw [okR, allSub] at h
  have e1 : (d ++ rebTs f ks).length - ks.length = d.length := by rw [List.length_append, rebTs_length]; lia
  constructor
  · refine okR_push _ _ _ h.1.2 ?_
    rw [okR, e1, List.drop_left, List.take_left]
    refine ⟨by rw [List.length_append, rebTs_length]; lia, hne, h.1.1, ?_⟩
    have := h.2
    rwa [rebT] at this
  · rw [finR_push, finR, finR, e1, List.drop_left, List.take_left, rebT]
theorem step_leaf {k : Nk} {r : Stk} {d : List Tree} (h : okR f Pc ((.node k [], false) :: r) d) : Pc k [] ∧ okR f Pc r (d ++ [f k []]) ∧ finR f r (d ++ [f k []]) = finR f ((.node k [], false) :: r) d := by
  rw [okR, allSub] at h
  exact ⟨h.1.1, h.2, rfl⟩
end
theorem step_done {f : Nk → List Tree → Tree} {Pc : Nk → List Tree → Prop} {k : Nk} {ks : List Tree} {c : Bool} {r : Stk} {d : List Tree} (h : okR f Pc ((.node k ks, c) :: r) d) (hc : (!c && !ks.isEmpty) = false) :
    ks.length ≤ d.length ∧ Pc k (d.drop (d.length - ks.length)) ∧ okR f Pc r (d.take (d.length - ks.length) ++ [f k (d.drop (d.length - ks.length))]) ∧ finR f r (d.take (d.length - ks.length) ++ [f k (d.drop (d.length - ks.length))]) = finR f ((.node k ks, c) :: r) d ∧
    (d.take (d.length - ks.length) ++ [f k (d.drop (d.length - ks.length))]).length + wR r ≤ d.length + wR ((.node k ks, c) :: r) ∧ mR r < mR ((.node k ks, c) :: r) := by
  cases c with
  | false =>
    cases ks with
    | nil =>
      have := step_leaf h
      refine ⟨Nat.zero_le _, by simpa using this.1, by simpa using this.2.1, by simpa using this.2.2, ?_, ?_⟩
      · simp only [wR, Tree.size, sizes]; simp; lia
      · simp only [mR, Tree.size]; lia
    | cons x xs => simp at hc
  | true =>
    obtain ⟨h1, h2, h3, h4⟩ := h
    have : 0 < ks.length := List.length_pos_iff.mpr h2
    refine ⟨h1, h3, h4, rfl, ?_, ?_⟩
    · simp only [wR, List.length_append, List.length_take, List.length_singleton]; lia
    · simp only [mR]; lia
/-- the waiting pairs on the heap -/
inductive StkAt (P : Params) (g : GH) : List Value → Stk → Prop
  | nil : StkAt P g [] []
  | cons {a v t c vs S} : g a = some (tupO [v, .bool c]) → NodeAt P g v t → StkAt P g vs S → StkAt P g (.ref a :: vs) ((t, c) :: S)
theorem StkAt.mono {P : Params} {g g' : GH} (hg : ∀ a o, g a = some o → g' a = some o) : ∀ {vs S}, StkAt P g vs S → StkAt P g' vs S
  | _, _, .nil => .nil
  | _, _, .cons h x r => .cons (hg _ _ h) (x.mono hg) (StkAt.mono hg r)
theorem StkAt.length {P : Params} {g : GH} : ∀ {vs S}, StkAt P g vs S → vs.length = S.length
  | _, _, .nil => rfl
  | _, _, .cons _ _ r => by rw [List.length_cons, List.length_cons, StkAt.length r]
section
variable {prog : Program} {w : World} {A : Around} {E : Value → Shared → Prop} {gs : Array GenState} {dr : Drawn} {tk : Tok} {os : OsState}
variable {b : Heap} {e : Ent} {g g' : GH} {L : Addr} {h h' : Heap} {l : List (Str × Value)} {n n1 n2 n' : List (Addr × Obj)} {K : Frag} {env : Env} {sc : Scope} {cl cl' : List (Str × Addr)}
theorem r_asgT2 {Q : Unit → Shared → Prop} {x y : Str} {p1 p2 pos : Pos} {kt : Nat} {v1 v2 : Value} {a : Addr} {d u : Nat} (C : Cx A d u) (N : En env sc cl L) (S : St b e g L h l n) (ha : g a = some (tupO [v1, v2])) (hx : sc.names.lookup x = some .local) (hy : sc.names.lookup y = some .local)
    (k : ∀ h' tk', St b e g L h' ((y, v2) :: (x, v1) :: l) n → Q () ⟨h', gs, dr, tk', os⟩) :
    wpAny (model prog w) A (assign (.Tuple [.Name x p1, .Name y p2] kt pos) env (.ref a)) Q E ⟨h, gs, dr, tk, os⟩ := by
  refine r_untup C S ha rfl (fun h1 S1 => ?_)
  show wpAny _ A (assignInOrder [assign (.Name x p1) env, assign (.Name y p2) env] [v1, v2]) _ _ _
  exact assignInOrder_cons (wpAny_assign_Name (r_store N S1 hx fun h2 t2 S2 => assignInOrder_cons (wpAny_assign_Name (r_store N S2 hy fun h3 t3 S3 => assignInOrder_nil (k _ _ S3)))))
end
section
variable {prog : Program} {w : World} {A : Around} {E : Value → Shared → Prop} {gs : Array GenState} {dr : Drawn} {tk : Tok} {os : OsState}
variable {b : Heap} {e : Ent} {g g' : GH} {L : Addr} {h h' : Heap} {l : List (Str × Value)} {n n1 n2 n' : List (Addr × Obj)} {K : Frag} {env : Env} {sc : Scope} {cl cl' : List (Str × Addr)}
theorem r_dmeth {Q : Value × List Value → Shared → Prop} {name : Str} {id : String} {pl : Sem Bool} {d : Addr} {o : Obj} {kvs : List (Int × Value)} (hd : h.get? d = some o) (hm : IsM prog w o kvs) (slot : Slot "dict" name id) (hty : typeOf (.builtin id) = pure (.type "method_descriptor"))
    (k : Q (.builtin id, [.ref d]) ⟨h, gs, dr, tk, os⟩) : wpAny (model prog w) A (getMethod (.ref d) name pl) Q E ⟨h, gs, dr, tk, os⟩ :=
  getMethod_builtin (s := ⟨h, gs, dr, tk, os⟩) (dictAt hd hm).typeIs PySem.F.plainAttrs_dict slot hty (dictAt hd hm).mapOf.noDict k
theorem r_inTs {Q : Value → Shared → Prop} {a : Addr} {vs : List Value} {ys : List Str} {x : Str} {t : Tok} (ha : h.get? a = some (tupO vs)) (hi : StrsAre vs ys) (kk : Q (.bool (ys.any (· == x))) ⟨h, gs, dr, tk, os⟩) :
    wpAny (model prog w) A (compareOp .In (.str x t) (.ref a)) Q E ⟨h, gs, dr, tk, os⟩ := PyProof.Rows.in_tuple_strs (s := ⟨h, gs, dr, tk, os⟩) ⟨_, ha, rfl, 0, rfl⟩ hi kk
end
/-- a dict that counts -/
noncomputable def Counts (kv : List (Int × Value)) (c : Int → Int) : Prop := ∀ n, (valueAt kv n = none ∧ c n = 0) ∨ ∃ t, valueAt kv n = some (.int (c n) t)
theorem Counts.getD {kv : List (Int × Value)} {c : Int → Int} (h : Counts kv c) (n : Int) (t0 : Tok) : ∃ t, (valueAt kv n).getD (.int 0 t0) = .int (c n) t := by
  rcases h n with ⟨h1, h2⟩ | ⟨t, h1⟩
  · exact ⟨t0, by rw [h1, h2]; rfl⟩
  · exact ⟨t, by rw [h1]; rfl⟩
/-- the facts of a tree, never to change again -/
inductive FactsAt (prog : Program) (w : World) (g : GH) (x : Addr) (W0 : Tree) : Prop
  | mk (d1 d2 : Addr) (o1 o2 : Obj) (kv1 kv2 : List (Int × Value)) (t1 t2 t3 t4 t5 t6 t7 t8 t9 t10 : Tok) (v3 v4 v5 v6 v7 v8 v9 v10 : Value)
    (I : GInst g x 620 [ent w.params "read" t1 (.ref d1), ent w.params "set" t2 (.ref d2), ent w.params "called" t3 v3, ent w.params "bound" t4 v4, ent w.params "caught" t5 v5, ent w.params "parent" t6 v6, ent w.params "lets" t7 v7, ent w.params "inner" t8 v8, ent w.params "read_globals" t9 v9, ent w.params "set_globals" t10 v10] 10)
    (h1 : g d1 = some o1) (h2 : g d2 = some o2) (m1 : IsM prog w o1 kv1) (m2 : IsM prog w o2 kv2) (s1 : (d1 == sysModules) = false) (s2 : (d2 == sysModules) = false) (c1 : Counts kv1 (fun n => cnt 1 n W0)) (c2 : Counts kv2 (fun n => cnt 3 n W0)) : FactsAt prog w g x W0
theorem FactsAt.mono {prog : Program} {w : World} {g g' : GH} {x : Addr} {W0 : Tree} (hg : ∀ a o, g a = some o → g' a = some o) (F : FactsAt prog w g x W0) : FactsAt prog w g' x W0 := by
  cases F with | mk d1 d2 o1 o2 kv1 kv2 t1 t2 t3 t4 t5 t6 t7 t8 t9 t10 v3 v4 v5 v6 v7 v8 v9 v10 I h1 h2 m1 m2 s1 s2 c1 c2 =>
  exact .mk _ _ _ _ _ _ _ _ _ _ _ _ _ _ _ _ _ _ _ _ _ _ _ _ (I.mono hg) (hg _ _ h1) (hg _ _ h2) m1 m2 s1 s2 c1 c2
section
variable {b : Heap} {e : Ent} {g g' : GH} {L : Addr} {h h' : Heap} {l : List (Str × Value)} {n n1 n2 n' m : List (Addr × Obj)}
/-- behind a call that was handed objects and that gives new ones -/
theorem St.backnew (S : St b e g L h l (n1 ++ n2)) (F : Fin ⟨h, g, n1.map (·.1)⟩ g' h' (n' ++ m)) (hk : n'.map (·.1) = n1.map (·.1)) (hm : ∀ p ∈ m, h.get? p.1 = none ∧ g' p.1 = none) (nd : (m.map (·.1)).Nodup) : St b e g' L h' l (n' ++ m ++ n2) := by
  have T : St b e g' L h' l (n' ++ n2) := St.back S { F with own := fun p hp => F.own p (List.mem_append_left _ hp) } hk
  have live : ∀ p ∈ n' ++ n2, ∃ o, h.get? p.1 = some o := fun p hp => by
    rcases List.mem_append.mp hp with hp | hp
    · have : p.1 ∈ n1.map (·.1) := hk ▸ List.mem_map_of_mem hp
      obtain ⟨q, hq, e1⟩ := List.mem_map.mp this
      exact ⟨q.2, by rw [← e1]; exact (S.own q (List.mem_append_left _ hq)).1⟩
    · exact ⟨p.2, (S.own p (List.mem_append_right _ hp)).1⟩
  obtain ⟨mm, ⟨oL, _, _, hL, _⟩, _⟩ := S.ns
  have own : ∀ p ∈ m, h'.get? p.1 = some p.2 ∧ g' p.1 = none ∧ p.1 ≠ L ∧ (p.1 ∈ e.w ∨ e.h.get? p.1 = none) := fun p hp => by
    have q := hm p hp
    refine ⟨F.own p (List.mem_append_right _ hp), q.2, fun z => ?_, .inr (S.none_e q.1)⟩
    have q1 := q.1
    rw [z, hL] at q1; cases q1
  refine { T with own := fun p hp => ?_, nd := ?_ }
  · rcases List.mem_append.mp hp with hp | hp
    · rcases List.mem_append.mp hp with hp | hp
      · exact T.own p (List.mem_append_left _ hp)
      · exact own p hp
    · exact T.own p (List.mem_append_right _ hp)
  · have t := T.nd
    rw [List.map_append, List.nodup_append] at t
    rw [List.map_append, List.map_append, List.nodup_append, List.nodup_append]
    have far : ∀ x ∈ n' ++ n2, ∀ y ∈ m, x.1 ≠ y.1 := fun x hx y hy z => by
      obtain ⟨o, ho⟩ := live x hx
      rw [z, (hm y hy).1] at ho; cases ho
    refine ⟨⟨t.1, nd, fun a ha c hc => ?_⟩, t.2.1, fun a ha c hc => ?_⟩
    · obtain ⟨x, hx, rfl⟩ := List.mem_map.mp ha
      obtain ⟨y, hy, rfl⟩ := List.mem_map.mp hc
      exact far x (List.mem_append_left _ hx) y hy
    · obtain ⟨y, hy, rfl⟩ := List.mem_map.mp hc
      rcases List.mem_append.mp ha with ha | ha
      · exact t.2.2 a ha y.1 (List.mem_map_of_mem hy)
      · obtain ⟨x, hx, rfl⟩ := List.mem_map.mp ha
        exact fun z => far y (List.mem_append_right _ hy) x hx z.symm
/-- behind a call of a class that makes more than the one object -/
theorem Fin.fixedM {h1 : Heap} (F : Fin ⟨h1, g, n1.map (·.1)⟩ g' h' (n2 ++ m)) (hk : n2.map (·.1) = n1.map (·.1)) (P : Pre b g h1 n1) (h0 : ∀ p ∈ n1, h.get? p.1 = none) (hs : ∀ a o, h.get? a = some o → h1.get? a = some o) (hm : ∀ p ∈ m, h1.get? p.1 = none ∧ g' p.1 = none) :
    Fin ⟨h, g, []⟩ (ext g' n2) h' m ∧ (∀ a o, g a = some o → ext g' n2 a = some o) ∧ (∀ p ∈ n2, ext g' n2 p.1 = some p.2) ∧ ∀ p ∈ m, h.get? p.1 = none ∧ ext g' n2 p.1 = none := by
  obtain ⟨F1, q2, q3⟩ := Fin.fixed (h := h) (n2 := n2) { F with own := fun p hp => F.own p (List.mem_append_left _ hp) } hk P h0 hs
  refine ⟨{ F1 with own := fun p hp => F.own p (List.mem_append_right _ hp) }, q2, q3, fun p hp => ⟨?_, ?_⟩⟩
  · cases q : h.get? p.1 with
    | none => rfl
    | some o => have := hs _ _ q; rw [(hm p hp).1] at this; cases this
  · cases q : ext g' n2 p.1 with
    | none => rfl
    | some o =>
      rcases ext_some q with q | q
      · have : p.1 ∈ n1.map (·.1) := hk ▸ List.mem_map.mpr ⟨_, q, rfl⟩
        obtain ⟨z, hz, e1⟩ := List.mem_map.mp this
        have w := (P.own z hz).1
        rw [e1, (hm p hp).1] at w; cases w
      · rw [(hm p hp).2] at q; cases q
end
section
variable {b : Heap} {e : Ent} {g g' : GH} {L : Addr} {h h' : Heap} {l : List (Str × Value)} {n p n1 n2 n' m : List (Addr × Obj)}
theorem St.pret (S : St b e g L h l (p ++ n1)) : Pre b g h n1 := S.pre n1 (fun x hx => List.mem_append_right _ hx) (by have := S.nd; rw [List.map_append, List.nodup_append] at this; exact this.2.1)
theorem St.backt (S : St b e g L h l (p ++ n1)) (F : Fin ⟨h, g, n1.map (·.1)⟩ g' h' n') (hk : n'.map (·.1) = n1.map (·.1)) : St b e g' L h' l (p ++ n') :=
  (St.back (n1 := n1) (n2 := p) (S.perm List.perm_append_comm) F hk).perm List.perm_append_comm
end
mutual
theorem told_lay : ∀ t : Tree, (told t).canLay0 = true ∧ (told t).depth ≤ 4 + 2 * t.ht
  | .node k ks => by
    have h1 := own_lay k
    have h2 := tolds_lay ks
    constructor
    · simp only [told, PyData.canLay0, PyData.canLayAll0, Bool.and_true] at h1 ⊢
      simp [h1.1, h2.1]
    · simp only [told, Tree.ht, PyData.depth, PyData.depthAll] at h1 ⊢
      lia
theorem tolds_lay : ∀ ts : List Tree, PyData.canLayAll0 (tolds ts) = true ∧ PyData.depthAll (tolds ts) ≤ 4 + 2 * hts ts
  | [] => by simp [tolds, PyData.canLayAll0, PyData.depthAll]
  | t :: ts => by
    have h1 := told_lay t
    have h2 := tolds_lay ts
    constructor
    · simp [tolds, PyData.canLayAll0, h1.1, h2.1]
    · simp only [tolds, PyData.depthAll, hts]; lia
end
theorem eqvAll_ints : ∀ is : List Int, PyData.eqvAll (is.map .int) (is.map .int) = true
  | [] => by simp [PyData.eqvAll]
  | i :: is => by simp [PyData.eqvAll, PyData.eqv, eqvAll_ints is]
theorem own_eqv (k : Nk) : PyData.eqvAll k.own k.own = true := by
  cases k <;> simp [Nk.own, PyData.eqvAll, PyData.eqv, eqvAll_ints]
mutual
theorem told_eqv : ∀ t : Tree, PyData.eqv (told t) (told t) = true
  | .node k ks => by
    have h1 := own_eqv k
    have h2 := tolds_eqv ks
    simp [told, PyData.eqv, PyData.eqvAll, h1, h2]
theorem tolds_eqv : ∀ ts : List Tree, PyData.eqvAll (tolds ts) (tolds ts) = true
  | [] => by simp [tolds, PyData.eqvAll]
  | t :: ts => by simp [tolds, PyData.eqvAll, told_eqv t, tolds_eqv ts]
end
/-- what a built tree keeps to -/
structure OkT (T : Tree) : Prop where
  good : T.good
  inSc : T.inSc []
  fits : ∃ B P, T.fits B P (-1)
  size : T.size ≤ 900
  ht : T.ht ≤ 20
theorem OkT.made {m q m' q' : Int} {T : Tree} (h : Made [] m q m' q' 3 T) : OkT T := by
  refine ⟨h.good, h.inSc, ?_, ?_, ?_⟩
  · obtain ⟨B, P, _, _, f⟩ := h.fits (-1) (fun _ => 0) (fun _ => 0)
    exact ⟨B, P, f B P (fun _ _ => rfl) fun _ _ => rfl⟩
  · have := h.size
    simp only [szB] at this; lia
  · have := h.ht; lia
noncomputable def handT : Tree := .node .call [.node (.lam 90 [91] (-1)) [.node .seq [.node (.set 91) [.node (.const (.num 2)) []], .node (.loc 91) []]], .node (.const (.num 1)) []]
theorem OkT.hand : OkT handT := by
  refine ⟨?_, ?_, ⟨fun _ => 90, fun _ => -1, ?_⟩, by simp [handT, Tree.size, sizes], by simp [handT, Tree.ht, hts]⟩
  · simp [handT, Tree.good, goodL, letOk, locsL, Tree.locs]
  · simp [handT, Tree.inSc, inScL, binders]
  · simp [handT, Tree.fits, fitsL, binders]
section
local macro_rules | `(tactic| o_head $_H) => `(tactic| assumption)
theorem hd0 (h : PySem.Challenge.rw_on0298_01.row.Holds) : PySem.Challenge.rw_on0298_01.row.Holds := by k_head
end
noncomputable def kept : List Nat := [0, 2, 3, 4, 5, 6, 7, 8, 9, 10, 11, 12, 13, 14, 15, 16, 17, 18, 19, 20, 21, 22, 23, 24, 25, 26, 28, 29, 30, 31, 32, 33, 34, 35, 36, 37, 38, 39, 40, 41, 43, 44, 46, 47, 48, 49, 50, 52, 54, 55, 56, 57, 58, 60, 61, 62, 63, 64, 65, 66, 67, 68, 69, 70, 71]
noncomputable def view : Program := { PySem.Challenge.rw_on0298_01.row.toRowW.1 with main := { PySem.Challenge.rw_on0298_01.row.toRowW.1.main with body := kept.filterMap fun i => PySem.Challenge.pw_on0298_01.main.body[i]? } }
noncomputable def lawDef : DefRec := match defOf view "law" with | some (d, _) => d | none => ⟨"", ⟨[], [], none, [], [], none, []⟩, [], ⟨.function, [], false, false, []⟩, ⟨0, 0, 0, 0⟩⟩
noncomputable def keys : List Addr := [2, 3, 15, 17, 18, 20, 21, 29, 31, 32, 34, 35, 36, 38, 39, 41, 42, 43, 44, 45, 46, 47, 50, 57, 59, 60, 62, 63, 64, 65, 66, 69, 76, 78, 79, 81, 82, 83, 84, 85, 88, 95, 97, 98, 100, 101, 102, 104, 105, 107, 108, 109, 111, 112, 114, 115, 116, 117, 118, 121, 128, 130, 131, 133, 134, 135, 137, 138, 140, 141, 142, 144, 145, 147, 148, 149, 150, 151, 154, 161, 163, 164, 166, 167, 168, 170, 171, 173, 174, 175, 177, 178, 180, 181, 182, 184, 185, 187, 188, 189, 191, 192, 194, 195, 196, 197, 198, 201, 208, 210, 211, 213, 214, 215, 217, 218, 220, 221, 222, 224, 225, 227, 228, 229, 230, 231, 234, 241, 243, 244, 246, 247, 248, 250, 251, 253, 254, 255, 257, 258, 260, 261, 262, 263, 264, 267, 274, 276, 277, 279, 280, 281, 283, 284, 286, 287, 288, 290, 291, 293, 294, 295, 296, 297, 300, 302, 303, 305, 306, 307, 309, 310, 312, 313, 314, 316, 317, 319, 320, 321, 323, 324, 326, 327, 335, 337, 338, 340, 341, 342, 343, 344, 345, 346, 349, 350, 352, 353, 355, 356, 365, 367, 368, 370, 371, 372, 373, 374, 375, 376, 386, 388, 389, 391, 392, 393, 394, 395, 396, 397, 407, 409, 410, 412, 413, 414, 415, 416, 417, 418, 428, 430, 431, 433, 434, 435, 436, 437, 438, 439, 449, 451, 452, 454, 455, 456, 457, 458, 459, 460, 470, 472, 473, 475, 476, 477, 478, 479, 480, 481, 491, 493, 494, 496, 497, 498, 499, 500, 501, 502, 512, 514, 515, 517, 518, 519, 520, 521, 522, 523, 533, 535, 536, 538, 539, 540, 541, 542, 543, 544, 547, 549, 550, 552, 553, 554, 555, 557, 558, 560, 561, 569, 571, 572, 574, 575, 576, 578, 579, 581, 582, 583, 585, 586, 588, 589, 590, 592, 593, 595, 596, 597, 599, 600, 602, 603, 604, 606, 607, 609, 610, 611, 613, 614, 616, 617, 618, 619, 620, 621, 622, 625, 627, 628, 630, 631, 632, 634, 635, 637, 638, 639, 641, 642, 644, 645, 646, 648, 649, 651, 652, 660, 662, 663, 665, 666, 667, 669, 670, 672, 673, 674, 675, 676, 677, 678, 681, 683, 684, 686, 687, 695, 697, 698, 700, 701, 702, 704, 705, 707, 708, 709, 711, 712, 714, 715, 716, 717, 718, 719, 720, 723, 725, 726, 728, 729, 730, 732, 733, 735, 736, 737, 740, 741, 742, 744, 745, 747, 748, 749, 751, 752, 754, 755, 756, 759, 760, 761, 764, 765, 766, 769, 770, 771, 774, 775, 776, 779, 780, 781, 784, 785, 786, 789, 790, 791, 793, 794, 796, 797]
theorem keys_ok : ∀ P, keys = (hd0.heap_1 P).map (·.1) := fun _ => by kernel_rfl
noncomputable def Walk : Prop := WalkO view [Str.ofString "Node", Str.ofString "Const", Str.ofString "Local", Str.ofString "SetLocal", Str.ofString "If", Str.ofString "Lambda", Str.ofString "Call", Str.ofString "Seq", Str.ofString "Prim", Str.ofString "EMPTY", Str.ofString "UNSPECIFIED", Str.ofString "UNASSIGNED"] (XL view []) (kHook hd0.heap_1 keys keys_ok).says PySem.Challenge.rw_on0298_01.row.toRowW lawDef [] fun f vs => PySem.call f vs
section
variable {prog : Program} {w : World} {A : Around} {E : Value → Shared → Prop} {gs : Array GenState} {dr : Drawn} {tk : Tok} {os : OsState}
variable {b : Heap} {g : GH} {h : Heap} {n : List (Addr × Obj)}
noncomputable def Deck (vs : List Value) (is : List Int) : Prop := Ints vs is ∧ (∀ i ∈ is, 0 ≤ i) ∧ is.length ≤ 100
set_option maxHeartbeats 1000000 in
theorem draw_spec {Q : Value → Shared → Prop} {d : Addr} {vs : List Value} {is : List Int} {kk : Nat} {m : Int} {tm : Tok} (W : Wo (Mine.hd0.heap_1 w.params) b) (C : Cx A 1 4) (P : Pre b g h [(d, listO vs kk)]) (hd : Deck vs is) (hm : 0 < m) (hm2 : m < 1000)
    (k : ∀ r u vs' is' kk' g' h' tk', 0 ≤ r → r < m → Deck vs' is' → Fin ⟨h, g, [d]⟩ g' h' [(d, listO vs' kk')] → Q (.int r u) ⟨h', gs, dr, tk', os⟩) :
    wpAny (model prog w) A (call (.ref 736) [.ref d, .int m tm]) Q E ⟨h, gs, dr, tk, os⟩ := by
  refine r_call (d := 0) (u := 1) (binds := [("_law_deck", .ref d), ("_law_many", .int m tm)]) (l := [("_law_deck", .ref d), ("_law_many", .int m tm)]) W C P (by k_is) (by k_is) rfl (by rfl) (.cons rfl (.cons rfl .nil)) ?_
  intro A' env L h' tk' C' N S E'
  walk1
  refine r_while (σ := List Value × List Int × Nat) (x0 := (vs, is, kk)) (k0 := is.length) (fun k x _ => k = x.2.1.length ∧ Deck x.1 x.2.1) (fun _ => [("_law_deck", .ref d), ("_law_many", .int m tm)]) (fun x => [(d, listO x.1 x.2.2)]) S ⟨rfl, hd⟩ ?_
  clear S hd
  rintro k' ⟨vs, is, kk⟩ g1 h1 tk1 E' R_ hR_ ⟨rfl, hd⟩ S
  dsimp only at hd S ⊢
  (walk_at "un"; iterate 7 (walk1; walk_at "un"))
  (rename St _ _ _ _ _ _ _ => S)
  refine r_ne_nil C' (S.isList (.tail _ (.head _))) hd.1 (S.isList (.head _)) (by decide) ?_
  replace S := S.pick [(d, listO vs kk)] (fun _ q => .tail _ q) (by simp)
  (walk_at "un"; iterate 1 (walk1; walk_at "un"))
  cases is with
  | nil =>
    (refine ite_neg (by first | decide | assumption | simp) ?_)
    (refine ite_neg (by first | decide | assumption | simp) ?_)
    (walk_at "un"; iterate 8 (walk1; walk_at "un"))
    (rename St _ _ _ _ _ _ _ => S)
    refine r_eq_nil C' (S.isList (.tail _ (.head _))) hd.1 (S.isList (.head _)) (by decide) ?_
    (walk_at "un"; iterate 1 (walk1; walk_at "un"))
    (refine ite_pos (by first | rfl | decide | assumption | simp) ?_)
    (walk_at "un"; iterate 3 (walk1; walk_at "un"))
    (walk_at "un"); exact k _ _ vs [] kk _ _ _ (Int.le_refl _) hm hd (S.fin _ fun p q => .tail _ q)
  | cons x is =>
    obtain ⟨hi, hn, hl⟩ := hd
    cases vs with
    | nil => exact hi.elim
    | cons v vs =>
      obtain ⟨⟨t, rfl⟩, hi'⟩ := hi
      have h0x := hn x (.head _)
      (refine ite_pos (by first | rfl | decide | assumption | simp) ?_)
      (walk_at "un"; iterate 5 (walk1; walk_at "un"))
      refine r_item (S.isList (.head _)) (by decide) (by decide) (v := .int x t) rfl ?_
      (walk_at "un"; iterate 3 (walk1; walk_at "un"))
      by_cases hx : x = 0
      · subst hx
        (refine ite_pos (by first | rfl | decide | assumption | simp) ?_)
        (walk_at "un"; iterate 1 (walk1; walk_at "un"))
        (refine ite_pos (by first | rfl | decide | assumption | simp) ?_)
        (walk_at "un"; iterate 9 (walk1; walk_at "un"))
        (rename St _ _ _ _ _ _ _ => S)
        refine r_pop0 (vs := vs) S .head (by have := Ints.length hi'; simp only [List.length_cons] at hl; rw [sizeLine_eq]; lia) ?_
        clear S; intro h2 S
        try dsimp only
        (walk_at "un"; iterate 1 (walk1; walk_at "un"))
        (walk_at "un"); exact ⟨is.length, (vs, is, kk + 1), g1, h2, _, Nat.lt_succ_self _, ⟨rfl, hi', fun i hi => hn i (.tail _ hi), by simp only [List.length_cons] at hl ⊢; lia⟩, S, rfl⟩
      · refine ite_neg (by simpa using hx) ?_
        (refine ite_neg (by first | decide | assumption | simp) ?_)
        (walk_at "un"; iterate 8 (walk1; walk_at "un"))
        (rename St _ _ _ _ _ _ _ => S)
        refine r_eq_nil (is := x :: is) C' (S.isList (vs := .int x t :: vs) (.tail _ (.head _))) ⟨⟨t, rfl⟩, hi'⟩ (S.isList (.head _)) (by decide) ?_
        (walk_at "un"; iterate 1 (walk1; walk_at "un"))
        (refine ite_neg (by first | decide | assumption | simp) ?_)
        (walk_at "un"; iterate 7 (walk1; walk_at "un"))
        refine r_item (vs := .int x t :: vs) (S.isList (.tail _ (.head _))) (by decide) (by decide) (v := .int x t) rfl ?_
        (walk_at "un"; iterate 1 (walk1; walk_at "un"))
        refine r_mod (by first | decide | lia) ?_
        intro t2 tk2
        (walk_at "un"; iterate 7 (walk1; walk_at "un"))
        (rename St _ _ _ _ _ _ _ => S)
        refine r_item (vs := .int x t :: vs) (S.isList (.tail _ (.head _))) (by decide) (by decide) (v := .int x t) rfl ?_
        (walk_at "un"; iterate 1 (walk1; walk_at "un"))
        refine PyProof.Rows.floordiv_int (by first | decide | lia) ?_ (Or.inl (PyProof.noPylong_small (by first | decide | lia)))
        (walk_at "un"; iterate 2 (walk1; walk_at "un"))
        (rename St _ _ _ _ _ _ _ => S)
        refine r_setitem (vs := .int x t :: vs) S (.tail .head) (by decide) (by simp) (by decide) ?_
        clear S; intro h2 S
        try dsimp only
        (walk_at "un"; iterate 3 (walk1; walk_at "un"))
        have e1 : Int.fmod x m = x % m := Int.fmod_eq_emod_of_nonneg x (by first | decide | lia)
        have e2 : Int.fdiv x m = x / m := Int.fdiv_eq_ediv_of_nonneg x (by first | decide | lia)
        (walk_at "un"); refine k _ _ _ ((x / m) :: is) kk _ _ _ ?_ ?_ ?_ (S.fin _ fun p q => .tail _ q)
        · rw [e1]; exact Int.emod_nonneg _ (by first | decide | lia)
        · rw [e1]; exact Int.emod_lt_of_pos _ hm
        · (walk_at "un"); refine ⟨⟨⟨_, by rw [e2]⟩, hi'⟩, fun i hi => ?_, hl⟩
          rcases List.mem_cons.mp hi with rfl | hi
          · exact Int.ediv_nonneg h0x (by first | decide | lia)
          · exact hn i (.tail _ hi)
end
theorem Fin.made {b : Heap} {g g' : GH} {h h1 h' : Heap} {x dx C : Addr} {o1 o2 : Obj} {es : List DictEntry} {k : Nat} {R : Prop} (F : Fin ⟨h1, g, [x, dx]⟩ g' h' [(x, instObj C dx), (dx, dictOf es k)]) (P : Pre b g h1 [(x, o1), (dx, o2)]) (hx : h.get? x = none) (hdx : h.get? dx = none) (hs : ∀ a o, h.get? a = some o → h1.get? a = some o)
    (c : ∀ g'', Fin ⟨h, g, []⟩ g'' h' [] → (∀ a o, g a = some o → g'' a = some o) → GInst g'' x C es k → R) : R := by
  obtain ⟨F1, hs, hm⟩ := Fin.fixed (h := h) (n1 := [(x, o1), (dx, o2)]) F rfl P (fun p hp => by
    rcases List.mem_cons.mp hp with rfl | hp
    · exact hx
    · obtain rfl := List.mem_singleton.mp hp; exact hdx) hs
  exact c _ F1 hs ⟨dx, hm _ (.head _), hm _ (.tail _ (.head _))⟩
section
variable {prog : Program} {w : World} {A : Around} {E : Value → Shared → Prop} {gs : Array GenState} {dr : Drawn} {tk : Tok} {os : OsState}
variable {b : Heap} {g : GH} {h : Heap} {n : List (Addr × Obj)}
theorem mk_const {Q : Value → Shared → Prop} {v1 : Value} (W : Wo (Mine.hd0.heap_1 w.params) b) (C : Cx A 2 4) (P : Pre b g h [])
    (k : ∀ x t1 g' h' tk', Fin ⟨h, g, []⟩ g' h' [] → (∀ a o, g a = some o → g' a = some o) → GInst g' x 66 [ent w.params "value" t1 v1] 1 → Q (.ref x) ⟨h', gs, dr, tk', os⟩) :
    wpAny (model prog w) A (call (.ref 66) [v1]) Q E ⟨h, gs, dr, tk, os⟩ := by
  refine r_make (d := 1) (u := 3) W C P (by k_is) (by k_is) (by k_is) ?_
  intro A' x dx h1 C1 P1 hk hx hdx
  refine r_code (d := 0) (u := 0) (binds := [("self", .ref x), ("value", v1)]) (l := [("self", .ref x), ("value", v1)]) W C1 P1 (by k_is) (by k_is) rfl (by rfl) (.cons rfl (.cons rfl .nil)) ?_
  intro A' env L h' tk' C' N S E'
  (walk_at "un"; iterate 4 (walk1; walk_at "un"))
  refine r_setattr (es' := fun t => [ent w.params "value" t v1]) (n' := fun t => [(x, instObj 66 dx), (dx, dictOf [ent w.params "value" t v1] 1)]) (k' := 1) W S (.head _) (fun t => .tail .head) (by k_is) (by k_is) (by k_is) (by k_is) rfl (fun t => rfl) (fun t => by simp) ?_
  clear S; intro h' t1 tk' S
  try dsimp only
  (walk_at "un"; iterate 1 (walk1; walk_at "un"))
  refine Fin.made (S.fin _ fun _ q => q) P1 hx hdx hk ?_
  intro g9 F1 hs J
  (walk_at "un"); exact ⟨rfl, k _ _ _ _ _ F1 hs J⟩
theorem mk_local {Q : Value → Shared → Prop} {v1 : Value} (W : Wo (Mine.hd0.heap_1 w.params) b) (C : Cx A 2 4) (P : Pre b g h [])
    (k : ∀ x t1 g' h' tk', Fin ⟨h, g, []⟩ g' h' [] → (∀ a o, g a = some o → g' a = some o) → GInst g' x 85 [ent w.params "number" t1 v1] 1 → Q (.ref x) ⟨h', gs, dr, tk', os⟩) :
    wpAny (model prog w) A (call (.ref 85) [v1]) Q E ⟨h, gs, dr, tk, os⟩ := by
  refine r_make (d := 1) (u := 3) W C P (by k_is) (by k_is) (by k_is) ?_
  intro A' x dx h1 C1 P1 hk hx hdx
  refine r_code (d := 0) (u := 0) (binds := [("self", .ref x), ("number", v1)]) (l := [("self", .ref x), ("number", v1)]) W C1 P1 (by k_is) (by k_is) rfl (by rfl) (.cons rfl (.cons rfl .nil)) ?_
  intro A' env L h' tk' C' N S E'
  (walk_at "un"; iterate 4 (walk1; walk_at "un"))
  refine r_setattr (es' := fun t => [ent w.params "number" t v1]) (n' := fun t => [(x, instObj 85 dx), (dx, dictOf [ent w.params "number" t v1] 1)]) (k' := 1) W S (.head _) (fun t => .tail .head) (by k_is) (by k_is) (by k_is) (by k_is) rfl (fun t => rfl) (fun t => by simp) ?_
  clear S; intro h' t1 tk' S
  try dsimp only
  (walk_at "un"; iterate 1 (walk1; walk_at "un"))
  refine Fin.made (S.fin _ fun _ q => q) P1 hx hdx hk ?_
  intro g9 F1 hs J
  (walk_at "un"); exact ⟨rfl, k _ _ _ _ _ F1 hs J⟩
theorem mk_setlocal {Q : Value → Shared → Prop} {v1 v2 : Value} (W : Wo (Mine.hd0.heap_1 w.params) b) (C : Cx A 2 4) (P : Pre b g h [])
    (k : ∀ x t1 t2 g' h' tk', Fin ⟨h, g, []⟩ g' h' [] → (∀ a o, g a = some o → g' a = some o) → GInst g' x 118 [ent w.params "number" t1 v1, ent w.params "value" t2 v2] 2 → Q (.ref x) ⟨h', gs, dr, tk', os⟩) :
    wpAny (model prog w) A (call (.ref 118) [v1, v2]) Q E ⟨h, gs, dr, tk, os⟩ := by
  refine r_make (d := 1) (u := 3) W C P (by k_is) (by k_is) (by k_is) ?_
  intro A' x dx h1 C1 P1 hk hx hdx
  refine r_code (d := 0) (u := 0) (binds := [("self", .ref x), ("number", v1), ("value", v2)]) (l := [("self", .ref x), ("number", v1), ("value", v2)]) W C1 P1 (by k_is) (by k_is) rfl (by rfl) (.cons rfl (.cons rfl (.cons rfl .nil))) ?_
  intro A' env L h' tk' C' N S E'
  (walk_at "un"; iterate 4 (walk1; walk_at "un"))
  refine r_setattr (es' := fun t => [ent w.params "number" t v1]) (n' := fun t => [(x, instObj 118 dx), (dx, dictOf [ent w.params "number" t v1] 1)]) (k' := 1) W S (.head _) (fun t => .tail .head) (by k_is) (by k_is) (by k_is) (by k_is) rfl (fun t => rfl) (fun t => by simp) ?_
  clear S; intro h' t1 tk' S
  try dsimp only
  (walk_at "un"; iterate 4 (walk1; walk_at "un"))
  refine r_setattr (es' := fun t => [ent w.params "number" t1 v1, ent w.params "value" t v2]) (n' := fun t => [(x, instObj 118 dx), (dx, dictOf [ent w.params "number" t1 v1, ent w.params "value" t v2] 2)]) (k' := 2) W S (.head _) (fun t => .tail .head) (by k_is) (by k_is) (by k_is) (by k_is) rfl (fun t => rfl) (fun t => by simp) ?_
  clear S; intro h' t2 tk' S
  try dsimp only
  (walk_at "un"; iterate 1 (walk1; walk_at "un"))
  refine Fin.made (S.fin _ fun _ q => q) P1 hx hdx hk ?_
  intro g9 F1 hs J
  (walk_at "un"); exact ⟨rfl, k _ _ _ _ _ _ F1 hs J⟩
theorem mk_ite {Q : Value → Shared → Prop} {v1 v2 v3 : Value} (W : Wo (Mine.hd0.heap_1 w.params) b) (C : Cx A 2 4) (P : Pre b g h [])
    (k : ∀ x t1 t2 t3 g' h' tk', Fin ⟨h, g, []⟩ g' h' [] → (∀ a o, g a = some o → g' a = some o) → GInst g' x 151 [ent w.params "test" t1 v1, ent w.params "yes" t2 v2, ent w.params "no" t3 v3] 3 → Q (.ref x) ⟨h', gs, dr, tk', os⟩) :
    wpAny (model prog w) A (call (.ref 151) [v1, v2, v3]) Q E ⟨h, gs, dr, tk, os⟩ := by
  refine r_make (d := 1) (u := 3) W C P (by k_is) (by k_is) (by k_is) ?_
  intro A' x dx h1 C1 P1 hk hx hdx
  refine r_code (d := 0) (u := 0) (binds := [("self", .ref x), ("test", v1), ("yes", v2), ("no", v3)]) (l := [("self", .ref x), ("test", v1), ("yes", v2), ("no", v3)]) W C1 P1 (by k_is) (by k_is) rfl (by rfl) (.cons rfl (.cons rfl (.cons rfl (.cons rfl .nil)))) ?_
  intro A' env L h' tk' C' N S E'
  (walk_at "un"; iterate 4 (walk1; walk_at "un"))
  refine r_setattr (es' := fun t => [ent w.params "test" t v1]) (n' := fun t => [(x, instObj 151 dx), (dx, dictOf [ent w.params "test" t v1] 1)]) (k' := 1) W S (.head _) (fun t => .tail .head) (by k_is) (by k_is) (by k_is) (by k_is) rfl (fun t => rfl) (fun t => by simp) ?_
  clear S; intro h' t1 tk' S
  try dsimp only
  (walk_at "un"; iterate 4 (walk1; walk_at "un"))
  refine r_setattr (es' := fun t => [ent w.params "test" t1 v1, ent w.params "yes" t v2]) (n' := fun t => [(x, instObj 151 dx), (dx, dictOf [ent w.params "test" t1 v1, ent w.params "yes" t v2] 2)]) (k' := 2) W S (.head _) (fun t => .tail .head) (by k_is) (by k_is) (by k_is) (by k_is) rfl (fun t => rfl) (fun t => by simp) ?_
  clear S; intro h' t2 tk' S
  try dsimp only
  (walk_at "un"; iterate 4 (walk1; walk_at "un"))
  refine r_setattr (es' := fun t => [ent w.params "test" t1 v1, ent w.params "yes" t2 v2, ent w.params "no" t v3]) (n' := fun t => [(x, instObj 151 dx), (dx, dictOf [ent w.params "test" t1 v1, ent w.params "yes" t2 v2, ent w.params "no" t v3] 3)]) (k' := 3) W S (.head _) (fun t => .tail .head) (by k_is) (by k_is) (by k_is) (by k_is) rfl (fun t => rfl) (fun t => by simp) ?_
  clear S; intro h' t3 tk' S
  try dsimp only
  (walk_at "un"; iterate 1 (walk1; walk_at "un"))
  refine Fin.made (S.fin _ fun _ q => q) P1 hx hdx hk ?_
  intro g9 F1 hs J
  (walk_at "un"); exact ⟨rfl, k _ _ _ _ _ _ _ F1 hs J⟩
theorem mk_lam {Q : Value → Shared → Prop} {v1 v2 v3 v4 : Value} (W : Wo (Mine.hd0.heap_1 w.params) b) (C : Cx A 2 4) (P : Pre b g h [])
    (k : ∀ x t1 t2 t3 t4 g' h' tk', Fin ⟨h, g, []⟩ g' h' [] → (∀ a o, g a = some o → g' a = some o) → GInst g' x 198 [ent w.params "label" t1 v1, ent w.params "params" t2 v2, ent w.params "rest" t3 v3, ent w.params "body" t4 v4] 4 → Q (.ref x) ⟨h', gs, dr, tk', os⟩) :
    wpAny (model prog w) A (call (.ref 198) [v1, v2, v3, v4]) Q E ⟨h, gs, dr, tk, os⟩ := by
  refine r_make (d := 1) (u := 3) W C P (by k_is) (by k_is) (by k_is) ?_
  intro A' x dx h1 C1 P1 hk hx hdx
  refine r_code (d := 0) (u := 0) (binds := [("self", .ref x), ("label", v1), ("params", v2), ("rest", v3), ("body", v4)]) (l := [("self", .ref x), ("label", v1), ("params", v2), ("rest", v3), ("body", v4)]) W C1 P1 (by k_is) (by k_is) rfl (by rfl) (.cons rfl (.cons rfl (.cons rfl (.cons rfl (.cons rfl .nil))))) ?_
  intro A' env L h' tk' C' N S E'
  (walk_at "un"; iterate 4 (walk1; walk_at "un"))
  refine r_setattr (es' := fun t => [ent w.params "label" t v1]) (n' := fun t => [(x, instObj 198 dx), (dx, dictOf [ent w.params "label" t v1] 1)]) (k' := 1) W S (.head _) (fun t => .tail .head) (by k_is) (by k_is) (by k_is) (by k_is) rfl (fun t => rfl) (fun t => by simp) ?_
  clear S; intro h' t1 tk' S
  try dsimp only
  (walk_at "un"; iterate 4 (walk1; walk_at "un"))
  refine r_setattr (es' := fun t => [ent w.params "label" t1 v1, ent w.params "params" t v2]) (n' := fun t => [(x, instObj 198 dx), (dx, dictOf [ent w.params "label" t1 v1, ent w.params "params" t v2] 2)]) (k' := 2) W S (.head _) (fun t => .tail .head) (by k_is) (by k_is) (by k_is) (by k_is) rfl (fun t => rfl) (fun t => by simp) ?_
  clear S; intro h' t2 tk' S
  try dsimp only
  (walk_at "un"; iterate 4 (walk1; walk_at "un"))
  refine r_setattr (es' := fun t => [ent w.params "label" t1 v1, ent w.params "params" t2 v2, ent w.params "rest" t v3]) (n' := fun t => [(x, instObj 198 dx), (dx, dictOf [ent w.params "label" t1 v1, ent w.params "params" t2 v2, ent w.params "rest" t v3] 3)]) (k' := 3) W S (.head _) (fun t => .tail .head) (by k_is) (by k_is) (by k_is) (by k_is) rfl (fun t => rfl) (fun t => by simp) ?_
  clear S; intro h' t3 tk' S
  try dsimp only
  (walk_at "un"; iterate 4 (walk1; walk_at "un"))
  refine r_setattr (es' := fun t => [ent w.params "label" t1 v1, ent w.params "params" t2 v2, ent w.params "rest" t3 v3, ent w.params "body" t v4]) (n' := fun t => [(x, instObj 198 dx), (dx, dictOf [ent w.params "label" t1 v1, ent w.params "params" t2 v2, ent w.params "rest" t3 v3, ent w.params "body" t v4] 4)]) (k' := 4) W S (.head _) (fun t => .tail .head) (by k_is) (by k_is) (by k_is) (by k_is) rfl (fun t => rfl) (fun t => by simp) ?_
  clear S; intro h' t4 tk' S
  try dsimp only
  (walk_at "un"; iterate 1 (walk1; walk_at "un"))
  refine Fin.made (S.fin _ fun _ q => q) P1 hx hdx hk ?_
  intro g9 F1 hs J
  (walk_at "un"); exact ⟨rfl, k _ _ _ _ _ _ _ _ F1 hs J⟩
theorem mk_call {Q : Value → Shared → Prop} {v1 v2 : Value} (W : Wo (Mine.hd0.heap_1 w.params) b) (C : Cx A 2 4) (P : Pre b g h [])
    (k : ∀ x t1 t2 g' h' tk', Fin ⟨h, g, []⟩ g' h' [] → (∀ a o, g a = some o → g' a = some o) → GInst g' x 231 [ent w.params "operator" t1 v1, ent w.params "operands" t2 v2] 2 → Q (.ref x) ⟨h', gs, dr, tk', os⟩) :
    wpAny (model prog w) A (call (.ref 231) [v1, v2]) Q E ⟨h, gs, dr, tk, os⟩ := by
  refine r_make (d := 1) (u := 3) W C P (by k_is) (by k_is) (by k_is) ?_
  intro A' x dx h1 C1 P1 hk hx hdx
  refine r_code (d := 0) (u := 0) (binds := [("self", .ref x), ("operator", v1), ("operands", v2)]) (l := [("self", .ref x), ("operator", v1), ("operands", v2)]) W C1 P1 (by k_is) (by k_is) rfl (by rfl) (.cons rfl (.cons rfl (.cons rfl .nil))) ?_
  intro A' env L h' tk' C' N S E'
  (walk_at "un"; iterate 4 (walk1; walk_at "un"))
  refine r_setattr (es' := fun t => [ent w.params "operator" t v1]) (n' := fun t => [(x, instObj 231 dx), (dx, dictOf [ent w.params "operator" t v1] 1)]) (k' := 1) W S (.head _) (fun t => .tail .head) (by k_is) (by k_is) (by k_is) (by k_is) rfl (fun t => rfl) (fun t => by simp) ?_
  clear S; intro h' t1 tk' S
  try dsimp only
  (walk_at "un"; iterate 4 (walk1; walk_at "un"))
  refine r_setattr (es' := fun t => [ent w.params "operator" t1 v1, ent w.params "operands" t v2]) (n' := fun t => [(x, instObj 231 dx), (dx, dictOf [ent w.params "operator" t1 v1, ent w.params "operands" t v2] 2)]) (k' := 2) W S (.head _) (fun t => .tail .head) (by k_is) (by k_is) (by k_is) (by k_is) rfl (fun t => rfl) (fun t => by simp) ?_
  clear S; intro h' t2 tk' S
  try dsimp only
  (walk_at "un"; iterate 1 (walk1; walk_at "un"))
  refine Fin.made (S.fin _ fun _ q => q) P1 hx hdx hk ?_
  intro g9 F1 hs J
  (walk_at "un"); exact ⟨rfl, k _ _ _ _ _ _ F1 hs J⟩
theorem mk_seq {Q : Value → Shared → Prop} {v1 : Value} (W : Wo (Mine.hd0.heap_1 w.params) b) (C : Cx A 2 4) (P : Pre b g h [])
    (k : ∀ x t1 g' h' tk', Fin ⟨h, g, []⟩ g' h' [] → (∀ a o, g a = some o → g' a = some o) → GInst g' x 264 [ent w.params "items" t1 v1] 1 → Q (.ref x) ⟨h', gs, dr, tk', os⟩) :
    wpAny (model prog w) A (call (.ref 264) [v1]) Q E ⟨h, gs, dr, tk, os⟩ := by
  refine r_make (d := 1) (u := 3) W C P (by k_is) (by k_is) (by k_is) ?_
  intro A' x dx h1 C1 P1 hk hx hdx
  refine r_code (d := 0) (u := 0) (binds := [("self", .ref x), ("items", v1)]) (l := [("self", .ref x), ("items", v1)]) W C1 P1 (by k_is) (by k_is) rfl (by rfl) (.cons rfl (.cons rfl .nil)) ?_
  intro A' env L h' tk' C' N S E'
  (walk_at "un"; iterate 4 (walk1; walk_at "un"))
  refine r_setattr (es' := fun t => [ent w.params "items" t v1]) (n' := fun t => [(x, instObj 264 dx), (dx, dictOf [ent w.params "items" t v1] 1)]) (k' := 1) W S (.head _) (fun t => .tail .head) (by k_is) (by k_is) (by k_is) (by k_is) rfl (fun t => rfl) (fun t => by simp) ?_
  clear S; intro h' t1 tk' S
  try dsimp only
  (walk_at "un"; iterate 1 (walk1; walk_at "un"))
  refine Fin.made (S.fin _ fun _ q => q) P1 hx hdx hk ?_
  intro g9 F1 hs J
  (walk_at "un"); exact ⟨rfl, k _ _ _ _ _ F1 hs J⟩
theorem mk_prim {Q : Value → Shared → Prop} {v1 v2 : Value} (W : Wo (Mine.hd0.heap_1 w.params) b) (C : Cx A 2 4) (P : Pre b g h [])
    (k : ∀ x t1 t2 g' h' tk', Fin ⟨h, g, []⟩ g' h' [] → (∀ a o, g a = some o → g' a = some o) → GInst g' x 297 [ent w.params "op" t1 v1, ent w.params "operands" t2 v2] 2 → Q (.ref x) ⟨h', gs, dr, tk', os⟩) :
    wpAny (model prog w) A (call (.ref 297) [v1, v2]) Q E ⟨h, gs, dr, tk, os⟩ := by
  refine r_make (d := 1) (u := 3) W C P (by k_is) (by k_is) (by k_is) ?_
  intro A' x dx h1 C1 P1 hk hx hdx
  refine r_code (d := 0) (u := 0) (binds := [("self", .ref x), ("op", v1), ("operands", v2)]) (l := [("self", .ref x), ("op", v1), ("operands", v2)]) W C1 P1 (by k_is) (by k_is) rfl (by rfl) (.cons rfl (.cons rfl (.cons rfl .nil))) ?_
  intro A' env L h' tk' C' N S E'
  (walk_at "un"; iterate 4 (walk1; walk_at "un"))
  refine r_setattr (es' := fun t => [ent w.params "op" t v1]) (n' := fun t => [(x, instObj 297 dx), (dx, dictOf [ent w.params "op" t v1] 1)]) (k' := 1) W S (.head _) (fun t => .tail .head) (by k_is) (by k_is) (by k_is) (by k_is) rfl (fun t => rfl) (fun t => by simp) ?_
  clear S; intro h' t1 tk' S
  try dsimp only
  (walk_at "un"; iterate 4 (walk1; walk_at "un"))
  refine r_setattr (es' := fun t => [ent w.params "op" t1 v1, ent w.params "operands" t v2]) (n' := fun t => [(x, instObj 297 dx), (dx, dictOf [ent w.params "op" t1 v1, ent w.params "operands" t v2] 2)]) (k' := 2) W S (.head _) (fun t => .tail .head) (by k_is) (by k_is) (by k_is) (by k_is) rfl (fun t => rfl) (fun t => by simp) ?_
  clear S; intro h' t2 tk' S
  try dsimp only
  (walk_at "un"; iterate 1 (walk1; walk_at "un"))
  refine Fin.made (S.fin _ fun _ q => q) P1 hx hdx hk ?_
  intro g9 F1 hs J
  (walk_at "un"); exact ⟨rfl, k _ _ _ _ _ _ F1 hs J⟩
theorem mk_pair {Q : Value → Shared → Prop} {v1 v2 : Value} (W : Wo (Mine.hd0.heap_1 w.params) b) (C : Cx A 2 4) (P : Pre b g h [])
    (k : ∀ x t1 t2 g' h' tk', Fin ⟨h, g, []⟩ g' h' [] → (∀ a o, g a = some o → g' a = some o) → GInst g' x 395 [ent w.params "car" t1 v1, ent w.params "cdr" t2 v2] 2 → Q (.ref x) ⟨h', gs, dr, tk', os⟩) :
    wpAny (model prog w) A (call (.ref 395) [v1, v2]) Q E ⟨h, gs, dr, tk, os⟩ := by
  refine r_make (d := 1) (u := 3) W C P (by k_is) (by k_is) (by k_is) ?_
  intro A' x dx h1 C1 P1 hk hx hdx
  refine r_code (d := 0) (u := 0) (binds := [("self", .ref x), ("car", v1), ("cdr", v2)]) (l := [("self", .ref x), ("car", v1), ("cdr", v2)]) W C1 P1 (by k_is) (by k_is) rfl (by rfl) (.cons rfl (.cons rfl (.cons rfl .nil))) ?_
  intro A' env L h' tk' C' N S E'
  (walk_at "un"; iterate 4 (walk1; walk_at "un"))
  refine r_setattr (es' := fun t => [ent w.params "car" t v1]) (n' := fun t => [(x, instObj 395 dx), (dx, dictOf [ent w.params "car" t v1] 1)]) (k' := 1) W S (.head _) (fun t => .tail .head) (by k_is) (by k_is) (by k_is) (by k_is) rfl (fun t => rfl) (fun t => by simp) ?_
  clear S; intro h' t1 tk' S
  try dsimp only
  (walk_at "un"; iterate 4 (walk1; walk_at "un"))
  refine r_setattr (es' := fun t => [ent w.params "car" t1 v1, ent w.params "cdr" t v2]) (n' := fun t => [(x, instObj 395 dx), (dx, dictOf [ent w.params "car" t1 v1, ent w.params "cdr" t v2] 2)]) (k' := 2) W S (.head _) (fun t => .tail .head) (by k_is) (by k_is) (by k_is) (by k_is) rfl (fun t => rfl) (fun t => by simp) ?_
  clear S; intro h' t2 tk' S
  try dsimp only
  (walk_at "un"; iterate 1 (walk1; walk_at "un"))
  refine Fin.made (S.fin _ fun _ q => q) P1 hx hdx hk ?_
  intro g9 F1 hs J
  (walk_at "un"); exact ⟨rfl, k _ _ _ _ _ _ F1 hs J⟩
theorem mk_putting {Q : Value → Shared → Prop} {v1 : Value} (W : Wo (Mine.hd0.heap_1 w.params) b) (C : Cx A 2 4) (P : Pre b g h [])
    (k : ∀ x t1 g' h' tk', Fin ⟨h, g, []⟩ g' h' [] → (∀ a o, g a = some o → g' a = some o) → GInst g' x 676 [ent w.params "nodes" t1 v1] 1 → Q (.ref x) ⟨h', gs, dr, tk', os⟩) :
    wpAny (model prog w) A (call (.ref 676) [v1]) Q E ⟨h, gs, dr, tk, os⟩ := by
  refine r_make (d := 1) (u := 3) W C P (by k_is) (by k_is) (by k_is) ?_
  intro A' x dx h1 C1 P1 hk hx hdx
  refine r_code (d := 0) (u := 0) (binds := [("self", .ref x), ("nodes", v1)]) (l := [("self", .ref x), ("nodes", v1)]) W C1 P1 (by k_is) (by k_is) rfl (by rfl) (.cons rfl (.cons rfl .nil)) ?_
  intro A' env L h' tk' C' N S E'
  (walk_at "un"; iterate 4 (walk1; walk_at "un"))
  refine r_setattr (es' := fun t => [ent w.params "nodes" t v1]) (n' := fun t => [(x, instObj 676 dx), (dx, dictOf [ent w.params "nodes" t v1] 1)]) (k' := 1) W S (.head _) (fun t => .tail .head) (by k_is) (by k_is) (by k_is) (by k_is) rfl (fun t => rfl) (fun t => by simp) ?_
  clear S; intro h' t1 tk' S
  try dsimp only
  (walk_at "un"; iterate 1 (walk1; walk_at "un"))
  refine Fin.made (S.fin _ fun _ q => q) P1 hx hdx hk ?_
  intro g9 F1 hs J
  (walk_at "un"); exact ⟨rfl, k _ _ _ _ _ F1 hs J⟩
theorem mk_copying {Q : Value → Shared → Prop} {v1 : Value} (W : Wo (Mine.hd0.heap_1 w.params) b) (C : Cx A 2 4) (P : Pre b g h [])
    (k : ∀ x t1 g' h' tk', Fin ⟨h, g, []⟩ g' h' [] → (∀ a o, g a = some o → g' a = some o) → GInst g' x 718 [ent w.params "facts" t1 v1] 1 → Q (.ref x) ⟨h', gs, dr, tk', os⟩) :
    wpAny (model prog w) A (call (.ref 718) [v1]) Q E ⟨h, gs, dr, tk, os⟩ := by
  refine r_make (d := 1) (u := 3) W C P (by k_is) (by k_is) (by k_is) ?_
  intro A' x dx h1 C1 P1 hk hx hdx
  refine r_code (d := 0) (u := 0) (binds := [("self", .ref x), ("facts", v1)]) (l := [("self", .ref x), ("facts", v1)]) W C1 P1 (by k_is) (by k_is) rfl (by rfl) (.cons rfl (.cons rfl .nil)) ?_
  intro A' env L h' tk' C' N S E'
  (walk_at "un"; iterate 4 (walk1; walk_at "un"))
  refine r_setattr (es' := fun t => [ent w.params "facts" t v1]) (n' := fun t => [(x, instObj 718 dx), (dx, dictOf [ent w.params "facts" t v1] 1)]) (k' := 1) W S (.head _) (fun t => .tail .head) (by k_is) (by k_is) (by k_is) (by k_is) rfl (fun t => rfl) (fun t => by simp) ?_
  clear S; intro h' t1 tk' S
  try dsimp only
  (walk_at "un"; iterate 1 (walk1; walk_at "un"))
  refine Fin.made (S.fin _ fun _ q => q) P1 hx hdx hk ?_
  intro g9 F1 hs J
  (walk_at "un"); exact ⟨rfl, k _ _ _ _ _ F1 hs J⟩
end
section
variable {prog : Program} {w : World} {A : Around} {E : Value → Shared → Prop} {gs : Array GenState} {dr : Drawn} {tk : Tok} {os : OsState}
variable {b : Heap} {e : Ent} {g : GH} {L : Addr} {h : Heap} {l : List (Str × Value)} {n n1 : List (Addr × Obj)} {env : Env} {sc : Scope} {cl : List (Str × Addr)}
theorem r_kind {Q : Value → Shared → Prop} {expr : Bool} {v : Value} {nk : Nk} {vs : List Value} (W : Wo (Mine.hd0.heap_1 w.params) b) (S : St b e g L h l n) (H : Shape w.params g v nk vs) (k : ∀ t tk', Q (.int nk.num t) ⟨h, gs, dr, tk', os⟩) :
    wpAny (model prog w) A (getAttr v "kind" expr) Q E ⟨h, gs, dr, tk, os⟩ := by
  cases H
  case const I c => (refine r_getcls W S I (by k_is) (by k_is) (by k_is) (by k_is) rfl (by decide +kernel) rfl ?_; exact fun _ => k _ _)
  case loc I => (refine r_getcls W S I (by k_is) (by k_is) (by k_is) (by k_is) rfl (by decide +kernel) rfl ?_; exact fun _ => k _ _)
  case set I => (refine r_getcls W S I (by k_is) (by k_is) (by k_is) (by k_is) rfl (by decide +kernel) rfl ?_; exact fun _ => k _ _)
  case ite I => (refine r_getcls W S I (by k_is) (by k_is) (by k_is) (by k_is) rfl (by decide +kernel) rfl ?_; exact fun _ => k _ _)
  case lam I _ _ _ => (refine r_getcls W S I (by k_is) (by k_is) (by k_is) (by k_is) rfl (by decide +kernel) rfl ?_; exact fun _ => k _ _)
  case call I _ => (refine r_getcls W S I (by k_is) (by k_is) (by k_is) (by k_is) rfl (by decide +kernel) rfl ?_; exact fun _ => k _ _)
  case seq I _ => (refine r_getcls W S I (by k_is) (by k_is) (by k_is) (by k_is) rfl (by decide +kernel) rfl ?_; exact fun _ => k _ _)
  case prim I _ => (refine r_getcls W S I (by k_is) (by k_is) (by k_is) (by k_is) rfl (by decide +kernel) rfl ?_; exact fun _ => k _ _)
/-- an attribute of the object itself -/
theorem r_attr {Q : Value → Shared → Prop} {expr : Bool} {x C : Addr} {name : Str} {v : Value} {attr : Option Value} {es : List DictEntry} {k : Nat} (W : Wo (Mine.hd0.heap_1 w.params) b) (S : St b e g L h l n) (I : GInst g x C es k) (hl : getL name es = some (some v)) (hg : plainGet (Mine.hd0.heap_1 w.params) C name = true) (hh : hasDictIn (Mine.hd0.heap_1 w.params) C = true)
    (ha : findIn (Mine.hd0.heap_1 w.params) (.ref C) name = some attr) (hn : noGet (Mine.hd0.heap_1 w.params) attr = true) (hv : handedIn v = true) (kk : ∀ tk', Q v ⟨h, gs, dr, tk', os⟩) :
    wpAny (model prog w) A (getAttr (.ref x) name expr) Q E ⟨h, gs, dr, tk, os⟩ := r_getown W S I hg hh ha hn hl hv kk
theorem parts_leaf {Q : Value → Shared → Prop} {x : Addr} (W : Wo (Mine.hd0.heap_1 w.params) b) (C : Cx A 1 3) (P : Pre b g h []) 
    (k : ∀ a j g' h' tk', Fin ⟨h, g, []⟩ g' h' [] → (∀ a o, g a = some o → g' a = some o) → g' a = some (listO [] j) → Q (.ref a) ⟨h', gs, dr, tk', os⟩) :
    wpAny (model prog w) A (call (.ref 35) [.ref x]) Q E ⟨h, gs, dr, tk, os⟩ := by
  refine r_call (d := 0) (u := 0) (binds := [("self", .ref x)]) (l := [("self", .ref x)]) W C P (by k_is) (by k_is) rfl (by rfl) (.cons rfl .nil) ?_
  intro A' env L h' tk' C' N S E'
  (walk_at "un"; iterate 5 (walk1; walk_at "un"))
  (rename St _ _ _ _ _ _ _ => S)
  obtain ⟨g1, S, h1, h2⟩ := S.freeze1 (by assumption)
  (walk_at "un"); exact k _ _ _ _ _ (S.fin _ fun p q => by first | exact q | exact .tail _ q | exact .tail _ (.tail _ q)) h1 h2
theorem parts_set {Q : Value → Shared → Prop} {x : Addr} {t1 t2 i u v1} (W : Wo (Mine.hd0.heap_1 w.params) b) (C : Cx A 1 3) (P : Pre b g h []) (I : GInst g x 118 [ent w.params "number" t1 (.int i u), ent w.params "value" t2 v1] 2) (hv : handedIn v1 = true)
    (k : ∀ a j g' h' tk', Fin ⟨h, g, []⟩ g' h' [] → (∀ a o, g a = some o → g' a = some o) → g' a = some (listO [v1] j) → Q (.ref a) ⟨h', gs, dr, tk', os⟩) :
    wpAny (model prog w) A (call (.ref 108) [.ref x]) Q E ⟨h, gs, dr, tk, os⟩ := by
  refine r_call (d := 0) (u := 0) (binds := [("self", .ref x)]) (l := [("self", .ref x)]) W C P (by k_is) (by k_is) rfl (by rfl) (.cons rfl .nil) ?_
  intro A' env L h' tk' C' N S E'
  (walk_at "un"; iterate 6 (walk1; walk_at "un"))
  refine r_attr W S I rfl (by k_is) (by k_is) (by k_is) (by k_is) (by first | assumption | k_handed) ?_
  intro _
  (walk_at "un"; iterate 2 (walk1; walk_at "un"))
  (rename St _ _ _ _ _ _ _ => S)
  obtain ⟨g1, S, h1, h2⟩ := S.freeze1 (by assumption)
  (walk_at "un"); exact k _ _ _ _ _ (S.fin _ fun p q => by first | exact q | exact .tail _ q | exact .tail _ (.tail _ q)) h1 h2
theorem parts_ite {Q : Value → Shared → Prop} {x : Addr} {t1 t2 t3 v1 v2 v3} (W : Wo (Mine.hd0.heap_1 w.params) b) (C : Cx A 1 3) (P : Pre b g h []) (I : GInst g x 151 [ent w.params "test" t1 v1, ent w.params "yes" t2 v2, ent w.params "no" t3 v3] 3) (hv1 : handedIn v1 = true) (hv2 : handedIn v2 = true) (hv3 : handedIn v3 = true)
    (k : ∀ a j g' h' tk', Fin ⟨h, g, []⟩ g' h' [] → (∀ a o, g a = some o → g' a = some o) → g' a = some (listO [v1, v2, v3] j) → Q (.ref a) ⟨h', gs, dr, tk', os⟩) :
    wpAny (model prog w) A (call (.ref 141) [.ref x]) Q E ⟨h, gs, dr, tk, os⟩ := by
  refine r_call (d := 0) (u := 0) (binds := [("self", .ref x)]) (l := [("self", .ref x)]) W C P (by k_is) (by k_is) rfl (by rfl) (.cons rfl .nil) ?_
  intro A' env L h' tk' C' N S E'
  (walk_at "un"; iterate 6 (walk1; walk_at "un"))
  refine r_attr W S I rfl (by k_is) (by k_is) (by k_is) (by k_is) (by first | assumption | k_handed) ?_
  intro _
  (walk_at "un"; iterate 3 (walk1; walk_at "un"))
  refine r_attr W S I rfl (by k_is) (by k_is) (by k_is) (by k_is) (by first | assumption | k_handed) ?_
  intro _
  (walk_at "un"; iterate 3 (walk1; walk_at "un"))
  refine r_attr W S I rfl (by k_is) (by k_is) (by k_is) (by k_is) (by first | assumption | k_handed) ?_
  intro _
  (walk_at "un"; iterate 2 (walk1; walk_at "un"))
  (rename St _ _ _ _ _ _ _ => S)
  obtain ⟨g1, S, h1, h2⟩ := S.freeze1 (by assumption)
  (walk_at "un"); exact k _ _ _ _ _ (S.fin _ fun p q => by first | exact q | exact .tail _ q | exact .tail _ (.tail _ q)) h1 h2
theorem parts_lam {Q : Value → Shared → Prop} {x : Addr} {t1 t2 t3 t4 v1 v2 v3 v4} (W : Wo (Mine.hd0.heap_1 w.params) b) (C : Cx A 1 3) (P : Pre b g h []) (I : GInst g x 198 [ent w.params "label" t1 v1, ent w.params "params" t2 v2, ent w.params "rest" t3 v3, ent w.params "body" t4 v4] 4) (hv4 : handedIn v4 = true)
    (k : ∀ a j g' h' tk', Fin ⟨h, g, []⟩ g' h' [] → (∀ a o, g a = some o → g' a = some o) → g' a = some (listO [v4] j) → Q (.ref a) ⟨h', gs, dr, tk', os⟩) :
    wpAny (model prog w) A (call (.ref 174) [.ref x]) Q E ⟨h, gs, dr, tk, os⟩ := by
  refine r_call (d := 0) (u := 0) (binds := [("self", .ref x)]) (l := [("self", .ref x)]) W C P (by k_is) (by k_is) rfl (by rfl) (.cons rfl .nil) ?_
  intro A' env L h' tk' C' N S E'
  (walk_at "un"; iterate 6 (walk1; walk_at "un"))
  refine r_attr W S I rfl (by k_is) (by k_is) (by k_is) (by k_is) (by first | assumption | k_handed) ?_
  intro _
  (walk_at "un"; iterate 2 (walk1; walk_at "un"))
  (rename St _ _ _ _ _ _ _ => S)
  obtain ⟨g1, S, h1, h2⟩ := S.freeze1 (by assumption)
  (walk_at "un"); exact k _ _ _ _ _ (S.fin _ fun p q => by first | exact q | exact .tail _ q | exact .tail _ (.tail _ q)) h1 h2
theorem parts_call {Q : Value → Shared → Prop} {x lo : Addr} {t1 t2 v1 ws kk} (W : Wo (Mine.hd0.heap_1 w.params) b) (C : Cx A 1 3) (P : Pre b g h []) (I : GInst g x 231 [ent w.params "operator" t1 v1, ent w.params "operands" t2 (.ref lo)] 2) (hL : g lo = some (listO ws kk)) (hz : ws.length ≤ 1000) (hv1 : handedIn v1 = true)
    (k : ∀ a j g' h' tk', Fin ⟨h, g, []⟩ g' h' [] → (∀ a o, g a = some o → g' a = some o) → g' a = some (listO (v1 :: ws) j) → Q (.ref a) ⟨h', gs, dr, tk', os⟩) :
    wpAny (model prog w) A (call (.ref 221) [.ref x]) Q E ⟨h, gs, dr, tk, os⟩ := by
  refine r_call (d := 0) (u := 0) (binds := [("self", .ref x)]) (l := [("self", .ref x)]) W C P (by k_is) (by k_is) rfl (by rfl) (.cons rfl .nil) ?_
  intro A' env L h' tk' C' N S E'
  (walk_at "un"; iterate 7 (walk1; walk_at "un"))
  refine r_attr W S I rfl (by k_is) (by k_is) (by k_is) (by k_is) (by first | assumption | k_handed) ?_
  intro _
  (walk_at "un"; iterate 4 (walk1; walk_at "un"))
  (rename St _ _ _ _ _ _ _ => S)
  refine r_attr W S I rfl (by k_is) (by k_is) (by k_is) (by k_is) (by first | assumption | k_handed) ?_
  intro _
  refine r_addlist S (S.isL (.inl (.head _))) (S.isL (.inr hL)) (by simp only [List.length_cons, List.length_nil]; rw [sizeLine_eq]; lia) ?_
  clear S; intro a h' ha S
  (rename St _ _ _ _ _ _ _ => S)
  obtain ⟨g1, S, h1, h2⟩ := S.freeze1 (by assumption)
  (walk_at "un"); exact k _ _ _ _ _ (S.fin _ fun p q => by first | exact q | exact .tail _ q | exact .tail _ (.tail _ q)) h1 h2
theorem parts_seq {Q : Value → Shared → Prop} {x lo : Addr} {t1 ws kk} (W : Wo (Mine.hd0.heap_1 w.params) b) (C : Cx A 1 3) (P : Pre b g h []) (I : GInst g x 264 [ent w.params "items" t1 (.ref lo)] 1) (hL : g lo = some (listO ws kk)) (hz : ws.length ≤ 1000)
    (k : ∀ a j g' h' tk', Fin ⟨h, g, []⟩ g' h' [] → (∀ a o, g a = some o → g' a = some o) → g' a = some (listO ws j) → Q (.ref a) ⟨h', gs, dr, tk', os⟩) :
    wpAny (model prog w) A (call (.ref 254) [.ref x]) Q E ⟨h, gs, dr, tk, os⟩ := by
  refine r_call (d := 0) (u := 0) (binds := [("self", .ref x)]) (l := [("self", .ref x)]) W C P (by k_is) (by k_is) rfl (by rfl) (.cons rfl .nil) ?_
  intro A' env L h' tk' C' N S E'
  (walk_at "un"; iterate 8 (walk1; walk_at "un"))
  refine r_attr W S I rfl (by k_is) (by k_is) (by k_is) (by k_is) (by first | assumption | k_handed) ?_
  intro _
  (walk_at "un"; iterate 1 (walk1; walk_at "un"))
  refine r_listof (.inl rfl) S (S.isL (.inr hL)) rfl rfl (by rw [sizeLine_eq]; lia) ?_
  clear S; intro a h' j ha S
  (rename St _ _ _ _ _ _ _ => S)
  obtain ⟨g1, S, h1, h2⟩ := S.freeze1 (by assumption)
  (walk_at "un"); exact k _ _ _ _ _ (S.fin _ fun p q => by first | exact q | exact .tail _ q | exact .tail _ (.tail _ q)) h1 h2
theorem parts_prim {Q : Value → Shared → Prop} {x lo : Addr} {t1 t2 v1 ws kk} (W : Wo (Mine.hd0.heap_1 w.params) b) (C : Cx A 1 3) (P : Pre b g h []) (I : GInst g x 297 [ent w.params "op" t1 v1, ent w.params "operands" t2 (.ref lo)] 2) (hL : g lo = some (listO ws kk)) (hz : ws.length ≤ 1000)
    (k : ∀ a j g' h' tk', Fin ⟨h, g, []⟩ g' h' [] → (∀ a o, g a = some o → g' a = some o) → g' a = some (listO ws j) → Q (.ref a) ⟨h', gs, dr, tk', os⟩) :
    wpAny (model prog w) A (call (.ref 287) [.ref x]) Q E ⟨h, gs, dr, tk, os⟩ := by
  refine r_call (d := 0) (u := 0) (binds := [("self", .ref x)]) (l := [("self", .ref x)]) W C P (by k_is) (by k_is) rfl (by rfl) (.cons rfl .nil) ?_
  intro A' env L h' tk' C' N S E'
  (walk_at "un"; iterate 8 (walk1; walk_at "un"))
  refine r_attr W S I rfl (by k_is) (by k_is) (by k_is) (by k_is) (by first | assumption | k_handed) ?_
  intro _
  (walk_at "un"; iterate 1 (walk1; walk_at "un"))
  refine r_listof (.inl rfl) S (S.isL (.inr hL)) rfl rfl (by rw [sizeLine_eq]; lia) ?_
  clear S; intro a h' j ha S
  (rename St _ _ _ _ _ _ _ => S)
  obtain ⟨g1, S, h1, h2⟩ := S.freeze1 (by assumption)
  (walk_at "un"); exact k _ _ _ _ _ (S.fin _ fun p q => by first | exact q | exact .tail _ q | exact .tail _ (.tail _ q)) h1 h2
noncomputable def HandIn : List Value → Prop
  | [] => True
  | v :: vs => handedIn v = true ∧ HandIn vs
/-- v.parts() -/
theorem r_parts {Q : Value → Shared → Prop} {v : Value} {nk : Nk} {vs : List Value} {pl : Sem Bool} {pos : Pos} (W : Wo (Mine.hd0.heap_1 w.params) b) (C : Cx A 1 3) (S : St b e g L h l n) (H : Shape w.params g v nk vs) (hh : HandIn vs) (hz : vs.length ≤ 1000)
    (k : ∀ a j g' h' tk', (∀ a o, g a = some o → g' a = some o) → g' a = some (listO vs j) → St b e g' L h' l n → Q (.ref a) ⟨h', gs, dr, tk', os⟩) :
    wpAny (model prog w) A (getMethod v "parts" pl) (fun fx s₂ => wpAny (model prog w) A (callWith pos fx.1 fx.2 (backTo pos (starEach [] env)) []) Q E s₂) E ⟨h, gs, dr, tk, os⟩ := by
  have P : Pre b g h [] := S.pre [] (fun _ q => nomatch q) List.nodup_nil
  have fin : ∀ a j g' h' tk', Fin ⟨h, g, []⟩ g' h' [] → (∀ a o, g a = some o → g' a = some o) → g' a = some (listO vs j) → Q (.ref a) ⟨h', gs, dr, tk', os⟩ := fun a j g' h' tk' F hs ha => k a j g' h' tk' hs ha (St.back (n1 := []) (n' := []) S F rfl)
  cases H with
  | const I c => exact r_method W S I (by k_is) (by k_is) (by k_is) rfl (r_meth0 W S (by k_is) (parts_leaf W C P fin))
  | loc I => exact r_method W S I (by k_is) (by k_is) (by k_is) rfl (r_meth0 W S (by k_is) (parts_leaf W C P fin))
  | set I => exact r_method W S I (by k_is) (by k_is) (by k_is) rfl (r_meth0 W S (by k_is) (parts_set W C P I hh.1 fin))
  | ite I => exact r_method W S I (by k_is) (by k_is) (by k_is) rfl (r_meth0 W S (by k_is) (parts_ite W C P I hh.1 hh.2.1 hh.2.2.1 fin))
  | lam I _ _ _ => exact r_method W S I (by k_is) (by k_is) (by k_is) rfl (r_meth0 W S (by k_is) (parts_lam W C P I hh.1 fin))
  | call I hL => exact r_method W S I (by k_is) (by k_is) (by k_is) rfl (r_meth0 W S (by k_is) (parts_call W C P I hL (by simp only [List.length_cons] at hz; lia) hh.1 fin))
  | seq I hL => exact r_method W S I (by k_is) (by k_is) (by k_is) rfl (r_meth0 W S (by k_is) (parts_seq W C P I hL hz fin))
  | prim I hL => exact r_method W S I (by k_is) (by k_is) (by k_is) rfl (r_meth0 W S (by k_is) (parts_prim W C P I hL hz fin))
end
section
variable {prog : Program} {w : World} {A : Around} {E : Value → Shared → Prop} {gs : Array GenState} {dr : Drawn} {tk : Tok} {os : OsState}
variable {b : Heap} {e : Ent} {g : GH} {L : Addr} {h : Heap} {l : List (Str × Value)} {n n1 : List (Addr × Obj)} {env : Env} {sc : Scope} {cl : List (Str × Addr)}
theorem St.pre0 (S : St b e g L h l n) : Pre b g h [] := S.pre [] (fun _ q => nomatch q) List.nodup_nil
theorem St.back0 {g' : GH} {h' : Heap} (S : St b e g L h l n) (F : Fin ⟨h, g, []⟩ g' h' []) : St b e g' L h' l n := St.back (n1 := []) (n' := []) S F rfl
theorem with_set {Q : Value → Shared → Prop} {x lw : Addr} {t1 t2 i u v1 w1 kk} (W : Wo (Mine.hd0.heap_1 w.params) b) (C : Cx A 3 7) (P : Pre b g h []) (I : GInst g x 118 [ent w.params "number" t1 (.int i u), ent w.params "value" t2 v1] 2) (hL : g lw = some (listO [w1] kk))
    (k : ∀ y g' h' tk', Fin ⟨h, g, []⟩ g' h' [] → (∀ a o, g a = some o → g' a = some o) → Shape w.params g' y (.set i) [w1] → Q y ⟨h', gs, dr, tk', os⟩) :
    wpAny (model prog w) A (call (.ref 115) [.ref x, .ref lw]) Q E ⟨h, gs, dr, tk, os⟩ := by
  refine r_call (d := 2) (u := 4) (binds := [("self", .ref x), ("parts", .ref lw)]) (l := [("self", .ref x), ("parts", .ref lw)]) W C P (by k_is) (by k_is) rfl (by rfl) (.cons rfl (.cons rfl .nil)) ?_
  intro A' env L h' tk' C' N S E'
  (walk_at "un"; iterate 8 (walk1; walk_at "un"))
  refine r_attr W S I rfl (by k_is) (by k_is) (by k_is) (by k_is) (by first | assumption | k_handed) ?_
  intro _
  (walk_at "un"; iterate 4 (walk1; walk_at "un"))
  refine r_item (S.isListG hL) (by decide) (by decide) (v := w1) rfl ?_
  (walk_at "un"; iterate 2 (walk1; walk_at "un"))
  refine mk_setlocal W C' S.pre0 ?_
  intro y s1 s2 g1 h1 tk1 F hs J
  have S' := S.back0 F
  (walk_at "un"); exact k _ _ _ _ (S'.fin _ fun _ q => q) hs (.set J)
theorem with_ite {Q : Value → Shared → Prop} {x lw : Addr} {w1 w2 w3 kk} (W : Wo (Mine.hd0.heap_1 w.params) b) (C : Cx A 3 7) (P : Pre b g h []) (hL : g lw = some (listO [w1, w2, w3] kk))
    (k : ∀ y g' h' tk', Fin ⟨h, g, []⟩ g' h' [] → (∀ a o, g a = some o → g' a = some o) → Shape w.params g' y .ite [w1, w2, w3] → Q y ⟨h', gs, dr, tk', os⟩) :
    wpAny (model prog w) A (call (.ref 148) [.ref x, .ref lw]) Q E ⟨h, gs, dr, tk, os⟩ := by
  refine r_call (d := 2) (u := 4) (binds := [("self", .ref x), ("parts", .ref lw)]) (l := [("self", .ref x), ("parts", .ref lw)]) W C P (by k_is) (by k_is) rfl (by rfl) (.cons rfl (.cons rfl .nil)) ?_
  intro A' env L h' tk' C' N S E'
  (walk_at "un"; iterate 5 (walk1; walk_at "un"))
  (walk_at "un"; iterate 4 (walk1; walk_at "un"))
  refine r_item (S.isListG hL) (by decide) (by decide) (v := w1) rfl ?_
  (walk_at "un"; iterate 4 (walk1; walk_at "un"))
  refine r_item (S.isListG hL) (by decide) (by decide) (v := w2) rfl ?_
  (walk_at "un"; iterate 4 (walk1; walk_at "un"))
  refine r_item (S.isListG hL) (by decide) (by decide) (v := w3) rfl ?_
  (walk_at "un"; iterate 2 (walk1; walk_at "un"))
  refine mk_ite W C' S.pre0 ?_
  intro y s1 s2 s3 g1 h1 tk1 F hs J
  have S' := S.back0 F
  (walk_at "un"); exact k _ _ _ _ (S'.fin _ fun _ q => q) hs (.ite J)
theorem with_lam {Q : Value → Shared → Prop} {x lw lp : Addr} {t1 t2 t3 t4 i r u1 u3 v4 w1 kk pvs kp ps} (W : Wo (Mine.hd0.heap_1 w.params) b) (C : Cx A 3 7) (P : Pre b g h []) (I : GInst g x 198 [ent w.params "label" t1 (.int i u1), ent w.params "params" t2 (.ref lp), ent w.params "rest" t3 (.int r u3), ent w.params "body" t4 v4] 4) (hp : g lp = some (listO pvs kp)) (hi : Ints pvs ps) (hps : ps.length ≤ 100) (hL : g lw = some (listO [w1] kk))
    (k : ∀ y g' h' tk', Fin ⟨h, g, []⟩ g' h' [] → (∀ a o, g a = some o → g' a = some o) → Shape w.params g' y (.lam i ps r) [w1] → Q y ⟨h', gs, dr, tk', os⟩) :
    wpAny (model prog w) A (call (.ref 181) [.ref x, .ref lw]) Q E ⟨h, gs, dr, tk, os⟩ := by
  refine r_call (d := 2) (u := 4) (binds := [("self", .ref x), ("parts", .ref lw)]) (l := [("self", .ref x), ("parts", .ref lw)]) W C P (by k_is) (by k_is) rfl (by rfl) (.cons rfl (.cons rfl .nil)) ?_
  intro A' env L h' tk' C' N S E'
  (walk_at "un"; iterate 8 (walk1; walk_at "un"))
  refine r_attr W S I rfl (by k_is) (by k_is) (by k_is) (by k_is) (by first | assumption | k_handed) ?_
  intro _
  (walk_at "un"; iterate 3 (walk1; walk_at "un"))
  refine r_attr W S I rfl (by k_is) (by k_is) (by k_is) (by k_is) (by first | assumption | k_handed) ?_
  intro _
  (walk_at "un"; iterate 3 (walk1; walk_at "un"))
  refine r_attr W S I rfl (by k_is) (by k_is) (by k_is) (by k_is) (by first | assumption | k_handed) ?_
  intro _
  (walk_at "un"; iterate 4 (walk1; walk_at "un"))
  refine r_item (S.isListG hL) (by decide) (by decide) (v := w1) rfl ?_
  (walk_at "un"; iterate 2 (walk1; walk_at "un"))
  refine mk_lam W C' S.pre0 ?_
  intro y s1 s2 s3 s4 g1 h1 tk1 F hs J
  have S' := S.back0 F
  (walk_at "un"); exact k _ _ _ _ (S'.fin _ fun _ q => q) hs (.lam J (hs _ _ hp) hi hps)
theorem with_seq {Q : Value → Shared → Prop} {x lw : Addr} {ws kk} (W : Wo (Mine.hd0.heap_1 w.params) b) (C : Cx A 3 7) (P : Pre b g h []) (hL : g lw = some (listO ws kk))
    (k : ∀ y g' h' tk', Fin ⟨h, g, []⟩ g' h' [] → (∀ a o, g a = some o → g' a = some o) → Shape w.params g' y .seq ws → Q y ⟨h', gs, dr, tk', os⟩) :
    wpAny (model prog w) A (call (.ref 261) [.ref x, .ref lw]) Q E ⟨h, gs, dr, tk, os⟩ := by
  refine r_call (d := 2) (u := 4) (binds := [("self", .ref x), ("parts", .ref lw)]) (l := [("self", .ref x), ("parts", .ref lw)]) W C P (by k_is) (by k_is) rfl (by rfl) (.cons rfl (.cons rfl .nil)) ?_
  intro A' env L h' tk' C' N S E'
  (walk_at "un"; iterate 9 (walk1; walk_at "un"))
  refine mk_seq W C' S.pre0 ?_
  intro y s1 g1 h1 tk1 F hs J
  have S' := S.back0 F
  (walk_at "un"); exact k _ _ _ _ (S'.fin _ fun _ q => q) hs (.seq J (hs _ _ hL))
theorem with_prim {Q : Value → Shared → Prop} {x lw : Addr} {t1 t2 i u v2 ws kk} (W : Wo (Mine.hd0.heap_1 w.params) b) (C : Cx A 3 7) (P : Pre b g h []) (I : GInst g x 297 [ent w.params "op" t1 (.int i u), ent w.params "operands" t2 v2] 2) (hL : g lw = some (listO ws kk))
    (k : ∀ y g' h' tk', Fin ⟨h, g, []⟩ g' h' [] → (∀ a o, g a = some o → g' a = some o) → Shape w.params g' y (.prim i) ws → Q y ⟨h', gs, dr, tk', os⟩) :
    wpAny (model prog w) A (call (.ref 294) [.ref x, .ref lw]) Q E ⟨h, gs, dr, tk, os⟩ := by
  refine r_call (d := 2) (u := 4) (binds := [("self", .ref x), ("parts", .ref lw)]) (l := [("self", .ref x), ("parts", .ref lw)]) W C P (by k_is) (by k_is) rfl (by rfl) (.cons rfl (.cons rfl .nil)) ?_
  intro A' env L h' tk' C' N S E'
  (walk_at "un"; iterate 8 (walk1; walk_at "un"))
  refine r_attr W S I rfl (by k_is) (by k_is) (by k_is) (by k_is) (by first | assumption | k_handed) ?_
  intro _
  (walk_at "un"; iterate 4 (walk1; walk_at "un"))
  refine mk_prim W C' S.pre0 ?_
  intro y s1 s2 g1 h1 tk1 F hs J
  have S' := S.back0 F
  (walk_at "un"); exact k _ _ _ _ (S'.fin _ fun _ q => q) hs (.prim J (hs _ _ hL))
theorem with_call {Q : Value → Shared → Prop} {x lw : Addr} {w1 ws kk} (W : Wo (Mine.hd0.heap_1 w.params) b) (C : Cx A 3 7) (P : Pre b g h []) (hL : g lw = some (listO (w1 :: ws) kk)) (hz : ws.length ≤ 1000)
    (k : ∀ y g' h' tk', Fin ⟨h, g, []⟩ g' h' [] → (∀ a o, g a = some o → g' a = some o) → Shape w.params g' y .call (w1 :: ws) → Q y ⟨h', gs, dr, tk', os⟩) :
    wpAny (model prog w) A (call (.ref 228) [.ref x, .ref lw]) Q E ⟨h, gs, dr, tk, os⟩ := by
  refine r_call (d := 2) (u := 4) (binds := [("self", .ref x), ("parts", .ref lw)]) (l := [("self", .ref x), ("parts", .ref lw)]) W C P (by k_is) (by k_is) rfl (by rfl) (.cons rfl (.cons rfl .nil)) ?_
  intro A' env L h' tk' C' N S E'
  (walk_at "un"; iterate 5 (walk1; walk_at "un"))
  (walk_at "un"; iterate 4 (walk1; walk_at "un"))
  refine r_item (S.isListG hL) (by decide) (by decide) (v := w1) rfl ?_
  (walk_at "un"; iterate 1 (walk1; walk_at "un"))
  (walk_at "un"; iterate 2 (walk1; walk_at "un"))
  refine r_slc S (S.isL (.inr hL)) (by simp only [List.length_cons]; rw [sizeLine_eq]; lia) .int .none (pick_from (w1 :: ws) 1 (by decide) (by simp only [List.length_cons]; lia)) ?_
  intro a h1 tk1 ha S1
  obtain ⟨g2, S2, hs2, hL2⟩ := S1.freeze1 ha
  clear S S1
  (walk_at "un"; iterate 2 (walk1; walk_at "un"))
  refine mk_call W C' S2.pre0 ?_
  intro y s1 s2 g1 h1 tk1 F hs J
  have S' := S2.back0 F
  (walk_at "un"); exact k _ _ _ _ (S'.fin _ fun _ q => q) (fun a o q => hs a o (hs2 a o q)) (.call J (hs _ _ hL2))
end
section
variable {prog : Program} {w : World} {A : Around} {E : Value → Shared → Prop} {gs : Array GenState} {dr : Drawn} {tk : Tok} {os : OsState}
variable {b : Heap} {g : GH} {h : Heap} {n : List (Addr × Obj)}
set_option maxHeartbeats 1000000 in
theorem new_spec {Q : Value → Shared → Prop} {st : Addr} {vs : List Value} {kk : Nat} {i x : Int} {t t' : Tok} (W : Wo (Mine.hd0.heap_1 w.params) b) (C : Cx A 1 3) (P : Pre b g h [(st, listO vs kk)]) (h0 : 0 ≤ i) (h1 : i < vs.length) (h2 : i < 2 ^ 63) (hx : vs[i.toNat]? = some (.int x t))
    (k : ∀ u g' h' tk', Fin ⟨h, g, [st]⟩ g' h' [(st, listO (vs.set i.toNat (.int (x + 1) u)) kk)] → Q (.int (x + 1) u) ⟨h', gs, dr, tk', os⟩) :
    wpAny (model prog w) A (call (.ref 755) [.ref st, .int i t']) Q E ⟨h, gs, dr, tk, os⟩ := by
  refine r_call (d := 0) (u := 0) (binds := [("_law_state", .ref st), ("_law_at", .int i t')]) (l := [("_law_state", .ref st), ("_law_at", .int i t')]) W C P (by k_is) (by k_is) rfl (by rfl) (.cons rfl (.cons rfl .nil)) ?_
  intro A' env L h' tk' C' N S E'
  (walk_at "un"; iterate 6 (walk1; walk_at "un"))
  refine r_item (S.isList (.head _)) h0 h2 hx ?_
  (walk_at "un"; iterate 4 (walk1; walk_at "un"))
  refine r_setitem S .head h0 h1 h2 ?_
  clear S; intro h' S
  try dsimp only
  (walk_at "un"; iterate 5 (walk1; walk_at "un"))
  refine r_item (S.isList (.head _)) h0 h2 (by rw [List.getElem?_set_self (by first | decide | lia)]) ?_
  (walk_at "un"); exact k _ _ _ _ (S.fin _ fun _ q => q)
end
section
variable {prog : Program} {w : World} {A : Around} {E : Value → Shared → Prop} {gs : Array GenState} {dr : Drawn} {tk : Tok} {os : OsState}
variable {b : Heap} {e : Ent} {g : GH} {L : Addr} {h : Heap} {l : List (Str × Value)} {n n1 : List (Addr × Obj)} {env : Env} {sc : Scope} {cl : List (Str × Addr)}
theorem one_spec {Q : Value → Shared → Prop} {dk a : Addr} {dvs vs : List Value} {is : List Int} {kk j : Nat} (W : Wo (Mine.hd0.heap_1 w.params) b) (C : Cx A 2 7) (P : Pre b g h [(dk, listO dvs kk)]) (hd : Deck dvs is)
    (hL : g a = some (listO vs j)) (h0 : 0 < vs.length) (h1 : vs.length < 1000)
    (k : ∀ (i : Nat) v dvs' is' kk' g' h' tk', vs[i]? = some v → Deck dvs' is' → Fin ⟨h, g, [dk]⟩ g' h' [(dk, listO dvs' kk')] → Q v ⟨h', gs, dr, tk', os⟩) :
    wpAny (model prog w) A (call (.ref 748) [.ref dk, .ref a]) Q E ⟨h, gs, dr, tk, os⟩ := by
  refine r_call (d := 1) (u := 4) (binds := [("_law_deck", .ref dk), ("_law_items", .ref a)]) (l := [("_law_deck", .ref dk), ("_law_items", .ref a)]) W C P (by k_is) (by k_is) rfl (by rfl) (.cons rfl (.cons rfl .nil)) ?_
  intro A' env L h' tk' C' N S E'
  (walk_at "un"; iterate 3 (walk1; walk_at "un"))
  (walk_at "un"; iterate 7 (walk1; walk_at "un"))
  (walk_at "un"; iterate 6 (walk1; walk_at "un"))
  refine r_len (S.isListG hL) (by rw [sizeLine_eq]; lia) ?_
  intro t1 tk1
  (walk_at "un"; iterate 2 (walk1; walk_at "un"))
  refine draw_spec W (C'.mono (by decide) (by decide)) (S.pre [(dk, listO dvs kk)] (fun _ q => q) S.nd) hd (by first | decide | lia) (by first | decide | lia) ?_
  intro r u dvs' is' kk' g1 h1 tk1 hr0 hr1 hd' F
  have S1 := St.back (n1 := [(dk, listO dvs kk)]) (n2 := []) S F rfl
  clear S
  have hr : r.toNat < vs.length := by lia
  refine r_item (S1.isListG (F.gsub _ _ hL)) hr0 (by first | decide | lia) (List.getElem?_eq_getElem hr) ?_
  (walk_at "un"); exact k _ _ _ _ _ _ _ _ (List.getElem?_eq_getElem hr) hd' (S1.fin _ fun _ q => q)
end
theorem ite_cps {α : Type} {c : Prop} [Decidable c] {M : Model} {A : Around} {E : Value → Shared → Prop} {s : Shared} {x y : Sem α} {K : α → Shared → Prop} {H : (α → Shared → Prop) → Prop} (h1 : c → ∀ R, H R → wpAny M A x R E s) (h2 : ¬c → ∀ R, H R → wpAny M A y R E s) (h : H K) :
    (if c then wpAny M A x K E s else wpAny M A y K E s) := by
  by_cases q : c
  · rw [if_pos q]; exact h1 q K h
  · rw [if_neg q]; exact h2 q K h
section
variable {prog : Program} {w : World} {A : Around} {E : Value → Shared → Prop} {gs : Array GenState} {dr : Drawn} {tk : Tok} {os : OsState}
variable {b : Heap} {e : Ent} {g : GH} {L : Addr} {h : Heap} {l : List (Str × Value)} {n n1 : List (Addr × Obj)} {env : Env} {sc : Scope} {cl : List (Str × Addr)}
noncomputable abbrev cnts (m q : Int) (t1 t2 : Tok) (k : Nat) : Obj := listO [.int m t1, .int q t2] k
/-- what the builder of nodes keeps to, at a depth -/
noncomputable def NodeSpec (prog : Program) (w : World) (d : Nat) : Prop :=
  ∀ {A : Around} {E : Value → Shared → Prop} {gs : Array GenState} {dr : Drawn} {tk : Tok} {os : OsState} {b : Heap} {g : GH} {h : Heap} {Q : Value → Shared → Prop} {dk st kn : Addr} {dvs kvs : List Value} {is known : List Int} {kk sk kj : Nat} {m q : Int} {t1 t2 td : Tok},
    Wo (Mine.hd0.heap_1 w.params) b → Cx A (10 + 4 * d) (40 + 20 * d) → Pre b g h [(dk, listO dvs kk), (st, cnts m q t1 t2 sk)] → Deck dvs is → g kn = some (listO kvs kj) → Ints kvs known → known.length + 3 * d ≤ 50 → (∀ n ∈ known, n ≤ m) → 0 ≤ m → 0 ≤ q →
    (∀ v T dvs' is' kk' m' q' t1' t2' sk' g' h' tk', Made known m q m' q' d T → NodeAt w.params g' v T → Deck dvs' is' → Fin ⟨h, g, [dk, st]⟩ g' h' [(dk, listO dvs' kk'), (st, cnts m' q' t1' t2' sk')] → Q v ⟨h', gs, dr, tk', os⟩) →
    wpAny (model prog w) A (call (.ref 770) [.ref dk, .ref st, .ref kn, .int d td]) Q E ⟨h, gs, dr, tk, os⟩
theorem lam_spec {Q : Value → Shared → Prop} {d : Nat} {dk st kn : Addr} {dvs kvs : List Value} {is known : List Int} {kk sk kj : Nat} {m q : Int} {t1 t2 td tm : Tok} {many : Nat} {rest : Bool} (IH : NodeSpec prog w d)
    (W : Wo (Mine.hd0.heap_1 w.params) b) (C : Cx A (11 + 4 * d) (44 + 20 * d)) (P : Pre b g h [(dk, listO dvs kk), (st, cnts m q t1 t2 sk)]) (hd : Deck dvs is) (hk : g kn = some (listO kvs kj)) (hki : Ints kvs known) (hkl : known.length + 3 * (d + 1) ≤ 50) (hkm : ∀ n ∈ known, n ≤ m) (h0 : 0 ≤ m) (h1 : 0 ≤ q) (hmany : many ≤ 2)
    (k : ∀ v T m1 dvs' is' kk' m' q' t1' t2' sk' g' h' tk', MadeF known m q m' q' d T m1 → NodeAt w.params g' v T → Deck dvs' is' → Fin ⟨h, g, [dk, st]⟩ g' h' [(dk, listO dvs' kk'), (st, cnts m' q' t1' t2' sk')] → Q v ⟨h', gs, dr, tk', os⟩) :
    wpAny (model prog w) A (call (.ref 765) [.ref dk, .ref st, .ref kn, .int (d + 1 : Nat) td, .int many tm, .bool rest]) Q E ⟨h, gs, dr, tk, os⟩ := by
  refine r_callC (d := 10 + 4 * d) (u := 41 + 20 * d) (binds := [("_law_deck", .ref dk), ("_law_state", .ref st), ("_law_known", .ref kn), ("_law_deep", .int (d + 1 : Nat) td), ("_law_many", .int many tm), ("_law_has_rest", .bool rest)]) (l := [("_law_deck", .ref dk), ("_law_known", .ref kn), ("_law_deep", .int (d + 1 : Nat) td), ("_law_many", .int many tm), ("_law_has_rest", .bool rest)]) W (C.mono (by first | decide | lia) (by first | decide | lia)) P (by k_is) (by k_is) rfl (by rfl) (.cons rfl (.cons rfl (.cons rfl (.cons rfl (.cons rfl .nil))))) ?_
  intro A' env L h' tk' g1 C' N hs S hc E'
  have hcs : CellIs g1 (L + 1) (.ref st) := hc "_law_state" (L + 1) (.ref st) rfl rfl
  replace N : En env _ [("_law_state", L + 1)] L := N
  replace hk := hs _ _ hk
  clear hc
  (walk_at "un"; iterate 1 (walk1; walk_at "un"))
  refine r_assigncomp (cl' := [("_law_state", L + 1)]) (env_cells N.ce fun _ => rfl) (env_scope N.hs fun _ => rfl) ?_
  (walk_at "un"; iterate 6 (walk1; walk_at "un"))
  refine r_rangeN S ?_
  clear S; intro rr h1 tk1 ta tb tc hr S
  refine r_crange_a (σ := Int × Tok × Nat) (fun i y ys _ => y.1 = m + i ∧ Ints ys (numsL m i)) (fun y => [(dk, listO dvs kk), (st, cnts y.1 q y.2.1 t2 y.2.2)]) (x0 := (m, t1, sk)) C' N (by rfl) (by rfl) S hr (by first | decide | lia) ⟨by lia, trivial⟩ ?_ ?_
  · intro i v y ys g' C D oL h2 tk2 e2 E2 R_ hR_ hi hj hs2 N2 S2
    have hcs2 := hcs.mono hs2
    (walk_at "un"; iterate 9 (walk1; walk_at "un"))
    obtain ⟨y1, y2, y3⟩ := y
    obtain ⟨rfl, hj⟩ := hj
    dsimp only at S2
    refine new_spec (i := 0) (x := m + i) W (C'.mono (by first | decide | lia) (by first | decide | lia)) (St.prep (p := [(D, _), (L, oL), (dk, _)]) (n1 := [(st, _)]) (q := []) S2) (by decide) (by simp) (by decide) (by rfl) ?_
    intro u g3 h3 tk3 F
    have S3 := St.backp (p := [(D, _), (L, oL), (dk, _)]) (n1 := [(st, _)]) (q := []) S2 F rfl
    (walk_at "un"); exact ⟨(m + i + 1, u, y3), g3, h3, tk3, _, ⟨by simp only [Int.natCast_add]; lia, by rw [numsL_succ]; exact Ints.append hj ⟨⟨u, by congr 1; lia⟩, trivial⟩⟩, S3, rfl⟩
  · rintro D ⟨y1, y2, y3⟩ ys g2 h2 tk2 ⟨e1, hj⟩ hs2 heD S2
    dsimp only at e1 S2
    subst e1
    clear S
    obtain ⟨g3, S, hs3, hD⟩ := S2.freeze1 heD
    have hk3 := hs3 _ _ (hs2 _ _ hk)
    have hcs3 := (hcs.mono hs2).mono hs3
    (walk_at "un"; iterate 6 (walk1; walk_at "un"))
    refine ite_cps (H := fun K => ∀ r t m1 u j g4 h4 tk4, m ≤ m1 → (∀ x ∈ binders (numsL m many) r, m < x ∧ x ≤ m1) → (if rest then 0 ≤ r else r = -1) → (∀ a o, g3 a = some o → g4 a = some o) → St b ⟨h, g, [dk, st]⟩ g4 L h4 [("_law_numbers", .ref D), ("_law_deck", .ref dk), ("_law_known", .ref kn), ("_law_deep", .int (d + 1 : Nat) td), ("_law_many", .int many tm), ("_law_has_rest", .bool rest)] [(dk, listO dvs kk), (st, cnts m1 q u t2 j)] → K (.int r t) ⟨h4, gs, dr, tk4, os⟩) ?_ ?_ ?_
    · intro hr K_ hK_
      (walk_at "un"; iterate 9 (walk1; walk_at "un"))
      refine new_spec (i := 0) (x := m + many) W (C'.mono (by first | decide | lia) (by first | decide | lia)) (St.prep (p := [(dk, _)]) (n1 := [(st, _)]) (q := []) S) (by decide) (by simp) (by decide) (by rfl) ?_
      intro u g4 h4 tk4 F
      have S4 := St.backp (p := [(dk, _)]) (n1 := [(st, _)]) (q := []) S F rfl
      (walk_at "un"); refine hK_ (m + many + 1) u (m + many + 1) u y3 g4 h4 tk4 (by lia) ?_ (by rw [if_pos hr]; lia) F.gsub S4
      intro x hx
      unfold binders at hx
      rw [if_pos (by first | decide | lia), List.mem_append, List.mem_singleton] at hx
      rcases hx with hx | hx
      · have := numsL_mem hx; lia
      · lia
    · intro hr K_ hK_
      (walk_at "un"; iterate 3 (walk1; walk_at "un"))
      (walk_at "un"); refine hK_ (-1) _ (m + many) y2 y3 _ _ _ (by lia) ?_ (by rw [if_neg hr]) (fun _ _ q => q) S
      intro x hx
      unfold binders at hx
      rw [if_neg (by first | decide | lia)] at hx
      exact numsL_mem hx
    · intro r tr m1 u j g4 h4 tk4 hm1 hbin hrr hs4 S4
      clear S S2
      have hk4 := hs4 _ _ hk3
      have hcs4 := hcs3.mono hs4
      (walk_at "un"; iterate 12 (walk1; walk_at "un"))
      (rename St _ _ _ _ _ _ _ => S)
      refine new_spec (i := 1) (x := q) W (C'.mono (by first | decide | lia) (by first | decide | lia)) (St.prep (p := [(dk, _)]) (n1 := [(st, _)]) (q := []) S) (by decide) (by simp) (by decide) (by rfl) ?_
      intro u2 g5 h5 tk5 F
      have S4 := St.backp (p := [(dk, _)]) (n1 := [(st, _)]) (q := []) S F rfl
      have hs5 := F.gsub
      dsimp only at hs5
      clear S F
      replace S4 : St b ⟨h, g, [dk, st]⟩ g5 L h5 _ [(dk, listO dvs kk), (st, cnts m1 (q + 1) u u2 j)] := S4
      have hk5 := hs5 _ _ hk4
      have hcs5 := hcs4.mono hs5
      have hD5 := hs5 _ _ (hs4 _ _ hD)
      (walk_at "un"; iterate 25 (walk1; walk_at "un"))
      (rename St _ _ _ _ _ _ _ => S)
      have hyl : ys.length = many := by have := Ints.length hj; rw [numsL_length] at this; exact this
      have hkvl := Ints.length hki
      refine r_addlist S (S.isL (.inr hk5)) (S.isL (.inr hD5)) (by rw [sizeLine_eq]; lia) ?_
      clear S; intro a1 h6 ha1 S
      (walk_at "un"; iterate 4 (walk1; walk_at "un"))
      refine ite_cps (H := fun K => ∀ a2 vs2 h7 tk7, vs2.length ≤ 1 → Ints (ys ++ vs2) (binders (numsL m many) r) → St b ⟨h, g, [dk, st]⟩ g5 L h7 [("_law_numbers", .ref D), ("_law_deck", .ref dk), ("_law_known", .ref kn), ("_law_deep", .int (d + 1 : Nat) td), ("_law_many", .int many tm), ("_law_has_rest", .bool rest)] [(a2, listO vs2 0), (a1, listO (kvs ++ ys) 0), (dk, listO dvs kk), (st, cnts m1 (q + 1) u u2 j)] → K (.ref a2) ⟨h7, gs, dr, tk7, os⟩) ?_ ?_ ?_
      · intro hr K_ hK_
        (walk_at "un"; iterate 5 (walk1; walk_at "un"))
        (rename St _ _ _ _ _ _ _ => S)
        (walk_at "un"); refine hK_ _ [.int r tr] _ _ (by simp) ?_ (S.loc' _ (.cons rfl (.cons rfl (.cons rfl (.cons rfl (.cons rfl (.cons rfl .nil)))))))
        unfold binders
        rw [if_pos (by rw [if_pos hr] at hrr; exact hrr)]
        exact Ints.append hj ⟨⟨_, rfl⟩, trivial⟩
      · intro hr K_ hK_
        (walk_at "un"; iterate 3 (walk1; walk_at "un"))
        (rename St _ _ _ _ _ _ _ => S)
        (walk_at "un"); refine hK_ _ [] _ _ (by simp) ?_ (S.loc' _ (.cons rfl (.cons rfl (.cons rfl (.cons rfl (.cons rfl (.cons rfl .nil)))))))
        unfold binders
        rw [if_neg (by rw [if_neg hr] at hrr; lia), List.append_nil]
        exact hj
      · intro a2 vs2 h7 tk7 hv2 hb2 S
        have hb2l := Ints.length hb2
        refine r_addlist S (S.isL (.inl (.tail _ (.head _)))) (S.isL (.inl (.head _))) (by rw [sizeLine_eq, List.length_append]; lia) ?_
        clear S; intro a3 h8 ha3 S
        obtain ⟨g8, S, hs8, hL8⟩ := S.freeze1 ha3
        replace S := S.drop1.drop1
        have hD8 := hs8 _ _ hD5
        (walk_at "un"; iterate 7 (walk1; walk_at "un"))
        rw [show ((d + 1 : Nat) : Int) - 1 = (d : Nat) by lia]
        refine IH W (C'.mono (by first | decide | lia) (by first | decide | lia)) (St.prep (p := []) (n1 := [(dk, _), (st, _)]) (q := []) S) hd hL8 (known := known ++ binders (numsL m many) r) ?_ ?_ ?_ (by first | decide | lia) (by first | decide | lia) ?_
        · rw [List.append_assoc]; exact Ints.append hki hb2
        · rw [List.length_append]
          have : (binders (numsL m many) r).length ≤ 3 := by rw [← hb2l, List.length_append]; lia
          lia
        · intro x hx
          rcases List.mem_append.mp hx with hx | hx
          · have := hkm x hx; lia
          · exact (hbin x hx).2
        intro v T dvs' is' kk' m' q' t1' t2' sk' g9 h9 tk9 hT hN9 hd9 F
        have S9 := St.backp (p := []) (n1 := [(dk, _), (st, _)]) (q := []) S F rfl
        clear S
        have hD9 := F.gsub _ _ hD8
        have hs9 := F.gsub
        dsimp only at hs9
        (walk_at "un"; iterate 2 (walk1; walk_at "un"))
        refine mk_lam W (C'.mono (by first | decide | lia) (by first | decide | lia)) S9.pre0 ?_
        intro x s1 s2 s3 s4 g10 h10 tk10 F10 hs10 J
        have S10 := S9.back0 F10
        obtain ⟨p1, p2, p3, p4, p5, p6⟩ := Made.lam hm1 hbin hkm hT
        have q1 := hT.le1; have q2 := hT.le2; have q3 := hT.size; have q4 := hT.ht
        (walk_at "un"); refine k (.ref x) (Tree.node (.lam (q + 1) (numsL m many) r) [T]) m1 dvs' is' kk' m' q' t1' t2' sk' g10 h10 tk10 ⟨⟨hm1, q1⟩, by lia, p1, p2, p3, p4, by lia, by lia, ⟨_, _, _, _, rfl, numsL_nodup m many, fun n hn => hbin n ?_⟩⟩ (.mk (.lam J (hs10 _ _ hD9) hj (by rw [numsL_length]; lia)) (.cons (hN9.mono hs10) .nil)) hd9 (S10.fin _ fun _ q => q)
        unfold binders
        split
        · exact List.mem_append_left _ hn
        · exact hn
end
section
variable {prog : Program} {w : World} {A : Around} {E : Value → Shared → Prop} {gs : Array GenState} {dr : Drawn} {tk : Tok} {os : OsState}
variable {b : Heap} {e : Ent} {g : GH} {L : Addr} {h : Heap} {l : List (Str × Value)} {n n1 : List (Addr × Obj)} {env : Env} {sc : Scope} {cl : List (Str × Addr)}
theorem CVal.mkNum {g : GH} {i : _root_.Fin 10} {t : Tok} : CVal g (.num i) (.int (i.val : Nat) t) := ⟨t, rfl⟩
structure BS where
  vs : List Value
  is : List Int
  kk : Nat
  m : Int
  q : Int
  t1 : Tok
  t2 : Tok
  sk : Nat
theorem Ints.at : ∀ {vs is} {i : Nat} {v : Value}, Ints vs is → vs[i]? = some v → ∃ x t, v = .int x t ∧ x ∈ is
  | u :: _, y :: _, 0, _, h, q => by
    cases q
    obtain ⟨t, e⟩ := h.1
    (walk_at "un"); exact ⟨y, t, e, .head _⟩
  | _ :: vs, _ :: is, i + 1, v, h, q => by
    obtain ⟨x, t, e, m⟩ := Ints.at (i := i) h.2 (by simpa using q)
    (walk_at "un"); exact ⟨x, t, e, .tail _ m⟩
  | [], [], _, _, _, q => by simp at q
theorem Ints.drop : ∀ (i : Nat) {vs : List Value} {is : List Int}, Ints vs is → Ints (vs.drop i) (is.drop i)
  | 0, _, _, h => h
  | i + 1, _ :: _, _ :: _, h => Ints.drop i h.2
  | i + 1, [], [], h => h
  | i + 1, [], _ :: _, h => h.elim
  | i + 1, _ :: _, [], h => h.elim
theorem pick_last3 (vs : List Value) : slicePick vs.toArray (some (-3)) none none = (vs.drop (vs.length - 3)).toArray := by
  have := slicePick_last vs.toArray 3 (by decide)
  simpa using this
set_option maxHeartbeats 8000000 in
theorem let_spec {Q : Value → Shared → Prop} {d : Nat} {dk st kn : Addr} {dvs kvs : List Value} {is known : List Int} {kk sk kj : Nat} {m q : Int} {t1 t2 td : Tok} (IH : NodeSpec prog w d)
    (W : Wo (Mine.hd0.heap_1 w.params) b) (C : Cx A (12 + 4 * d) (50 + 20 * d)) (P : Pre b g h [(dk, listO dvs kk), (st, cnts m q t1 t2 sk)]) (hd : Deck dvs is) (hk : g kn = some (listO kvs kj)) (hki : Ints kvs known) (hkl : known.length + 3 * (d + 1) ≤ 50) (hkm : ∀ n ∈ known, n ≤ m) (h0 : 0 ≤ m) (h1 : 0 ≤ q)
    (k : ∀ v T dvs' is' kk' m' q' t1' t2' sk' g' h' tk', Made known m q m' q' (d + 1) T → NodeAt w.params g' v T → Deck dvs' is' → Fin ⟨h, g, [dk, st]⟩ g' h' [(dk, listO dvs' kk'), (st, cnts m' q' t1' t2' sk')] → Q v ⟨h', gs, dr, tk', os⟩) :
    wpAny (model prog w) A (call (.ref 775) [.ref dk, .ref st, .ref kn, .int (d + 1 : Nat) td]) Q E ⟨h, gs, dr, tk, os⟩ := by
  refine r_callC (d := 11 + 4 * d) (u := 47 + 20 * d) (binds := [("_law_deck", .ref dk), ("_law_state", .ref st), ("_law_known", .ref kn), ("_law_deep", .int (d + 1 : Nat) td)]) (l := []) W (C.mono (by first | decide | lia) (by first | decide | lia)) P (by k_is) (by k_is) rfl (by rfl) .nil ?_
  intro A' env L h' tk' g1 C' N hs S hc E'
  have hcd : CellIs g1 (L + 1) (.ref dk) := hc "_law_deck" (L + 1) (.ref dk) rfl rfl
  have hcs : CellIs g1 (L + 2) (.ref st) := hc "_law_state" (L + 2) (.ref st) rfl rfl
  have hck : CellIs g1 (L + 3) (.ref kn) := hc "_law_known" (L + 3) (.ref kn) rfl rfl
  have hcp : CellIs g1 (L + 4) (.int (d + 1 : Nat) td) := hc "_law_deep" (L + 4) (.int (d + 1 : Nat) td) rfl rfl
  replace N : En env _ [("_law_deep", L + 4), ("_law_known", L + 3), ("_law_state", L + 2), ("_law_deck", L + 1)] L := N
  replace hk := hs _ _ hk
  clear hc
  (walk_at "un"; iterate 1 (walk1; walk_at "un"))
  refine Assign_Tuple_swapped (names := ["_law_many", "_law_has_rest"]) ?_ (hw := env_scope N.hs fun _ => rfl)
  (walk_at "un"; iterate 11 (walk1; walk_at "un"))
  refine draw_spec W (C'.mono (by first | decide | lia) (by first | decide | lia)) (St.prep (p := []) (n1 := [(dk, _)]) (q := [(st, _)]) S) hd (by first | decide | lia) (by first | decide | lia) ?_
  intro r1 u1 dvs1 is1 kk1 g2 h2 tk2 hr1 hr1' hd1 F
  have S2 := St.backp (p := []) (n1 := [(dk, _)]) (q := [(st, _)]) S F rfl
  have hs2 := F.gsub
  dsimp only at hs2
  (replace hcd := hcd.mono hs2); (replace hcs := hcs.mono hs2); (replace hck := hck.mono hs2); (replace hcp := hcp.mono hs2); (replace hk := hs2 _ _ hk)
  clear S F hd
  (walk_at "un"; iterate 11 (walk1; walk_at "un"))
  refine draw_spec W (C'.mono (by first | decide | lia) (by first | decide | lia)) (St.prep (p := []) (n1 := [(dk, _)]) (q := [(st, _)]) S2) hd1 (by first | decide | lia) (by first | decide | lia) ?_
  intro r2 u2 dvs2 is2 kk2 g3 h3 tk3 hr2 hr2' hd2 F
  have S := St.backp (p := []) (n1 := [(dk, _)]) (q := [(st, _)]) S2 F rfl
  have hs3 := F.gsub
  dsimp only at hs3
  (replace hcd := hcd.mono hs3); (replace hcs := hcs.mono hs3); (replace hck := hck.mono hs3); (replace hcp := hcp.mono hs3); (replace hk := hs3 _ _ hk)
  clear S2 F hd1
  (walk_at "un"; iterate 4 (walk1; walk_at "un"))
  rename_i a4 h4 g4 hs4 hT4 S4
  (replace hcd := hcd.mono hs4); (replace hcs := hcs.mono hs4); (replace hck := hck.mono hs4); (replace hcp := hcp.mono hs4); (replace hk := hs4 _ _ hk)
  refine r_swap2 C' N S4 hT4 (by rfl) (by rfl) ?_
  clear S4; intro h5 tk5 S
  obtain ⟨many, rfl⟩ := Int.eq_ofNat_of_zero_le hr1
  replace hr1' : many ≤ 2 := by lia
  (walk_at "un"; iterate 19 (walk1; walk_at "un"))
  refine lam_spec IH W (C'.mono (by first | decide | lia) (by first | decide | lia)) (St.prep (p := []) (n1 := [(dk, _), (st, _)]) (q := []) S) hd2 hk hki hkl hkm h0 h1 hr1' ?_
  intro vo T m1 dvs3 is3 kk3 m2 q2 t12 t22 sk2 g6 h6 tk6 hMT hNT hd3 F
  have S6 := St.backp (p := []) (n1 := [(dk, _), (st, _)]) (q := []) S F rfl
  have hs6 := F.gsub
  dsimp only at hs6
  (replace hcd := hcd.mono hs6); (replace hcs := hcs.mono hs6); (replace hck := hck.mono hs6); (replace hcp := hcp.mono hs6); (replace hk := hs6 _ _ hk)
  clear S F hd2
  (walk_at "un"; iterate 3 (walk1; walk_at "un"))
  (rename St _ _ _ _ _ _ _ => S)
  (walk_at "un"); refine x_cps (H := fun K => ∀ (more : Nat) t dvs4 is4 kk4 g7 h7 tk7, more ≤ 2 → Deck dvs4 is4 → (∀ a o, g6 a = some o → g7 a = some o) → St b ⟨h, g, [dk, st]⟩ g7 L h7 [("_law_own", vo), ("_law_many", .int many u1)] [(dk, listO dvs4 kk4), (st, cnts m2 q2 t12 t22 sk2)] → K (.int more t) ⟨h7, gs, dr, tk7, os⟩) ?_ ?_
  · intro K_ hK_; (walk_at "un"; iterate 6 (walk1; walk_at "un"))
    by_cases hr : (r2 == 0) = true
    · rw [if_pos hr]
      (refine ite_pos (by first | rfl | decide | assumption | simp) ?_)
      (walk_at "un"; iterate 9 (walk1; walk_at "un"))
      refine draw_spec W (C'.mono (by first | decide | lia) (by first | decide | lia)) (St.prep (p := []) (n1 := [(dk, _)]) (q := [(st, _)]) S) hd3 (by first | decide | lia) (by first | decide | lia) ?_
      intro r3 u3 dvs4 is4 kk4 g7 h7 tk7 a1 a2 hd4 F
      have S7 := St.backp (p := []) (n1 := [(dk, _)]) (q := [(st, _)]) S F rfl
      obtain ⟨more, rfl⟩ := Int.eq_ofNat_of_zero_le a1
      (walk_at "un"); exact hK_ more u3 dvs4 is4 kk4 g7 h7 tk7 (by first | decide | lia) hd4 F.gsub (S7.loc' _ (.cons rfl (.cons rfl .nil)))
    · rw [if_neg hr]
      (walk_at "un"; iterate 11 (walk1; walk_at "un"))
      refine draw_spec W (C'.mono (by first | decide | lia) (by first | decide | lia)) (St.prep (p := []) (n1 := [(dk, _)]) (q := [(st, _)]) S) hd3 (by first | decide | lia) (by first | decide | lia) ?_
      intro r3 u3 dvs4 is4 kk4 g7 h7 tk7 a1 a2 hd4 F
      have S7 := St.backp (p := []) (n1 := [(dk, _)]) (q := [(st, _)]) S F rfl
      have hs7 := F.gsub
      dsimp only at hs7
      (replace hcd := hcd.mono hs7); (replace hcs := hcs.mono hs7); (replace hck := hck.mono hs7); (replace hcp := hcp.mono hs7); (replace hk := hs7 _ _ hk)
      clear F
      (walk_at "un"; iterate 3 (walk1; walk_at "un"))
      by_cases hr3 : (r3 == 0) = true
      · rw [if_pos hr3]
        (refine ite_pos (by first | rfl | decide | assumption | simp) ?_)
        (walk_at "un"; iterate 9 (walk1; walk_at "un"))
        refine draw_spec W (C'.mono (by first | decide | lia) (by first | decide | lia)) (St.prep (p := []) (n1 := [(dk, _)]) (q := [(st, _)]) S7) hd4 (by first | decide | lia) (by first | decide | lia) ?_
        intro r4 u4 dvs5 is5 kk5 g8 h8 tk8 a1 a2 hd5 F
        have S8 := St.backp (p := []) (n1 := [(dk, _)]) (q := [(st, _)]) S7 F rfl
        obtain ⟨more, rfl⟩ := Int.eq_ofNat_of_zero_le a1
        (walk_at "un"); exact hK_ more u4 dvs5 is5 kk5 g8 h8 tk8 (by first | decide | lia) hd5 (fun a o q => F.gsub a o (hs7 a o q)) (S8.loc' _ (.cons rfl (.cons rfl .nil)))
      · rw [if_neg hr3]
        (walk_at "un"; iterate 1 (walk1; walk_at "un"))
        (refine ite_neg (by first | decide | assumption | simp) ?_)
        (walk_at "un"; iterate 1 (walk1; walk_at "un"))
        (walk_at "un"); exact hK_ 0 _ dvs4 is4 kk4 g7 _ _ (by first | decide | lia) hd4 hs7 (S7.loc' _ (.cons rfl (.cons rfl .nil)))
  · intro more t dvs4 is4 kk4 g7 h7 tk7 hmore hd4 hs7 S7
    clear S
    (replace hcd := hcd.mono hs7); (replace hcs := hcs.mono hs7); (replace hck := hck.mono hs7); (replace hcp := hcp.mono hs7); (replace hk := hs7 _ _ hk)
    (walk_at "un"; iterate 2 (walk1; walk_at "un"))
    refine r_assigncomp (cl' := [("_law_deck", L + 1)]) (env_cells N.ce fun _ => rfl) (env_scope N.hs fun _ => rfl) ?_
    (walk_at "un"; iterate 9 (walk1; walk_at "un"))
    rw [show ((many : Int) + more) = ((many + more : Nat) : Int) by lia]
    (rename St _ _ _ _ _ _ _ => S)
    refine r_rangeN S ?_
    clear S; intro rr h8 tk8 ta tb tc hr S
    refine r_crange_a (σ := List Value × List Int × Nat) (fun i y ys _ => Deck y.1 y.2.1 ∧ ys.length = i ∧ ∃ ws, Ints ys ws ∧ ∀ x ∈ ws, 0 ≤ x ∧ x ≤ 2) (fun y => [(dk, listO y.1 y.2.2), (st, cnts m2 q2 t12 t22 sk2)]) (x0 := (dvs4, is4, kk4)) C' N (by rfl) (by rfl) S hr (by first | decide | lia) ⟨hd4, rfl, [], trivial, fun _ q => nomatch q⟩ ?_ ?_
    · rintro i v ⟨y1, y2, y3⟩ ys g' C D oL h9 tk9 e9 E9 R_ hR_ hi ⟨hd9, hyl, ws, hws, hwr⟩ hs9 N9 S9
      dsimp only at S9 hd9
      have hcd9 := hcd.mono hs9
      (walk_at "un"; iterate 17 (walk1; walk_at "un"))
      rename_i a10 h10 ha10 S10
      obtain ⟨g11, S11, hs11, hL11⟩ := S10.freeze1 ha10
      refine one_spec W (C'.mono (by first | decide | lia) (by first | decide | lia)) (St.prep (p := [(D, _), (L, oL)]) (n1 := [(dk, _)]) (q := [(st, _)]) S11) hd9 hL11 (by simp) (by simp) ?_
      intro ix v dvs5 is5 kk5 g12 h12 tk12 hv hd5 F
      have S12 := St.backp (p := [(D, _), (L, oL)]) (n1 := [(dk, _)]) (q := [(st, _)]) S11 F rfl
      obtain ⟨x, tx, rfl, hx⟩ : ∃ x t, v = .int x t ∧ 0 ≤ x ∧ x ≤ 2 := by
        match ix, hv with
        | 0, hv => cases hv; exact ⟨_, _, rfl, by lia, by lia⟩
        | 1, hv => cases hv; exact ⟨_, _, rfl, by lia, by lia⟩
        | 2, hv => cases hv; exact ⟨_, _, rfl, by lia, by lia⟩
      (walk_at "un"); refine ⟨(dvs5, is5, kk5), g12, h12, tk12, _, ⟨hd5, by simp [hyl], ws ++ [x], Ints.append hws ⟨⟨tx, rfl⟩, trivial⟩, fun z hz => ?_⟩, S12, rfl⟩
      rcases List.mem_append.mp hz with hz | hz
      · exact hwr z hz
      · rw [List.mem_singleton.mp hz]; exact hx
    · rintro D ⟨y1, y2, y3⟩ ys g9 h9 tk9 ⟨hd9, hyl, ws, hws, hwr⟩ hs9 heD S9
      dsimp only at hd9 S9
      obtain ⟨g10, S10, hs10, hD⟩ := S9.freeze1 heD
      (replace hcd := hcd.mono hs9); (replace hcs := hcs.mono hs9); (replace hck := hck.mono hs9); (replace hcp := hcp.mono hs9); (replace hk := hs9 _ _ hk)
      (replace hcd := hcd.mono hs10); (replace hcs := hcs.mono hs10); (replace hck := hck.mono hs10); (replace hcp := hcp.mono hs10); (replace hk := hs10 _ _ hk)
      clear S S9
      (walk_at "un"; iterate 1 (walk1; walk_at "un"))
      refine r_assigncomp (cl' := [("_law_state", L + 2), ("_law_known", L + 3), ("_law_deep", L + 4), ("_law_deck", L + 1)]) (env_cells N.ce fun _ => rfl) (env_scope N.hs fun _ => rfl) ?_
      (walk_at "un"; iterate 1 (walk1; walk_at "un"))
      (rename St _ _ _ _ _ _ _ => S)
      refine r_clist_a (σ := BS) (fun i y ys g => Deck y.vs y.is ∧ ys.length = i ∧ ∃ ts, NodesAt w.params g ys ts ∧ MadeL known m2 q2 y.m y.q d ts ∧ ts.length = i) (fun y => [(dk, listO y.vs y.kk), (st, cnts y.m y.q y.t1 y.t2 y.sk)]) (x0 := ⟨y1, y2, y3, m2, q2, t12, t22, sk2⟩) C' N (by rfl) (by rfl) S hD (by rw [sizeLine_eq]; lia) ⟨hd9, rfl, [], .nil, .nil, rfl⟩ ?_ ?_
      · rintro i v ⟨z1, z2, z3, z4, z5, z6, z7, z8⟩ zs g' C D2 oL h11 tk11 e11 E11 R_ hR_ hi ⟨hd11, hzl, ts, hzs, hML, htl⟩ hs11 N11 S11
        dsimp only at S11 hd11 hML
        obtain ⟨x, tx, rfl, hx⟩ := Ints.at hws hi
        have hxr := hwr x hx
        (replace hcd := hcd.mono hs11); (replace hcs := hcs.mono hs11); (replace hck := hck.mono hs11); (replace hcp := hcp.mono hs11); (replace hk := hs11 _ _ hk)
        have hx3 : x = 0 ∨ x = 1 ∨ x = 2 := by lia
        rcases hx3 with rfl | rfl | rfl --@A
        · (walk_at "un"; iterate 6 (walk1; walk_at "un"))
          (refine ite_pos (by first | rfl | decide | assumption | simp) ?_)
          (walk_at "un"; iterate 16 (walk1; walk_at "un"))
          rw [show ((d + 1 : Nat) : Int) - 1 = (d : Nat) by lia]
          refine IH W (C'.mono (by first | decide | lia) (by first | decide | lia)) (St.prep (p := [(D2, _), (L, oL)]) (n1 := [(dk, _), (st, _)]) (q := []) S11) hd11 hk hki (by first | decide | lia) (by have := hMT.le1; have := hML.le1; exact fun n hn => by have := hkm n hn; lia) (by have := hMT.le1; have := hML.le1; lia) (by have := hMT.le2; have := hML.le2; lia) ?_
          intro v T' dvs' is' kk' m' q' t1' t2' sk' g12 h12 tk12 hT' hN' hd' F
          have S12 := St.backp (p := [(D2, _), (L, oL)]) (n1 := [(dk, _), (st, _)]) (q := []) S11 F rfl
          (walk_at "un"); exact ⟨⟨dvs', is', kk', m', q', t1', t2', sk'⟩, g12, h12, tk12, _, ⟨hd', by simp [hzl], ts ++ [T'], (hzs.mono F.gsub).append (.cons hN' .nil), hML.snoc hT', by simp [htl]⟩, S12, rfl⟩
        · (walk_at "un"; iterate 6 (walk1; walk_at "un"))
          (refine ite_neg (by first | decide | assumption | simp) ?_)
          (walk_at "un"; iterate 8 (walk1; walk_at "un"))
          (refine ite_pos (by first | rfl | decide | assumption | simp) ?_)
          (walk_at "un"; iterate 6 (walk1; walk_at "un"))
          rename_i a12 h12 ha12 S12
          refine r_ne_nil C' (S12.isListG hk) hki (S12.isList (.head _)) (by first | decide | lia) ?_
          replace S12 := S12.drop1
          (walk_at "un"; iterate 1 (walk1; walk_at "un"))
          cases known with
          | nil =>
            (refine ite_neg (by first | decide | assumption | simp) ?_)
            (refine ite_neg (by first | decide | assumption | simp) ?_)
            (walk_at "un"; iterate 7 (walk1; walk_at "un"))
            refine mk_const W (C'.mono (by first | decide | lia) (by first | decide | lia)) S12.pre0 ?_
            intro x s1 g13 h13 tk13 F13 hs13 J
            have S13 := S12.back0 F13
            (walk_at "un"); exact ⟨⟨z1, z2, z3, z4, z5, z6, z7, z8⟩, g13, h13, tk13, _, ⟨hd11, by simp [hzl], ts ++ [.node (.const (.num 1)) []], (hzs.mono hs13).append (.cons (.mk (.const J .mkNum) .nil) .nil), hML.snoc (.leaf _), by simp [htl]⟩, S13, rfl⟩
          | cons kh kt =>
            (refine ite_pos (by first | rfl | decide | assumption | simp) ?_)
            (walk_at "un"; iterate 1 (walk1; walk_at "un"))
            (refine ite_pos (by first | rfl | decide | assumption | simp) ?_)
            (walk_at "un"; iterate 12 (walk1; walk_at "un"))
            refine r_slc S12 (S12.isL (.inr hk)) (by have := Ints.length hki; rw [sizeLine_eq]; lia) .neg .none (pick_last3 kvs) ?_
            intro a13 h13 tk13 ha13 S13
            obtain ⟨g14, S14, hs14, hL14⟩ := S13.freeze1 ha13
            (walk_at "un"; iterate 2 (walk1; walk_at "un"))
            refine one_spec W (C'.mono (by first | decide | lia) (by first | decide | lia)) (St.prep (p := [(D2, _), (L, oL)]) (n1 := [(dk, _)]) (q := [(st, _)]) S14) hd11 hL14 (by have := Ints.length hki; simp only [List.length_cons] at this; rw [List.length_drop]; lia) (by have := Ints.length hki; rw [List.length_drop]; lia) ?_
            intro ix v dvs5 is5 kk5 g15 h15 tk15 hv hd5 F
            have S15 := St.backp (p := [(D2, _), (L, oL)]) (n1 := [(dk, _)]) (q := [(st, _)]) S14 F rfl
            have hs15 := F.gsub
            dsimp only at hs15
            obtain ⟨x, tx2, rfl, hx⟩ := Ints.at (Ints.drop _ hki) hv
            replace hx := List.mem_of_mem_drop hx
            (walk_at "un"; iterate 2 (walk1; walk_at "un"))
            refine mk_local W (C'.mono (by first | decide | lia) (by first | decide | lia)) S15.pre0 ?_
            intro y s1 g16 h16 tk16 F16 hs16 J
            have S16 := S15.back0 F16
            (walk_at "un"); exact ⟨⟨dvs5, is5, kk5, z4, z5, z6, z7, z8⟩, g16, h16, tk16, _, ⟨hd5, by simp [hzl], ts ++ [.node (.loc x) []], (hzs.mono fun a o q => hs16 a o (hs15 a o (hs14 a o q))).append (.cons (.mk (.loc J) .nil) .nil), hML.snoc (.locl hx), by simp [htl]⟩, S16, rfl⟩
        · (walk_at "un"; iterate 6 (walk1; walk_at "un"))
          (refine ite_neg (by first | decide | assumption | simp) ?_)
          (walk_at "un"; iterate 8 (walk1; walk_at "un"))
          (refine ite_neg (by first | decide | assumption | simp) ?_)
          (refine ite_neg (by first | decide | assumption | simp) ?_)
          (walk_at "un"; iterate 7 (walk1; walk_at "un"))
          refine mk_const W (C'.mono (by first | decide | lia) (by first | decide | lia)) S11.pre0 ?_
          intro x s1 g13 h13 tk13 F13 hs13 J
          have S13 := S11.back0 F13
          (walk_at "un"); exact ⟨⟨z1, z2, z3, z4, z5, z6, z7, z8⟩, g13, h13, tk13, _, ⟨hd11, by simp [hzl], ts ++ [.node (.const (.num 2)) []], (hzs.mono hs13).append (.cons (.mk (.const J .mkNum) .nil) .nil), hML.snoc (.leaf _), by simp [htl]⟩, S13, rfl⟩
      · rintro D2 ⟨z1, z2, z3, z4, z5, z6, z7, z8⟩ zs g11 h11 tk11 ⟨hd11, hzl, ts, hzs, hML, htl⟩ hs11 heD2 S11
        dsimp only at S11 hd11 hML
        obtain ⟨g12, S12, hs12, hD2⟩ := S11.freeze1 heD2
        (walk_at "un"; iterate 11 (walk1; walk_at "un"))
        refine mk_call W (C'.mono (by first | decide | lia) (by first | decide | lia)) S12.pre0 ?_
        intro x s1 s2 g13 h13 tk13 F13 hs13 J
        have S13 := S12.back0 F13
        have hN2 : NodeAt w.params g13 vo T := hNT.mono fun a o q => hs13 a o (hs12 a o (hs11 a o (hs10 a o (hs9 a o (hs7 a o q)))))
        have hz2 : NodesAt w.params g13 zs ts := hzs.mono fun a o q => hs13 a o (hs12 a o q)
        (walk_at "un"); exact k (.ref x) (.node .call (T :: ts)) z1 z2 z3 z4 z5 z6 z7 z8 g13 h13 tk13 (Made.let hkm hMT hML (by first | decide | lia)) (.mk (.call J (hs13 _ _ hD2)) (.cons hN2 hz2)) hd11 (S13.fin _ fun _ q => q)
end
section
variable {prog : Program} {w : World}
set_option maxHeartbeats 8000000 in
theorem node_step (d : Nat) (IH : ∀ d', d = d' + 1 → NodeSpec prog w d') : NodeSpec prog w d := by
  intro A E gs dr tk os b g h Q dk st kn dvs kvs is known kk sk kj m q t1 t2 td W C P hd hk hki hkl hkm h0 h1 k
  refine r_callC (d := 9 + 4 * d) (u := 37 + 20 * d) (binds := [("_law_deck", .ref dk), ("_law_state", .ref st), ("_law_known", .ref kn), ("_law_deep", .int d td)]) (l := []) W (C.mono (by first | decide | lia) (by first | decide | lia)) P (by k_is) (by k_is) rfl (by rfl) .nil ?_
  intro A' env L h' tk' g1 C' N hs S hc E'
  have hcd : CellIs g1 (L + 1) (.ref dk) := hc "_law_deck" (L + 1) (.ref dk) rfl rfl
  have hcs : CellIs g1 (L + 2) (.ref st) := hc "_law_state" (L + 2) (.ref st) rfl rfl
  have hck : CellIs g1 (L + 3) (.ref kn) := hc "_law_known" (L + 3) (.ref kn) rfl rfl
  have hcp : CellIs g1 (L + 4) (.int d td) := hc "_law_deep" (L + 4) (.int d td) rfl rfl
  replace N : En env _ [("_law_deep", L + 4), ("_law_known", L + 3), ("_law_state", L + 2), ("_law_deck", L + 1)] L := N
  replace hk := hs _ _ hk
  clear hc
  (walk_at "un"; iterate 2 (walk1; walk_at "un"))
  (walk_at "un"); refine x_cps (H := fun K => ∀ way t dvs1 is1 kk1 g2 h2 tk2, 0 ≤ way → way < 11 → (d = 0 → way < 2) → Deck dvs1 is1 → (∀ a o, g1 a = some o → g2 a = some o) → St b ⟨h, g, [dk, st]⟩ g2 L h2 [] [(dk, listO dvs1 kk1), (st, cnts m q t1 t2 sk)] → K (.int way t) ⟨h2, gs, dr, tk2, os⟩) ?_ ?_
  · intro K_ hK_; (walk_at "un"; iterate 6 (walk1; walk_at "un")) --@A
    by_cases hz : 0 < d
    · refine ite_pos (by simpa using hz) ?_
      (walk_at "un"; iterate 9 (walk1; walk_at "un"))
      refine draw_spec W (C'.mono (by first | decide | lia) (by first | decide | lia)) (St.prep (p := []) (n1 := [(dk, _)]) (q := [(st, _)]) S) hd (by first | decide | lia) (by first | decide | lia) ?_
      intro r1 u1 dvs1 is1 kk1 g2 h2 tk2 hr1 hr1' hd1 F
      (walk_at "un"); exact hK_ r1 u1 dvs1 is1 kk1 g2 h2 tk2 hr1 hr1' (by first | decide | lia) hd1 F.gsub (St.backp (p := []) (n1 := [(dk, _)]) (q := [(st, _)]) S F rfl)
    · refine ite_neg (by simpa using hz) ?_
      (walk_at "un"; iterate 9 (walk1; walk_at "un"))
      refine draw_spec W (C'.mono (by first | decide | lia) (by first | decide | lia)) (St.prep (p := []) (n1 := [(dk, _)]) (q := [(st, _)]) S) hd (by first | decide | lia) (by first | decide | lia) ?_
      intro r1 u1 dvs1 is1 kk1 g2 h2 tk2 hr1 hr1' hd1 F
      (walk_at "un"); exact hK_ r1 u1 dvs1 is1 kk1 g2 h2 tk2 hr1 (by first | decide | lia) (by first | decide | lia) hd1 F.gsub (St.backp (p := []) (n1 := [(dk, _)]) (q := [(st, _)]) S F rfl)
  · intro way t dvs1 is1 kk1 g2 h2 tk2 hw0 hw1 hw2 hd1 hs2 S2
    (replace hcd := hcd.mono hs2); (replace hcs := hcs.mono hs2); (replace hck := hck.mono hs2); (replace hcp := hcp.mono hs2); (replace hk := hs2 _ _ hk)
    clear S
    (walk_at "un"; iterate 3 (walk1; walk_at "un"))
    (rename St _ _ _ _ _ _ _ => S)
    (walk_at "un"); refine x_cps (H := fun K => ∀ hh tt, St b ⟨h, g, [dk, st]⟩ g2 L hh [("_law_way", .int way t)] [(dk, listO dvs1 kk1), (st, cnts m q t1 t2 sk)] → K (decide (way = 0 ∨ (way = 1 ∧ known = []))) ⟨hh, gs, dr, tt, os⟩) ?_ ?_
    · intro K_ hK_; (walk_at "un"; iterate 7 (walk1; walk_at "un")) --@B
      by_cases hz : way = 0
      · refine ite_pos (by simpa using hz) ?_
        (walk_at "un"); exact x_at (by simp [hz]) (hK_ _ _ S)
      · refine ite_neg (by simpa using hz) ?_
        (walk_at "un"; iterate 8 (walk1; walk_at "un"))
        by_cases hz1 : way = 1
        · refine ite_pos (by simpa using hz1) ?_
          (walk_at "un"; iterate 6 (walk1; walk_at "un"))
          rename_i a3 h3 ha3 S3
          refine r_eq_nil C' (S3.isListG hk) hki (S3.isList (.head _)) (by first | decide | lia) ?_
          replace S3 := S3.drop1
          (walk_at "un"; iterate 1 (walk1; walk_at "un"))
          cases known with
          | nil =>
            (refine ite_pos (by first | rfl | decide | assumption | simp) ?_)
            (walk_at "un"; iterate 1 (walk1; walk_at "un"))
            refine ite_pos (by rfl) ?_
            (walk_at "un"); exact x_at (by simp [hz1]) (hK_ _ _ S3)
          | cons kh kt =>
            (refine ite_neg (by first | decide | assumption | simp) ?_)
            refine ite_neg (by decide) ?_
            (walk_at "un"; iterate 1 (walk1; walk_at "un"))
            (walk_at "un"); exact x_at (by simp [hz]) (hK_ _ _ S3)
        · refine ite_neg (by simpa using hz1) ?_
          refine ite_neg (by decide) ?_
          (walk_at "un"; iterate 1 (walk1; walk_at "un"))
          (walk_at "un"); exact x_at (by simp [hz, hz1]) (hK_ _ _ S)
    · intro h3 tk3 S3
      clear S
      by_cases hc0 : way = 0 ∨ (way = 1 ∧ known = [])
      · refine ite_pos (by simpa using hc0) ?_
        (walk_at "un"; iterate 33 (walk1; walk_at "un"))
        refine mk_pair W (C'.mono (by first | decide | lia) (by first | decide | lia)) S3.pre0 ?_
        intro xp s1 s2 g4 h4 tk4 F4 hs4 J4
        have S4 := S3.back0 F4
        (replace hcd := hcd.mono hs4); (replace hcs := hcs.mono hs4); (replace hck := hck.mono hs4); (replace hcp := hcp.mono hs4); (replace hk := hs4 _ _ hk)
        clear S3
        (walk_at "un"; iterate 4 (walk1; walk_at "un"))
        rename_i a5 h5 ha5 S5
        obtain ⟨g6, S6, hs6, hL6⟩ := S5.freeze1 ha5
        (walk_at "un"; iterate 0 (walk1; walk_at "un"))
        refine one_spec W (C'.mono (by first | decide | lia) (by first | decide | lia)) (St.prep (p := []) (n1 := [(dk, _)]) (q := [(st, _)]) S6) hd1 hL6 (by simp) (by simp) ?_
        intro ix v dvs7 is7 kk7 g7 h7 tk7 hv hd7 F
        have S7 := St.backp (p := []) (n1 := [(dk, _)]) (q := [(st, _)]) S6 F rfl
        have hs7 := F.gsub
        dsimp only at hs7
        obtain ⟨c, hcv⟩ : ∃ c, CVal g7 c v := by
          match ix, hv with
          | 0, hv => cases hv; exact ⟨.num 0, _, rfl⟩
          | 1, hv => cases hv; exact ⟨.num 7, _, rfl⟩
          | 2, hv => cases hv; exact ⟨.bool true, rfl⟩
          | 3, hv => cases hv; exact ⟨.bool false, rfl⟩
          | 4, hv => cases hv; exact ⟨.unspec, rfl⟩
          | 5, hv => cases hv; exact ⟨.pair, _, _, _, rfl, J4.mono fun a o q => hs7 a o (hs6 a o q)⟩
        (walk_at "un"; iterate 2 (walk1; walk_at "un"))
        refine mk_const W (C'.mono (by first | decide | lia) (by first | decide | lia)) S7.pre0 ?_
        intro x s1 g8 h8 tk8 F8 hs8 J8
        have S8 := S7.back0 F8
        (walk_at "un"); exact k (.ref x) (.node (.const c) []) dvs7 is7 kk7 m q t1 t2 sk g8 h8 tk8 (.leaf c) (.mk (.const J8 (hcv.mono hs8)) .nil) hd7 (S8.fin _ fun _ q => q)
      · refine ite_neg (by simpa using hc0) ?_
        (walk_at "un"; iterate 8 (walk1; walk_at "un"))
        by_cases hz1 : way = 1 --@C
        · refine ite_pos (by simpa using hz1) ?_
          have hkne : known ≠ [] := fun q => hc0 (.inr ⟨hz1, q⟩)
          have hkpos : 0 < known.length := List.length_pos_iff.mpr hkne
          have hkvl := Ints.length hki
          (walk_at "un"; iterate 14 (walk1; walk_at "un"))
          refine r_slc S3 (S3.isL (.inr hk)) (by rw [sizeLine_eq]; lia) .neg .none (pick_last3 kvs) ?_
          intro a13 h13 tk13 ha13 S13
          obtain ⟨g14, S14, hs14, hL14⟩ := S13.freeze1 ha13
          (walk_at "un"; iterate 2 (walk1; walk_at "un"))
          refine one_spec W (C'.mono (by first | decide | lia) (by first | decide | lia)) (St.prep (p := []) (n1 := [(dk, _)]) (q := [(st, _)]) S14) hd1 hL14 (by rw [List.length_drop]; lia) (by rw [List.length_drop]; lia) ?_
          intro ix v dvs5 is5 kk5 g15 h15 tk15 hv hd5 F
          have S15 := St.backp (p := []) (n1 := [(dk, _)]) (q := [(st, _)]) S14 F rfl
          obtain ⟨x, tx2, rfl, hx⟩ := Ints.at (Ints.drop _ hki) hv
          replace hx := List.mem_of_mem_drop hx
          (walk_at "un"; iterate 2 (walk1; walk_at "un"))
          refine mk_local W (C'.mono (by first | decide | lia) (by first | decide | lia)) S15.pre0 ?_
          intro y s1 g16 h16 tk16 F16 hs16 J
          have S16 := S15.back0 F16
          (walk_at "un"); exact k (.ref y) (.node (.loc x) []) dvs5 is5 kk5 m q t1 t2 sk g16 h16 tk16 (.locl hx) (.mk (.loc J) .nil) hd5 (S16.fin _ fun _ q => q)
        · refine ite_neg (by simpa using hz1) ?_
          have hway : 2 ≤ way := by
            have : ¬ way = 0 := fun q => hc0 (.inl q)
            lia
          obtain ⟨d, rfl⟩ : ∃ d', d = d' + 1 := ⟨d - 1, by lia⟩
          have IH : NodeSpec prog w d := IH d rfl --@D
          have hkvl := Ints.length hki
          (walk_at "un"; iterate 8 (walk1; walk_at "un"))
          by_cases hz2 : way < 6
          · refine ite_pos (by simpa using hz2) ?_
            (walk_at "un"; iterate 15 (walk1; walk_at "un"))
            refine let_spec IH W (C'.mono (by first | decide | lia) (by first | decide | lia)) (St.prep (p := []) (n1 := [(dk, _), (st, _)]) (q := []) S3) hd1 hk hki hkl hkm h0 h1 ?_
            intro v T dvs' is' kk' m' q' t1' t2' sk' g4 h4 tk4 hT hN hd4 F
            (walk_at "un"); exact k v T dvs' is' kk' m' q' t1' t2' sk' g4 h4 tk4 hT hN hd4 ((St.backp (p := []) (n1 := [(dk, _), (st, _)]) (q := []) S3 F rfl).fin _ fun _ q => q)
          · refine ite_neg (by simpa using hz2) ?_
            (walk_at "un"; iterate 3 (walk1; walk_at "un"))
            (walk_at "un"); refine x_cps (H := fun K => ∀ hh tt, St b ⟨h, g, [dk, st]⟩ g2 L hh [("_law_way", .int way t)] [(dk, listO dvs1 kk1), (st, cnts m q t1 t2 sk)] → K (decide (way = 6 ∧ known ≠ [])) ⟨hh, gs, dr, tt, os⟩) ?_ ?_
            · intro K_ hK_; (walk_at "un"; iterate 7 (walk1; walk_at "un"))
              by_cases hz1 : way = 6
              · refine ite_pos (by simpa using hz1) ?_
                (walk_at "un"; iterate 6 (walk1; walk_at "un"))
                rename_i a4 h4 ha4 S4
                refine r_ne_nil C' (S4.isListG hk) hki (S4.isList (.head _)) (by first | decide | lia) ?_
                replace S4 := S4.drop1
                (walk_at "un"; iterate 1 (walk1; walk_at "un"))
                cases known with
                | nil =>
                  refine ite_neg (by decide) ?_
                  (walk_at "un"); exact x_at (by simp) (hK_ _ _ S4)
                | cons kh kt =>
                  refine ite_pos (by rfl) ?_
                  (walk_at "un"; iterate 1 (walk1; walk_at "un"))
                  (walk_at "un"); exact x_at (by simp [hz1]) (hK_ _ _ S4)
              · refine ite_neg (by simpa using hz1) ?_
                (walk_at "un"); exact x_at (by simp [hz1]) (hK_ _ _ S3)
            · intro h4 tk4 S4
              clear S3
              by_cases hc1 : way = 6 ∧ known ≠ []
              · refine ite_pos (by simpa using hc1) ?_
                have hkpos : 0 < known.length := List.length_pos_iff.mpr hc1.2
                (walk_at "un"; iterate 14 (walk1; walk_at "un"))
                refine r_slc S4 (S4.isL (.inr hk)) (by rw [sizeLine_eq]; lia) .neg .none (pick_last3 kvs) ?_
                intro a13 h13 tk13 ha13 S13
                obtain ⟨g14, S14, hs14, hL14⟩ := S13.freeze1 ha13
                (walk_at "un"; iterate 2 (walk1; walk_at "un"))
                refine one_spec W (C'.mono (by first | decide | lia) (by first | decide | lia)) (St.prep (p := []) (n1 := [(dk, _)]) (q := [(st, _)]) S14) hd1 hL14 (by rw [List.length_drop]; lia) (by rw [List.length_drop]; lia) ?_
                intro ix v dvs5 is5 kk5 g15 h15 tk15 hv hd5 F
                have S15 := St.backp (p := []) (n1 := [(dk, _)]) (q := [(st, _)]) S14 F rfl
                have hs15 := F.gsub
                dsimp only at hs15
                obtain ⟨x, tx2, rfl, hx⟩ := Ints.at (Ints.drop _ hki) hv
                replace hx := List.mem_of_mem_drop hx
                (replace hcd := hcd.mono hs14); (replace hcs := hcs.mono hs14); (replace hck := hck.mono hs14); (replace hcp := hcp.mono hs14); (replace hk := hs14 _ _ hk)
                (replace hcd := hcd.mono hs15); (replace hcs := hcs.mono hs15); (replace hck := hck.mono hs15); (replace hcp := hcp.mono hs15); (replace hk := hs15 _ _ hk)
                (walk_at "un"; iterate 17 (walk1; walk_at "un")) --@E
                rw [show ((d + 1 : Nat) : Int) - 1 = (d : Nat) by lia]
                refine IH W (C'.mono (by first | decide | lia) (by first | decide | lia)) (St.prep (p := []) (n1 := [(dk, _), (st, _)]) (q := []) S15) hd5 hk hki (by first | decide | lia) hkm h0 h1 ?_
                intro v T dvs' is' kk' m' q' t1' t2' sk' g16 h16 tk16 hT hN hd16 F
                have S16 := St.backp (p := []) (n1 := [(dk, _), (st, _)]) (q := []) S15 F rfl
                (walk_at "un"; iterate 2 (walk1; walk_at "un"))
                refine mk_setlocal W (C'.mono (by first | decide | lia) (by first | decide | lia)) S16.pre0 ?_
                intro y s1 s2 g17 h17 tk17 F17 hs17 J
                have S17 := S16.back0 F17
                (walk_at "un"); exact k (.ref y) (.node (.set x) [T]) dvs' is' kk' m' q' t1' t2' sk' g17 h17 tk17 (Made.node (MadeL.nil.snoc hT) (by simp) (.inl ⟨x, hx, rfl⟩)) (.mk (.set J) (.cons (hN.mono hs17) .nil)) hd16 (S17.fin _ fun _ q => q)
              · refine ite_neg (by simpa using hc1) ?_
                (walk_at "un"; iterate 8 (walk1; walk_at "un"))
                by_cases hz3 : way < 8
                · refine ite_pos (by simpa using hz3) ?_
                  (walk_at "un"; iterate 2 (walk1; walk_at "un"))
                  (walk_at "un"); refine x_cps (H := fun K => ∀ v T dvs4 is4 kk4 m4 q4 t14 t24 sk4 g4 hh tt, NodeAt w.params g4 v T → Made known m q m4 q4 d T → Deck dvs4 is4 → (∀ a o, g2 a = some o → g4 a = some o) → St b ⟨h, g, [dk, st]⟩ g4 L hh [] [(dk, listO dvs4 kk4), (st, cnts m4 q4 t14 t24 sk4)] → K v ⟨hh, gs, dr, tt, os⟩) ?_ ?_
                  · intro K_ hK_; (walk_at "un"; iterate 1 (walk1; walk_at "un")) --@F
                    (walk_at "un"); refine x_cps (H := fun K => ∀ c dvs4 is4 kk4 g4 hh tt, (c = true → known ≠ []) → Deck dvs4 is4 → (∀ a o, g2 a = some o → g4 a = some o) → St b ⟨h, g, [dk, st]⟩ g4 L hh [] [(dk, listO dvs4 kk4), (st, cnts m q t1 t2 sk)] → K c ⟨hh, gs, dr, tt, os⟩) ?_ ?_
                    · intro K_ hK_; (walk_at "un"; iterate 7 (walk1; walk_at "un"))
                      (rename St _ _ _ _ _ _ _ => S)
                      refine r_ne_nil C' (S.isListG hk) hki (S.isList (.head _)) (by first | decide | lia) ?_
                      replace S := S.drop1
                      (walk_at "un"; iterate 1 (walk1; walk_at "un"))
                      cases known with
                      | nil =>
                        refine ite_neg (by decide) ?_
                        (walk_at "un"); exact hK_ _ dvs1 is1 kk1 g2 _ _ (fun q => (nomatch q)) hd1 (fun _ _ q => q) (S.loc' _ .nil)
                      | cons kh kt =>
                        refine ite_pos (by rfl) ?_
                        (walk_at "un"; iterate 11 (walk1; walk_at "un"))
                        refine draw_spec W (C'.mono (by first | decide | lia) (by first | decide | lia)) (St.prep (p := []) (n1 := [(dk, _)]) (q := [(st, _)]) S) hd1 (by first | decide | lia) (by first | decide | lia) ?_
                        intro r1 u1 dvs5 is5 kk5 g5 h5 tk5 hr1 hr1' hd5 F
                        have S5 := (St.backp (p := []) (n1 := [(dk, _)]) (q := [(st, _)]) S F rfl).loc' [] .nil
                        (walk_at "un"; iterate 3 (walk1; walk_at "un"))
                        by_cases hq : r1 > 0
                        · refine ite_pos (by simpa using hq) ?_
                          (walk_at "un"; iterate 1 (walk1; walk_at "un"))
                          (walk_at "un"); exact hK_ _ dvs5 is5 kk5 g5 _ _ (fun _ => by simp) hd5 F.gsub S5
                        · refine ite_neg (by simpa using hq) ?_
                          (walk_at "un"); exact hK_ _ dvs5 is5 kk5 g5 _ _ (fun _ => by simp) hd5 F.gsub S5
                    · intro c dvs5 is5 kk5 g5 h5 tk5 hc5 hd5 hs5 S5
                      clear S4
                      (replace hcd := hcd.mono hs5); (replace hcs := hcs.mono hs5); (replace hck := hck.mono hs5); (replace hcp := hcp.mono hs5); (replace hk := hs5 _ _ hk)
                      cases c with
                      | true =>
                        have hkpos : 0 < known.length := List.length_pos_iff.mpr (hc5 rfl)
                        (refine ite_pos (by first | rfl | decide | assumption | simp) ?_)
                        (walk_at "un"; iterate 12 (walk1; walk_at "un"))
                        refine r_slc S5 (S5.isL (.inr hk)) (by rw [sizeLine_eq]; lia) .neg .none (pick_last3 kvs) ?_
                        intro a13 h13 tk13 ha13 S13
                        obtain ⟨g14, S14, hs14, hL14⟩ := S13.freeze1 ha13
                        (walk_at "un"; iterate 2 (walk1; walk_at "un"))
                        refine one_spec W (C'.mono (by first | decide | lia) (by first | decide | lia)) (St.prep (p := []) (n1 := [(dk, _)]) (q := [(st, _)]) S14) hd5 hL14 (by rw [List.length_drop]; lia) (by rw [List.length_drop]; lia) ?_
                        intro ix v dvs6 is6 kk6 g15 h15 tk15 hv hd6 F
                        have S15 := St.backp (p := []) (n1 := [(dk, _)]) (q := [(st, _)]) S14 F rfl
                        have hs15 := F.gsub
                        dsimp only at hs15
                        obtain ⟨x, tx2, rfl, hx⟩ := Ints.at (Ints.drop _ hki) hv
                        replace hx := List.mem_of_mem_drop hx
                        (walk_at "un"; iterate 2 (walk1; walk_at "un"))
                        refine mk_local W (C'.mono (by first | decide | lia) (by first | decide | lia)) S15.pre0 ?_
                        intro y s1 g16 h16 tk16 F16 hs16 J
                        have S16 := S15.back0 F16
                        (walk_at "un"); exact hK_ _ (.node (.loc x) []) dvs6 is6 kk6 m q t1 t2 sk g16 h16 tk16 (.mk (.loc J) .nil) (.locl hx) hd6 (fun a o z => hs16 a o (hs15 a o (hs14 a o (hs5 a o z)))) S16
                      | false =>
                        (refine ite_neg (by first | decide | assumption | simp) ?_)
                        (walk_at "un"; iterate 16 (walk1; walk_at "un"))
                        rw [show ((d + 1 : Nat) : Int) - 1 = (d : Nat) by lia]
                        refine IH W (C'.mono (by first | decide | lia) (by first | decide | lia)) (St.prep (p := []) (n1 := [(dk, _), (st, _)]) (q := []) S5) hd5 hk hki (by first | decide | lia) hkm h0 h1 ?_
                        intro v T dvs' is' kk' m' q' t1' t2' sk' g16 h16 tk16 hT hN hd16 F
                        have S16 := St.backp (p := []) (n1 := [(dk, _), (st, _)]) (q := []) S5 F rfl
                        (walk_at "un"); exact hK_ _ T dvs' is' kk' m' q' t1' t2' sk' g16 h16 tk16 hN hT hd16 (fun a o z => F.gsub a o (hs5 a o z)) S16
                  · intro v1 T dvs5 is5 kk5 m5 q5 t15 t25 sk5 g5 h5 tk5 hN5 hM5 hd5 hs5 S5
                    clear S4
                    (replace hcd := hcd.mono hs5); (replace hcs := hcs.mono hs5); (replace hck := hck.mono hs5); (replace hcp := hcp.mono hs5); (replace hk := hs5 _ _ hk)
                    (walk_at "un"; iterate 25 (walk1; walk_at "un")) --@G
                    (rename St _ _ _ _ _ _ _ => S)
                    rw [show ((d + 1 : Nat) : Int) - 1 = (d : Nat) by lia]
                    have l51 := hM5.le1; have l52 := hM5.le2
                    refine IH W (C'.mono (by first | decide | lia) (by first | decide | lia)) (St.prep (p := []) (n1 := [(dk, _), (st, _)]) (q := []) S) hd5 hk hki (by first | decide | lia) (fun n hn => Int.le_trans (hkm n hn) l51) (by first | decide | lia) (by first | decide | lia) ?_
                    intro v6 T6 dvs6 is6 kk6 m6 q6 t16 t26 sk6 g6 h6 tk6 hT6 hN6 hd6 F
                    have S6 := St.backp (p := []) (n1 := [(dk, _), (st, _)]) (q := []) S F rfl
                    have hs6 := F.gsub
                    dsimp only at hs6
                    (replace hcd := hcd.mono hs6); (replace hcs := hcs.mono hs6); (replace hck := hck.mono hs6); (replace hcp := hcp.mono hs6); (replace hk := hs6 _ _ hk)
                    have l61 := hT6.le1; have l62 := hT6.le2
                    (walk_at "un"; iterate 17 (walk1; walk_at "un"))
                    rw [show ((d + 1 : Nat) : Int) - 1 = (d : Nat) by lia]
                    refine IH W (C'.mono (by first | decide | lia) (by first | decide | lia)) (St.prep (p := []) (n1 := [(dk, _), (st, _)]) (q := []) S6) hd6 hk hki (by first | decide | lia) (fun n hn => Int.le_trans (hkm n hn) (Int.le_trans l51 l61)) (by first | decide | lia) (by first | decide | lia) ?_
                    intro v7 T7 dvs7 is7 kk7 m7 q7 t17 t27 sk7 g7 h7 tk7 hT7 hN7 hd7 F7
                    have S7 := St.backp (p := []) (n1 := [(dk, _), (st, _)]) (q := []) S6 F7 rfl
                    (walk_at "un"; iterate 2 (walk1; walk_at "un"))
                    refine mk_ite W (C'.mono (by first | decide | lia) (by first | decide | lia)) S7.pre0 ?_
                    intro y s1 s2 s3 g8 h8 tk8 F8 hs8 J
                    have S8 := S7.back0 F8
                    have c5 : NodeAt w.params g8 v1 T := hN5.mono fun a o z => hs8 a o (F7.gsub a o (hs6 a o z))
                    have c6 : NodeAt w.params g8 v6 T6 := hN6.mono fun a o z => hs8 a o (F7.gsub a o z)
                    (walk_at "un"); exact k (.ref y) (.node .ite [T, T6, T7]) dvs7 is7 kk7 m7 q7 t17 t27 sk7 g8 h8 tk8 (Made.node (((MadeL.nil.snoc hM5).snoc hT6).snoc hT7) (by simp) (.inr (.inl rfl))) (.mk (.ite J) (.cons c5 (.cons c6 (.cons (hN7.mono hs8) .nil)))) hd7 (S8.fin _ fun _ q => q)
                · refine ite_neg (by simpa using hz3) ?_
                  (walk_at "un"; iterate 8 (walk1; walk_at "un"))
                  by_cases hz4 : way = 8
                  · refine ite_pos (by simpa using hz4) ?_
                    (walk_at "un"; iterate 23 (walk1; walk_at "un"))
                    refine draw_spec W (C'.mono (by first | decide | lia) (by first | decide | lia)) (St.prep (p := []) (n1 := [(dk, _)]) (q := [(st, _)]) S4) hd1 (by first | decide | lia) (by first | decide | lia) ?_
                    intro r1 u1 dvs5 is5 kk5 g5 h5 tk5 hr1 hr1' hd5 F
                    have S5 := St.backp (p := []) (n1 := [(dk, _)]) (q := [(st, _)]) S4 F rfl
                    have hs5 := F.gsub
                    dsimp only at hs5
                    (replace hcd := hcd.mono hs5); (replace hcs := hcs.mono hs5); (replace hck := hck.mono hs5); (replace hcp := hcp.mono hs5); (replace hk := hs5 _ _ hk)
                    obtain ⟨many, rfl⟩ := Int.eq_ofNat_of_zero_le hr1
                    (walk_at "un"; iterate 4 (walk1; walk_at "un"))
                    refine lam_spec IH W (C'.mono (by first | decide | lia) (by first | decide | lia)) (St.prep (p := []) (n1 := [(dk, _), (st, _)]) (q := []) S5) hd5 hk hki hkl hkm h0 h1 (by first | decide | lia) ?_
                    intro v T m1 dvs' is' kk' m' q' t1' t2' sk' g6 h6 tk6 hT hN hd6 F
                    (walk_at "un"); exact k v T dvs' is' kk' m' q' t1' t2' sk' g6 h6 tk6 (Made.ofLam hT) hN hd6 ((St.backp (p := []) (n1 := [(dk, _), (st, _)]) (q := []) S5 F rfl).fin _ fun _ q => q)
                  · refine ite_neg (by simpa using hz4) ?_
                    (walk_at "un"; iterate 2 (walk1; walk_at "un"))
                    refine r_assigncomp (cl' := [("_law_state", L + 2), ("_law_known", L + 3), ("_law_deep", L + 4), ("_law_deck", L + 1)]) (env_cells N.ce fun _ => rfl) (env_scope N.hs fun _ => rfl) ?_
                    (walk_at "un"; iterate 6 (walk1; walk_at "un")) --@H
                    refine r_rangeN (N := 2) S4 ?_
                    clear S4; intro rr h5 tk5 ta tb tc hr S
                    refine r_crange_a (σ := BS) (fun i y ys g => Deck y.vs y.is ∧ ys.length = i ∧ ∃ ts, NodesAt w.params g ys ts ∧ MadeL known m q y.m y.q d ts ∧ ts.length = i) (fun y => [(dk, listO y.vs y.kk), (st, cnts y.m y.q y.t1 y.t2 y.sk)]) (x0 := ⟨dvs1, is1, kk1, m, q, t1, t2, sk⟩) C' N (by rfl) (by rfl) S hr (by first | decide | lia) ⟨hd1, rfl, [], .nil, .nil, rfl⟩ ?_ ?_
                    · rintro i v ⟨z1, z2, z3, z4, z5, z6, z7, z8⟩ zs g' C D2 oL h11 tk11 e11 E11 R_ hR_ hi ⟨hd11, hzl, ts, hzs, hML, htl⟩ hs11 N11 S11
                      dsimp only at S11 hd11 hML
                      (replace hcd := hcd.mono hs11); (replace hcs := hcs.mono hs11); (replace hck := hck.mono hs11); (replace hcp := hcp.mono hs11); (replace hk := hs11 _ _ hk)
                      (walk_at "un"; iterate 16 (walk1; walk_at "un"))
                      rw [show ((d + 1 : Nat) : Int) - 1 = (d : Nat) by lia]
                      have q1 := hML.le1; have q2 := hML.le2
                      refine IH W (C'.mono (by first | decide | lia) (by first | decide | lia)) (St.prep (p := [(D2, _), (L, oL)]) (n1 := [(dk, _), (st, _)]) (q := []) S11) hd11 hk hki (by first | decide | lia) (fun n hn => Int.le_trans (hkm n hn) q1) (by first | decide | lia) (by first | decide | lia) ?_
                      intro v T' dvs' is' kk' m' q' t1' t2' sk' g12 h12 tk12 hT' hN' hd' F
                      have S12 := St.backp (p := [(D2, _), (L, oL)]) (n1 := [(dk, _), (st, _)]) (q := []) S11 F rfl
                      (walk_at "un"); exact ⟨⟨dvs', is', kk', m', q', t1', t2', sk'⟩, g12, h12, tk12, _, ⟨hd', by simp [hzl], ts ++ [T'], (hzs.mono F.gsub).append (.cons hN' .nil), hML.snoc hT', by simp [htl]⟩, S12, rfl⟩
                    · rintro D2 ⟨z1, z2, z3, z4, z5, z6, z7, z8⟩ zs g11 h11 tk11 ⟨hd11, hzl, ts, hzs, hML, htl⟩ hs11 heD2 S11
                      dsimp only at S11 hd11 hML
                      obtain ⟨g12, S12, hs12, hD2⟩ := S11.freeze1 heD2
                      (walk_at "un"; iterate 8 (walk1; walk_at "un"))
                      by_cases hz5 : way = 9
                      · refine ite_pos (by simpa using hz5) ?_
                        (walk_at "un"; iterate 7 (walk1; walk_at "un"))
                        refine mk_seq W (C'.mono (by first | decide | lia) (by first | decide | lia)) S12.pre0 ?_
                        intro x s1 g13 h13 tk13 F13 hs13 J
                        have S13 := S12.back0 F13
                        have hz2 : NodesAt w.params g13 zs ts := hzs.mono fun a o q => hs13 a o (hs12 a o q)
                        (walk_at "un"); exact k (.ref x) (.node .seq ts) z1 z2 z3 z4 z5 z6 z7 z8 g13 h13 tk13 (Made.node hML (by first | decide | lia) (.inr (.inr (.inl rfl)))) (.mk (.seq J (hs13 _ _ hD2)) hz2) hd11 (S13.fin _ fun _ q => q)
                      · refine ite_neg (by simpa using hz5) ?_
                        (walk_at "un"; iterate 9 (walk1; walk_at "un"))
                        refine mk_prim W (C'.mono (by first | decide | lia) (by first | decide | lia)) S12.pre0 ?_
                        intro x s1 s2 g13 h13 tk13 F13 hs13 J
                        have S13 := S12.back0 F13
                        have hz2 : NodesAt w.params g13 zs ts := hzs.mono fun a o q => hs13 a o (hs12 a o q)
                        (walk_at "un"); exact k (.ref x) (.node (.prim 46) ts) z1 z2 z3 z4 z5 z6 z7 z8 g13 h13 tk13 (Made.node hML (by first | decide | lia) (.inr (.inr (.inr ⟨_, rfl⟩)))) (.mk (.prim J (hs13 _ _ hD2)) hz2) hd11 (S13.fin _ fun _ q => q)
theorem node_spec (d : Nat) : NodeSpec prog w d :=
  Nat.rec (motive := NodeSpec prog w) (node_step 0 fun d' h => nomatch h) (fun d ih => node_step (d + 1) fun d' h => Nat.succ.inj h ▸ ih) d
end
section
variable {prog : Program} {w : World} {A : Around} {E : Value → Shared → Prop} {gs : Array GenState} {dr : Drawn} {tk : Tok} {os : OsState}
variable {b : Heap} {e : Ent} {g : GH} {L : Addr} {h : Heap} {l : List (Str × Value)} {n n1 : List (Addr × Obj)} {env : Env} {sc : Scope} {cl : List (Str × Addr)}
theorem Ints.take : ∀ (i : Nat) {vs : List Value} {is : List Int}, Ints vs is → Ints (vs.take i) (is.take i)
  | 0, _, _, _ => trivial
  | i + 1, _ :: _, _ :: _, h => ⟨h.1, Ints.take i h.2⟩
  | i + 1, [], [], h => h
  | i + 1, [], _ :: _, h => h.elim
  | i + 1, _ :: _, [], h => h.elim
set_option maxHeartbeats 8000000 in
theorem deck_spec {Q : Value → Shared → Prop} {a : Addr} {vs : List Value} {is : List Int} (W : Wo (Mine.hd0.heap_1 w.params) b) (C : Cx A 2 10) (P : Pre b g h []) (hL : b.IsList a vs.toArray) (hi : Ints vs is) (hz : vs.length ≤ 63)
    (k : ∀ d dvs ds g' h' tk', Deck dvs ds → Fin ⟨h, g, []⟩ g' h' [(d, listO dvs 0)] → g' d = none → h.get? d = none → Q (.ref d) ⟨h', gs, dr, tk', os⟩) :
    wpAny (model prog w) A (call (.ref 741) [.ref a]) Q E ⟨h, gs, dr, tk, os⟩ := by
  refine r_call (d := 1) (u := 7) (binds := [("script", .ref a)]) (l := [("script", .ref a)]) W C P (by k_is) (by k_is) rfl (by rfl) (.cons rfl .nil) ?_
  intro A' env L h' tk' C' N S E'
  (walk_at "un"; iterate 3 (walk1; walk_at "un")) --@A
  refine r_listcomp (cl' := []) (by with_unfolding_all rfl) ?_
  (walk_at "un"; iterate 2 (walk1; walk_at "un"))
  have hL' : h'.IsList a vs.toArray := by
    obtain ⟨o, ho, r⟩ := hL
    (walk_at "un"); exact ⟨o, S.bk _ _ ho, r⟩
  refine r_slcI S hL' (by rw [sizeLine_eq]; lia) .none .int (ws := vs.take 24) (by have := slicePick_upto' vs.toArray 24; simpa using this) ?_
  clear S; intro a1 h1 tk1 ha1 S1
  obtain ⟨g2, S, hs2, hL2⟩ := S1.freeze1 ha1
  have hi2 : Ints (vs.take 24) (is.take 24) := Ints.take 24 hi
  refine r_clist (σ := Unit) (fun i y ys _ => ∃ js, Ints ys js ∧ (∀ j ∈ js, 0 ≤ j) ∧ js.length = i) (fun _ => []) (x0 := ()) C' N (by rfl) S hL2 (by rw [sizeLine_eq, List.length_take]; lia) ⟨[], trivial, fun _ q => (nomatch q), rfl⟩ ?_ ?_
  · rintro i v ⟨⟩ ys g' C D oL h3 tk3 e3 E3 R_ hR_ hi3 ⟨js, hjs, hj0, hjl⟩ hs3 N3 S3
    obtain ⟨x, tx, rfl, hx⟩ := Ints.at hi2 hi3
    (walk_at "un"; iterate 7 (walk1; walk_at "un"))
    refine call_abs_int (s := ⟨h3, gs, dr, _, os⟩) ?_
    intro u1 tk1
    try dsimp only
    (walk_at "un"; iterate 5 (walk1; walk_at "un"))
    (walk_at "un"); refine ⟨(), g', h3, _, _, ⟨js ++ [(if x < 0 then -x else x).fmod (10 ^ Int.toNat 60)], Ints.append hjs ⟨⟨_, rfl⟩, trivial⟩, fun j hj => ?_, by simp [hjl]⟩, S3, rfl⟩
    rcases List.mem_append.mp hj with hj | hj
    · exact hj0 j hj
    · rw [List.mem_singleton.mp hj, Int.fmod_eq_emod_of_nonneg _ (by decide)]
      exact Int.emod_nonneg _ (by decide)
  · rintro D ⟨⟩ ys g' h3 tk3 ⟨js, hjs, hj0, hjl⟩ hs3 heD S3
    (walk_at "un"; iterate 5 (walk1; walk_at "un"))
    rename_i a4 h4 ha4 S4
    have hjl2 : js.length ≤ 24 := by rw [hjl, List.length_take]; lia
    refine r_addlist S4 (S4.isL (.inl (.tail _ (.head _)))) (S4.isL (.inl (.head _))) (by simp only [List.length_cons, List.length_nil]; rw [sizeLine_eq]; have := Ints.length hjs; lia) ?_
    intro a5 h5 ha5 S5
    (walk_at "un"); refine k a5 (ys ++ [Value.int 1234567890123456789012345 _]) (js ++ [1234567890123456789012345]) g' h5 _ ⟨Ints.append hjs ⟨⟨_, rfl⟩, trivial⟩, fun j hj => ?_, by simp only [List.length_append, List.length_singleton]; lia⟩ (S5.fin _ fun p hp => by rcases List.mem_cons.mp hp with rfl | hp; exact .head _; cases hp) (S5.own _ (.head _)).2.1 ha5
    rcases List.mem_append.mp hj with hj | hj
    · exact hj0 j hj
    · rw [List.mem_singleton.mp hj]; decide
end
theorem ginst_of {K : Frag} {b : Heap} {g : GH} {x C dx : Addr} {es : List DictEntry} {k : Nat} {name : Str} {v : Str} {t : Tok} (W : Wo K b) (hb : ∀ a o, b.get? a = some o → g a = some o) (h1 : K.lookup x = some (instObj C dx)) (h2 : K.lookup dx = some (dictOf es k))
    (h3 : getL name es = some (some (.str v t))) : ∃ es k t, GInst g x C es k ∧ getL name es = some (some (.str v t)) := ⟨es, k, t, ⟨dx, hb _ _ (W.K _ _ h1), hb _ _ (W.K _ _ h2)⟩, h3⟩
theorem unspec_inst {w : World} {b : Heap} {g : GH} (W : Wo (Mine.hd0.heap_1 w.params) b) (hb : ∀ a o, b.get? a = some o → g a = some o) : ∃ es k t, GInst g 353 344 es k ∧ getL "title" es = some (some (.str "unspecified" t)) := by
  refine' ginst_of W hb ?h1 ?h2 ?h3
  case h1 => k_is
  case h2 => k_is
  case h3 => rfl
noncomputable def ownIn (S : List Int) (k : Nk) : List PyData := if k.num ∈ S then k.own else []
theorem ownIn_add {S : List Int} {k : Nk} {i : Int} (h : k.num ≠ i) : ownIn (i :: S) k = ownIn S k := by
  unfold ownIn
  simp [h]
theorem ownIn_all (k : Nk) : ownIn [10, 7, 3, 1, 0] k = k.own := by
  cases k <;> rfl
noncomputable def ToldSpec (prog : Program) (w : World) (t : Tree) : Prop :=
  ∀ {A : Around} {E : Value → Shared → Prop} {gs : Array GenState} {dr : Drawn} {tk : Tok} {os : OsState} {b : Heap} {g : GH} {h : Heap} {Q : Value → Shared → Prop} {v : Value},
    Wo (Mine.hd0.heap_1 w.params) b → Cx A (3 + 2 * t.ht) (20 + 6 * t.ht) → Pre b g h [] → NodeAt w.params g v t → t.size ≤ 1000 →
    (∀ r g' h' tk', DataAt g' r (told t) → Fin ⟨h, g, []⟩ g' h' [] → Q r ⟨h', gs, dr, tk', os⟩) → wpAny (model prog w) A (call (.ref 760) [v]) Q E ⟨h, gs, dr, tk, os⟩
noncomputable abbrev TGo (P : Params) (gs : Array GenState) (dr : Drawn) (os : OsState) (b h : Heap) (g : GH) (L : Addr) (v : Value) (k0 : Nk) (S : List Int) (K : Shared → Prop) : Prop :=
  ∀ (a : Addr) (os0 : List Value) (j : Nat) (g1 : GH) (h1 : Heap) (tk1 : Tok), (∀ c o, g c = some o → g1 c = some o) → g1 a = some (listO os0 j) → DatasAt g1 os0 (ownIn S k0) → St b ⟨h, g, []⟩ g1 L h1 [("_law_own", .ref a), ("_law_node", v)] [] → K ⟨h1, gs, dr, tk1, os⟩
theorem own_len (k : Nk) : k.own.length ≤ 3 := by cases k <;> simp [Nk.own]
theorem CVal.handed {g : GH} {c : CV} {cv : Value} (hc : CVal g c cv) : handedIn cv = true := by
  cases c with
  | num i => obtain ⟨t, rfl⟩ := hc; rfl
  | bool x => cases hc; rfl
  | unspec => cases hc; rfl
  | pair => obtain ⟨x, es, k, rfl, _⟩ := hc; rfl
theorem DatasAt.len {g : GH} : ∀ {vs ds}, DatasAt g vs ds → vs.length = ds.length := DatasAt.length
theorem handIn_of : ∀ {vs : List Value}, (∀ v ∈ vs, ∃ x, v = .ref x) → HandIn vs
  | [], _ => trivial
  | v :: vs, h => ⟨by obtain ⟨x, rfl⟩ := h v (.head _); rfl, handIn_of fun u hu => h u (.tail _ hu)⟩
theorem tolds_get : ∀ {ts : List Tree} {i : Nat} {t : Tree}, ts[i]? = some t → (tolds ts)[i]? = some (told t)
  | t :: ts, 0, _, h => by cases h; rfl
  | t :: ts, i + 1, u, h => by
    have := tolds_get (ts := ts) (i := i) (by simpa using h)
    simpa [tolds] using this
  | [], _, _, h => by simp at h
theorem size_mem : ∀ {ts : List Tree} {t : Tree}, t ∈ ts → t.size ≤ sizes ts ∧ t.ht ≤ hts ts
  | u :: ts, t, h => by
    simp only [sizes, hts]
    rcases List.mem_cons.mp h with rfl | h
    · lia
    · have := size_mem h; lia
theorem Tree.ind {P : Tree → Prop} (step : ∀ k ks, (∀ t ∈ ks, P t) → P (.node k ks)) (t : Tree) : P t := by
  have : ∀ (n : Nat) (t : Tree), t.size ≤ n → P t := by
    intro n
    induction n with
    | zero => rintro ⟨k, ks⟩ h; simp only [Tree.size] at h; lia
    | succ n ih =>
      rintro ⟨k, ks⟩ h
      refine step k ks fun t ht => ih t ?_
      have := (size_mem ht).1
      simp only [Tree.size] at h; lia
  exact this _ t (Nat.le_refl _)
theorem digit : ∀ i : _root_.Fin 10, ((i.val : Nat) : Int).natAbs.log2 < 1920 ∧ (toString ((i.val : Nat) : Int) : Str).length ≤ sizeLine := by decide +kernel
section
variable {prog : Program} {w : World}
set_option maxHeartbeats 8000000 in
theorem told_step (k0 : Nk) (ks : List Tree) (IH : ∀ t ∈ ks, ToldSpec prog w t) : ToldSpec prog w (.node k0 ks) := by
  intro A E gs dr tk os b g h Q v W C P hv hz k
  refine hv.unmk ?_
  intro vs H hks
  obtain ⟨x, rfl⟩ := H.ref
  have hht : (Tree.node k0 ks).ht = 1 + hts ks := rfl
  have hsz : (Tree.node k0 ks).size = 1 + sizes ks := rfl
  refine r_call (d := 2 + 2 * (1 + hts ks)) (u := 17 + 6 * (1 + hts ks)) (binds := [("_law_node", .ref x)]) (l := [("_law_node", .ref x)]) W (C.mono (by first | decide | lia) (by first | decide | lia)) P (by k_is) (by k_is) rfl (by rfl) (.cons rfl .nil) ?_
  intro A' env L h' tk' C' N S E'
  (walk_at "un"); refine execs_cps (H := TGo w.params gs dr os b h g L (.ref x) k0 []) ?_ ?_
  · intro K_ hK_; (walk_at "un"; iterate 5 (walk1; walk_at "un"))
    (rename St _ _ _ _ _ _ _ => S)
    obtain ⟨g2, S2, hs2, hL2⟩ := S.freeze1 (by assumption)
    (walk_at "un"); exact hK_ _ [] _ _ _ _ hs2 hL2 (by rw [show ownIn [] k0 = [] by simp [ownIn]]; exact .nil) S2
  intro a1 vs1 j1 g1 h1 tk1 hs1 ha1 hd1 S1 --@A
  clear S
  (walk_at "un"); refine execs_cps (H := TGo w.params gs dr os b h g L (.ref x) k0 [0]) ?_ ?_
  · intro K_ hK_; (walk_at "un"; iterate 4 (walk1; walk_at "un"))
    refine r_kind W S1 (H.mono hs1) ?_
    intro t2 tk2
    (walk_at "un"; iterate 3 (walk1; walk_at "un"))
    by_cases hk : k0.num = 0
    · refine ite_pos (by simpa using hk) ?_
      clear k hks
      walk_at "fz"
      obtain ⟨c, hkm⟩ := Nk.is_const hk
      have H1 := H.mono hs1
      rw [hkm] at H1
      refine H1.uncon ?_
      intro t1 cv _ I hc
      walk_at "thaw"
      have hh := hc.handed
      (walk_at "un"; iterate 4 (walk1; walk_at "un"))
      (walk_at "un"); refine x_cps (H := fun K => ∀ t hh tt gg, (∀ a o, g1 a = some o → gg a = some o) → St b ⟨h, g, []⟩ gg L hh [("_law_own", .ref a1), ("_law_node", .ref x)] [] → K (.str c.text t) ⟨hh, gs, dr, tt, os⟩) ?_ ?_
      · intro K_ hK_; (walk_at "un"; iterate 8 (walk1; walk_at "un"))
        refine r_attr W S1 I rfl (by k_is) (by k_is) (by k_is) (by k_is) hh ?_
        intro _
        (walk_at "un"; iterate 9 (walk1; walk_at "un"))
        rename_i a2 h2 g2 hs2 hT2 S2
        have I2 := I.mono hs2
        have hc2 := hc.mono hs2
        cases c with
        | num i =>
          clear hh
          obtain ⟨t, rfl⟩ := hc
          have hh : handedIn (.int (i.val : Nat) t) = true := rfl
          refine r_isit W S2 kitx_int trivial hT2 (by kit_is) (by intro q; cases q) ?_
          intro _
          (walk_at "un"; iterate 1 (walk1; walk_at "un"))
          (refine ite_pos (by first | rfl | decide | assumption | simp) ?_)
          (walk_at "un"; iterate 6 (walk1; walk_at "un"))
          refine r_attr W S2 I2 rfl (by k_is) (by k_is) (by k_is) (by k_is) hh ?_
          intro _
          (walk_at "un"; iterate 1 (walk1; walk_at "un"))
          obtain ⟨d1, d2⟩ := digit i
          refine r_repr_int d1 d2 ?_
          intro t3 tk3
          (walk_at "un"); exact hK_ t3 h2 tk3 g2 hs2 S2
        | bool bx =>
          obtain rfl : cv = .bool bx := hc
          refine r_isit W S2 kitx_bool trivial hT2 (by kit_is) (by intro q; cases q) ?_
          intro _
          (walk_at "un"; iterate 1 (walk1; walk_at "un"))
          (refine ite_pos (by first | rfl | decide | assumption | simp) ?_)
          (walk_at "un"; iterate 6 (walk1; walk_at "un"))
          refine r_attr W S2 I2 rfl (by k_is) (by k_is) (by k_is) (by k_is) hh ?_
          intro _
          (walk_at "un"; iterate 1 (walk1; walk_at "un"))
          refine r_repr_bool ?_
          intro t3 tk3
          (walk_at "un"); exact hK_ t3 h2 tk3 g2 hs2 S2
        | unspec =>
          obtain rfl : cv = .ref 353 := hc
          obtain ⟨es, ku, tu, J, _⟩ := unspec_inst W (fun a o q => S2.gsub a o (S2.base a o q))
          obtain ⟨dx, I3⟩ := S2.inst J
          refine r_isit W S2 (kitx_own (by k_is) (by k_is) (by k_is) (by k_is) (by k_is) (by k_is)) I3 hT2 (by kit_is) (by intro q; cases q) ?_
          intro _
          (walk_at "un"; iterate 1 (walk1; walk_at "un"))
          (refine ite_neg (by first | decide | assumption | simp) ?_)
          (walk_at "un"; iterate 8 (walk1; walk_at "un"))
          refine r_attr W S2 I2 rfl (by k_is) (by k_is) (by k_is) (by k_is) hh ?_
          intro _
          (walk_at "un"; iterate 3 (walk1; walk_at "un"))
          refine r_isi W S2 (kitx_own (by k_is) (by k_is) (by k_is) (by k_is) (by k_is) (by k_is)) I3 (by kit_is) (by intro q; cases q) ?_
          intro _
          (walk_at "un"; iterate 1 (walk1; walk_at "un"))
          (refine ite_neg (by first | decide | assumption | simp) ?_)
          (walk_at "un"; iterate 1 (walk1; walk_at "un"))
          (walk_at "un"); exact hK_ _ h2 _ g2 hs2 S2
        | pair =>
          obtain ⟨xp, es, ku, rfl, J⟩ := hc2
          obtain ⟨dx, I3⟩ := S2.inst J
          refine r_isit W S2 (kitx_own (by k_is) (by k_is) (by k_is) (by k_is) (by k_is) (by k_is)) I3 hT2 (by kit_is) (by intro q; cases q) ?_
          intro _
          (walk_at "un"; iterate 1 (walk1; walk_at "un"))
          (refine ite_neg (by first | decide | assumption | simp) ?_)
          (walk_at "un"; iterate 8 (walk1; walk_at "un"))
          refine r_attr W S2 I2 rfl (by k_is) (by k_is) (by k_is) (by k_is) hh ?_
          intro _
          (walk_at "un"; iterate 3 (walk1; walk_at "un"))
          refine r_isi W S2 (kitx_own (by k_is) (by k_is) (by k_is) (by k_is) (by k_is) (by k_is)) I3 (by kit_is) (by intro q; cases q) ?_
          intro _
          (walk_at "un"; iterate 1 (walk1; walk_at "un"))
          (refine ite_pos (by first | rfl | decide | assumption | simp) ?_)
          (walk_at "un"; iterate 1 (walk1; walk_at "un"))
          (walk_at "un"); exact hK_ _ h2 _ g2 hs2 S2
      · intro t3 h3 tk3 g3 hs3 S3
        clear S1
        (walk_at "un"; iterate 4 (walk1; walk_at "un"))
        (rename St _ _ _ _ _ _ _ => S)
        obtain ⟨g4, S4, hs4, hL4⟩ := S.freeze1 (by assumption)
        (walk_at "un"); exact hK_ _ [_] _ _ _ _ (fun a o q => hs4 a o (hs3 a o (hs1 a o q))) hL4 (by rw [show ownIn [0] k0 = [.str c.text] by rw [hkm]; rfl]; exact .cons (.str _ _) .nil) (S4.loc' _ (.cons rfl (.cons rfl .nil)))
    · refine ite_neg (by simpa using hk) ?_
      (walk_at "un"; iterate 1 (walk1; walk_at "un"))
      (walk_at "un"); exact hK_ a1 vs1 j1 g1 _ _ hs1 ha1 (by rw [ownIn_add hk]; exact hd1) S1
  intro a1 vs1 j1 g1 h1 tk1 hs1 ha1 hd1 S1 --@B
  (walk_at "un"); refine execs_cps (H := TGo w.params gs dr os b h g L (.ref x) k0 [3, 1, 0]) ?_ ?_
  · intro K_ hK_; (walk_at "un"; iterate 4 (walk1; walk_at "un"))
    refine r_kind W S1 (H.mono hs1) ?_
    intro t2 tk2
    (walk_at "un"; iterate 7 (walk1; walk_at "un"))
    rename_i a2 h2 g2 hs2 hT2 S2
    refine r_inT (is := [1, 3]) S2 hT2 ⟨⟨_, rfl⟩, ⟨_, rfl⟩, trivial⟩ ?_
    (walk_at "un"; iterate 1 (walk1; walk_at "un"))
    by_cases hk : k0.num = 1 ∨ k0.num = 3
    · refine ite_pos (by rcases hk with q | q <;> simp [q]) ?_
      (walk_at "un"; iterate 6 (walk1; walk_at "un"))
      have H2 := H.mono fun a o q => hs2 a o (hs1 a o q)
      rcases hk with hk | hk
      · walk_at "fz"
        obtain ⟨m, hkm⟩ := Nk.is_loc hk
        rw [hkm] at H2
        refine H2.unloc ?_
        intro _ _ _ I
        walk_at "thaw"
        refine r_attr W S2 I rfl (by k_is) (by k_is) (by k_is) (by k_is) (by rfl) ?_
        intro _
        (walk_at "un"; iterate 4 (walk1; walk_at "un"))
        (rename St _ _ _ _ _ _ _ => S)
        obtain ⟨g4, S4, hs4, hL4⟩ := S.freeze1 (by assumption)
        (walk_at "un"); exact hK_ _ [_] _ _ _ _ (fun a o q => hs4 a o (hs2 a o (hs1 a o q))) hL4 (by rw [show ownIn [3, 1, 0] k0 = [.int m] by rw [hkm]; rfl]; exact .cons (.int _ _) .nil) (S4.loc' _ (.cons rfl (.cons rfl .nil)))
      · walk_at "fz"
        obtain ⟨m, hkm⟩ := Nk.is_set hk
        rw [hkm] at H2
        refine H2.unset ?_
        intro _ _ _ _ _ I
        walk_at "thaw"
        refine r_attr W S2 I rfl (by k_is) (by k_is) (by k_is) (by k_is) (by rfl) ?_
        intro _
        (walk_at "un"; iterate 4 (walk1; walk_at "un"))
        (rename St _ _ _ _ _ _ _ => S)
        obtain ⟨g4, S4, hs4, hL4⟩ := S.freeze1 (by assumption)
        (walk_at "un"); exact hK_ _ [_] _ _ _ _ (fun a o q => hs4 a o (hs2 a o (hs1 a o q))) hL4 (by rw [show ownIn [3, 1, 0] k0 = [.int m] by rw [hkm]; rfl]; exact .cons (.int _ _) .nil) (S4.loc' _ (.cons rfl (.cons rfl .nil)))
    · refine ite_neg (by simp only [not_or] at hk; simp; exact ⟨fun q => hk.1 q.symm, fun q => hk.2 q.symm⟩) ?_
      (walk_at "un"; iterate 1 (walk1; walk_at "un"))
      simp only [not_or] at hk
      (walk_at "un"); exact hK_ a1 vs1 j1 g2 _ _ (fun a o q => hs2 a o (hs1 a o q)) (hs2 _ _ ha1) (by rw [ownIn_add hk.2, ownIn_add hk.1]; exact hd1.mono hs2) S2
  intro a1 vs1 j1 g1 h1 tk1 hs1 ha1 hd1 S1
  (walk_at "un"); refine execs_cps (H := TGo w.params gs dr os b h g L (.ref x) k0 [3, 1, 0]) ?_ ?_
  · intro K_ hK_; (walk_at "un"; iterate 4 (walk1; walk_at "un"))
    refine r_kind W S1 (H.mono hs1) ?_
    intro t2 tk2
    (walk_at "un"; iterate 7 (walk1; walk_at "un"))
    rename_i a2 h2 g2 hs2 hT2 S2
    refine r_inT (is := [2, 4]) S2 hT2 ⟨⟨_, rfl⟩, ⟨_, rfl⟩, trivial⟩ ?_
    (walk_at "un"; iterate 1 (walk1; walk_at "un"))
    refine ite_neg (by have := k0.num_lt; simp; exact ⟨fun q => this.1 q.symm, fun q => this.2.1 q.symm⟩) ?_
    (walk_at "un"; iterate 1 (walk1; walk_at "un"))
    (walk_at "un"); exact hK_ a1 vs1 j1 g2 _ _ (fun a o q => hs2 a o (hs1 a o q)) (hs2 _ _ ha1) (hd1.mono hs2) S2
  intro a1 vs1 j1 g1 h1 tk1 hs1 ha1 hd1 S1 --@C
  (walk_at "un"); refine execs_cps (H := TGo w.params gs dr os b h g L (.ref x) k0 [7, 3, 1, 0]) ?_ ?_
  · intro K_ hK_; (walk_at "un"; iterate 4 (walk1; walk_at "un"))
    refine r_kind W S1 (H.mono hs1) ?_
    intro t2 tk2
    (walk_at "un"; iterate 3 (walk1; walk_at "un"))
    by_cases hk : k0.num = 7
    · refine ite_pos (by simp [hk]) ?_
      (walk_at "un"; iterate 6 (walk1; walk_at "un"))
      have H2 := H.mono hs1
      walk_at "fz"
      obtain ⟨i, ps, r, hkm⟩ := Nk.is_lam hk
      rw [hkm] at H2
      refine H2.unlam ?_
      intro _ _ _ _ _ _ _ _ _ _ _ I hp hi hpz
      walk_at "thaw"
      refine r_attr W S1 I rfl (by k_is) (by k_is) (by k_is) (by k_is) (by rfl) ?_
      intro _
      (walk_at "un"; iterate 7 (walk1; walk_at "un"))
      refine r_attr W S1 I rfl (by k_is) (by k_is) (by k_is) (by k_is) (by rfl) ?_
      intro _
      (walk_at "un"; iterate 1 (walk1; walk_at "un"))
      have hpl := Ints.length hi
      refine r_tupleof S1 (S1.isListG hp) (by rw [hpl, sizeLine_eq]; lia) ?_
      intro a3 h3 g3 hs3 hT3 S3
      (walk_at "un"; iterate 3 (walk1; walk_at "un"))
      refine r_attr W S3 (I.mono hs3) rfl (by k_is) (by k_is) (by k_is) (by k_is) (by rfl) ?_
      intro _
      (walk_at "un"; iterate 4 (walk1; walk_at "un"))
      (rename St _ _ _ _ _ _ _ => S)
      obtain ⟨g4, S4, hs4, hL4⟩ := S.freeze1 (by assumption)
      (walk_at "un"); exact hK_ _ [_, _, _] _ _ _ _ (fun a o q => hs4 a o (hs3 a o (hs1 a o q))) hL4 (by rw [show ownIn [7, 3, 1, 0] k0 = [.int i, .tuple (ps.map .int), .int r] by rw [hkm]; rfl]; exact .cons (.int _ _) (.cons (.tuple (hs4 _ _ hT3) (Ints.data hi)) (.cons (.int _ _) .nil))) (S4.loc' _ (.cons rfl (.cons rfl .nil)))
    · refine ite_neg (by simpa using hk) ?_
      (walk_at "un"; iterate 1 (walk1; walk_at "un"))
      (walk_at "un"); exact hK_ a1 vs1 j1 g1 _ _ hs1 ha1 (by rw [ownIn_add hk]; exact hd1) S1
  intro a1 vs1 j1 g1 h1 tk1 hs1 ha1 hd1 S1 --@D
  (walk_at "un"); refine execs_cps (H := TGo w.params gs dr os b h g L (.ref x) k0 [7, 3, 1, 0]) ?_ ?_
  · intro K_ hK_; (walk_at "un"; iterate 4 (walk1; walk_at "un"))
    refine r_kind W S1 (H.mono hs1) ?_
    intro t2 tk2
    (walk_at "un"; iterate 3 (walk1; walk_at "un"))
    refine ite_neg (by simp [k0.num_lt]) ?_
    (walk_at "un"; iterate 1 (walk1; walk_at "un"))
    (walk_at "un"); exact hK_ a1 vs1 j1 g1 _ _ hs1 ha1 hd1 S1
  intro a1 vs1 j1 g1 h1 tk1 hs1 ha1 hd1 S1
  (walk_at "un"); refine execs_cps (H := TGo w.params gs dr os b h g L (.ref x) k0 [10, 7, 3, 1, 0]) ?_ ?_
  · intro K_ hK_; (walk_at "un"; iterate 4 (walk1; walk_at "un"))
    refine r_kind W S1 (H.mono hs1) ?_
    intro t2 tk2
    (walk_at "un"; iterate 3 (walk1; walk_at "un"))
    by_cases hk : k0.num = 10
    · refine ite_pos (by simp [hk]) ?_
      (walk_at "un"; iterate 6 (walk1; walk_at "un"))
      have H2 := H.mono hs1
      walk_at "fz"
      obtain ⟨m, hkm⟩ := Nk.is_prim hk
      rw [hkm] at H2
      refine H2.unprim ?_
      intro _ _ _ _ _ I hL
      walk_at "thaw"
      refine r_attr W S1 I rfl (by k_is) (by k_is) (by k_is) (by k_is) (by rfl) ?_
      intro _
      (walk_at "un"; iterate 4 (walk1; walk_at "un"))
      (rename St _ _ _ _ _ _ _ => S)
      obtain ⟨g4, S4, hs4, hL4⟩ := S.freeze1 (by assumption)
      (walk_at "un"); exact hK_ _ [_] _ _ _ _ (fun a o q => hs4 a o (hs1 a o q)) hL4 (by rw [show ownIn [10, 7, 3, 1, 0] k0 = [.int m] by rw [hkm]; rfl]; exact .cons (.int _ _) .nil) (S4.loc' _ (.cons rfl (.cons rfl .nil)))
    · refine ite_neg (by simpa using hk) ?_
      (walk_at "un"; iterate 1 (walk1; walk_at "un"))
      (walk_at "un"); exact hK_ a1 vs1 j1 g1 _ _ hs1 ha1 (by rw [ownIn_add hk]; exact hd1) S1
  intro a1 vs1 j1 g1 h1 tk1 hs1 ha1 hd1 S1 --@E
  rw [ownIn_all] at hd1
  have ol := own_len k0
  have vl := DatasAt.length hd1
  (walk_at "un"; iterate 6 (walk1; walk_at "un"))
  refine r_kind W S1 (H.mono hs1) ?_
  intro t2 tk2
  (walk_at "un"; iterate 7 (walk1; walk_at "un"))
  refine r_tupleof S1 (S1.isListG ha1) (by rw [vl, sizeLine_eq]; lia) ?_
  intro a3 h3 g3 hs3 hT3 S3
  have H3 := H.mono fun a o q => hs3 a o (hs1 a o q)
  have hks3 : NodesAt w.params g3 vs ks := hks.mono fun a o q => hs3 a o (hs1 a o q)
  have hnl := NodesAt.length hks
  have hsl := sizes_len ks
  (walk_at "un"; iterate 5 (walk1; walk_at "un"))
  refine r_listcomp (cl' := []) (by with_unfolding_all rfl) ?_
  (walk_at "un"; iterate 2 (walk1; walk_at "un"))
  refine r_parts W (C'.mono (by first | decide | lia) (by first | decide | lia)) S3 H3 (handIn_of (NodesAt.handed hks)) (by first | decide | lia) ?_
  intro a4 j4 g4 h4 tk4 hs4 hL4 S4
  refine r_clist (σ := Unit) (fun i y ys g => DatasAt g ys ((tolds ks).take i)) (fun _ => []) (x0 := ()) C' N (by rfl) S4 hL4 (by rw [sizeLine_eq]; lia) .nil ?_ ?_
  · rintro i u ⟨⟩ ys g' C5 D oL h5 tk5 e5 E5 R_ hR_ hi5 hj5 hs5 N5 S5
    obtain ⟨ti, hti, hNi⟩ := NodesAt.get hks hi5
    have hsz5 := size_get hti
    (walk_at "un"; iterate 7 (walk1; walk_at "un"))
    refine IH ti (List.mem_of_getElem? hti) W (C'.mono (by first | decide | lia) (by first | decide | lia)) S5.pre0 (hNi.mono fun a o q => hs5 a o (hs4 a o (hs3 a o (hs1 a o q)))) (by first | decide | lia) ?_
    intro r g6 h6 tk6 hr F6
    have S6 := S5.back0 F6
    (walk_at "un"); refine ⟨(), g6, h6, tk6, _, ?_, S6, rfl⟩
    rw [take_snoc (tolds_get hti)]
    exact DatasAt.append (hj5.mono F6.gsub) (.cons hr .nil)
  · rintro D ⟨⟩ ys g' h5 tk5 hj5 hs5 heD S5
    obtain ⟨g6, S6, hs6, hD⟩ := S5.freeze1 heD
    rw [show ((tolds ks).take vs.length) = tolds ks by rw [List.take_of_length_le]; rw [tolds_length]; lia] at hj5
    have yl := DatasAt.length hj5
    rw [tolds_length] at yl
    (walk_at "un"; iterate 1 (walk1; walk_at "un"))
    refine r_tupleof S6 (S6.isListG hD) (by rw [yl, sizeLine_eq]; lia) ?_
    intro a7 h7 g7 hs7 hT7 S7
    (walk_at "un"; iterate 2 (walk1; walk_at "un"))
    rename_i a8 h8 g8 hs8 hT8 S8
    (walk_at "un"); refine k _ g8 _ _ (.tuple hT8 (.cons (.int _ _) (.cons (.tuple (hs8 _ _ (hs7 _ _ (hs6 _ _ (hs5 _ _ (hs4 _ _ hT3))))) (hd1.mono fun a o q => hs8 a o (hs7 a o (hs6 a o (hs5 a o (hs4 a o (hs3 a o q))))))) (.cons (.tuple (hs8 _ _ hT7) (hj5.mono fun a o q => hs8 a o (hs7 a o (hs6 a o q)))) .nil)))) (S8.fin _ fun _ q => q)
theorem told_spec (t : Tree) : ToldSpec prog w t := Tree.ind told_step t
end
noncomputable def CountSpec (prog : Program) (w : World) (t : Tree) : Prop :=
  ∀ {A : Around} {E : Value → Shared → Prop} {gs : Array GenState} {dr : Drawn} {tk : Tok} {os : OsState} {b : Heap} {g : GH} {h : Heap} {Q : Value → Shared → Prop} {v : Value} {kd n : Int} {tk1 tn : Tok},
    Wo (Mine.hd0.heap_1 w.params) b → Cx A (3 + 2 * t.ht) (20 + 6 * t.ht) → Pre b g h [] → DataAt g v (told t) → t.size ≤ 1000 →
    (∀ u g' h' tk', Fin ⟨h, g, []⟩ g' h' [] → Q (.int (cnt kd n t) u) ⟨h', gs, dr, tk', os⟩) → wpAny (model prog w) A (call (.ref 780) [v, .int kd tk1, .int n tn]) Q E ⟨h, gs, dr, tk, os⟩
section
variable {prog : Program} {w : World}
set_option maxHeartbeats 8000000 in
theorem count_step (k0 : Nk) (ks : List Tree) (IH : ∀ t ∈ ks, CountSpec prog w t) : CountSpec prog w (.node k0 ks) := by
  intro A E gs dr tk os b g h Q v kd n tk1 tn W C P hv hz k
  refine told_un hv ?_
  intro a t0 a1 a2 ovs pvs ha ha1 ho ha2 hp
  have hht : (Tree.node k0 ks).ht = 1 + hts ks := rfl
  have hsz : (Tree.node k0 ks).size = 1 + sizes ks := rfl
  have hnl := DatasAt.length hp
  rw [tolds_length] at hnl
  have hsl := sizes_len ks
  refine r_callC (d := 2 + 2 * (1 + hts ks)) (u := 17 + 6 * (1 + hts ks)) (binds := [("_law_built", .ref a), ("_law_kind", .int kd tk1), ("_law_number", .int n tn)]) (l := [("_law_built", .ref a)]) W (C.mono (by first | decide | lia) (by first | decide | lia)) P (by k_is) (by k_is) rfl (by rfl) (.cons rfl .nil) ?_
  intro A' env L h' tk' g1 C' N hs1 S hc E'
  have hck : CellIs g1 (L + 1) (.int kd tk1) := hc "_law_kind" (L + 1) (.int kd tk1) rfl rfl
  have hcn : CellIs g1 (L + 2) (.int n tn) := hc "_law_number" (L + 2) (.int n tn) rfl rfl
  replace N : En env _ [("_law_number", L + 2), ("_law_kind", L + 1)] L := N
  clear hc
  (walk_at "un"; iterate 4 (walk1; walk_at "un"))
  (walk_at "un"); refine x_cps (H := fun K => ∀ t hh tt gg, (∀ a o, g1 a = some o → gg a = some o) → St b ⟨h, g, []⟩ gg L hh [("_law_built", .ref a)] [] → K (.int (if hereB kd n k0 then 1 else 0) t) ⟨hh, gs, dr, tt, os⟩) ?_ ?_
  · intro K_ hK_; (walk_at "un"; iterate 7 (walk1; walk_at "un"))
    refine r_titem S (hs1 _ _ ha) (by decide) (by decide) rfl ?_
    (walk_at "un"; iterate 3 (walk1; walk_at "un"))
    by_cases hk : (k0.num == kd) = true
    · refine ite_pos hk ?_
      (walk_at "un"; iterate 5 (walk1; walk_at "un"))
      refine r_titem S (hs1 _ _ ha) (by decide) (by decide) rfl ?_
      (walk_at "un"; iterate 5 (walk1; walk_at "un"))
      rename_i a5 h5 g5 hs5 hT5 S5
      have o5 : DataAt g5 (.ref a1) (.tuple k0.own) := .tuple (hs5 _ _ (hs1 _ _ ha1)) (ho.mono fun a o q => hs5 a o (hs1 a o q))
      have n5 : DataAt g5 (.ref a5) (.tuple [.int n]) := .tuple hT5 (.cons (.int _ _) .nil)
      obtain ⟨as1, R1⟩ := o5.reads S5.gk
      obtain ⟨as2, R2⟩ := n5.reads S5.gk
      refine r_eq C' R1 R2 (own_lay k0).1 (by simp [PyData.canLay0, PyData.canLayAll0]) (by have := (own_lay k0).2; lia) ?_
      (walk_at "un"; iterate 1 (walk1; walk_at "un"))
      refine r_int_bool ?_
      intro u6 tk6
      (walk_at "un"); refine x_at ?_ (hK_ u6 _ _ g5 hs5 S5)
      unfold hereB
      rw [hk, Bool.true_and]
    · refine ite_neg hk ?_
      (walk_at "un"; iterate 1 (walk1; walk_at "un"))
      refine r_int_bool ?_
      intro u6 tk6
      (walk_at "un"); refine x_at ?_ (hK_ u6 _ _ g1 (fun _ _ q => q) S)
      unfold hereB
      rw [Bool.eq_false_iff.mpr hk, Bool.false_and]
  · intro t3 h3 tk3 g3 hs3 S3
    clear S
    replace hck := hck.mono hs3
    replace hcn := hcn.mono hs3
    (walk_at "un"; iterate 9 (walk1; walk_at "un"))
    refine r_listcomp (cl' := [("_law_number", L + 2), ("_law_kind", L + 1)]) (env_cells N.ce fun _ => rfl) ?_
    (rename St _ _ _ _ _ _ _ => S)
    have ha3 := hs3 _ _ (hs1 _ _ ha)
    have hp3 := hp.mono fun a o q => hs3 a o (hs1 a o q)
    (walk_at "un"; iterate 3 (walk1; walk_at "un"))
    refine r_titem S ha3 (by decide) (by decide) rfl ?_
    refine r_ctuple (σ := Unit) (fun i y ys g => Ints ys ((cntL kd n ks).take i)) (fun _ => []) (x0 := ()) C' N (by rfl) S (hs3 _ _ (hs1 _ _ ha2)) (by rw [hnl, sizeLine_eq]; lia) trivial ?_ ?_
    · rintro i u ⟨⟩ ys g' C5 D oL h5 tk5 e5 E5 R_ hR_ hi5 hj5 hs5 N5 S5
      obtain ⟨di, hdi, hDi⟩ := DatasAt.at hp3 hi5
      obtain ⟨ti, hti, rfl⟩ := tolds_get' hdi
      have hsz5 := size_mem (List.mem_of_getElem? hti)
      replace hck := hck.mono hs5
      replace hcn := hcn.mono hs5
      (walk_at "un"; iterate 11 (walk1; walk_at "un"))
      refine IH ti (List.mem_of_getElem? hti) W (C'.mono (by first | decide | lia) (by first | decide | lia)) S5.pre0 (hDi.mono hs5) (by first | decide | lia) ?_
      intro u6 g6 h6 tk6 F6
      have S6 := S5.back0 F6
      (walk_at "un"); refine ⟨(), g6, h6, tk6, _, ?_, S6, rfl⟩
      rw [take_snoc (cntL_get hti)]
      exact Ints.append hj5 ⟨⟨_, rfl⟩, trivial⟩
    · rintro D ⟨⟩ ys g' h5 tk5 hj5 hs5 heD S5
      obtain ⟨g6, S6, hs6, hD⟩ := S5.freeze1 heD
      rw [show ((cntL kd n ks).take pvs.length) = cntL kd n ks by rw [List.take_of_length_le]; rw [cntL_length]; lia] at hj5
      (walk_at "un"; iterate 1 (walk1; walk_at "un"))
      refine r_sum (C'.mono (d' := 0) (u' := 1) (by first | decide | lia) (by first | decide | lia)) S6 hD hj5 ?_
      intro u7 h7 tk7 S7
      (walk_at "un"; iterate 1 (walk1; walk_at "un"))
      (walk_at "un"); exact k _ g6 _ _ (S7.fin _ fun _ q => q)
theorem count_spec (t : Tree) : CountSpec prog w t := Tree.ind count_step t
noncomputable def PutSpec (prog : Program) (w : World) (t : Tree) : Prop :=
  ∀ {A : Around} {E : Value → Shared → Prop} {gs : Array GenState} {dr : Drawn} {tk : Tok} {os : OsState} {b : Heap} {g : GH} {h : Heap} {Q : Value → Shared → Prop} {v u : Value} {o : Tree} {n : Int} {tn : Tok},
    Wo (Mine.hd0.heap_1 w.params) b → Cx A (3 + 2 * t.ht) (20 + 6 * t.ht) → Pre b g h [] → DataAt g v (told t) → DataAt g u (told o) → t.size ≤ 1000 →
    (∀ r g' h' tk', DataAt g' r (told (putT n o t)) → Fin ⟨h, g, []⟩ g' h' [] → Q r ⟨h', gs, dr, tk', os⟩) → wpAny (model prog w) A (call (.ref 785) [v, .int n tn, u]) Q E ⟨h, gs, dr, tk, os⟩
set_option maxHeartbeats 8000000 in
theorem put_step (k0 : Nk) (ks : List Tree) (IH : ∀ t ∈ ks, PutSpec prog w t) : PutSpec prog w (.node k0 ks) := by
  intro A E gs dr tk os b g h Q v u o n tn W C P hv hu hz k
  refine told_un hv ?_
  intro a t0 a1 a2 ovs pvs ha ha1 ho ha2 hp
  have hht : (Tree.node k0 ks).ht = 1 + hts ks := rfl
  have hsz : (Tree.node k0 ks).size = 1 + sizes ks := rfl
  have hnl := DatasAt.length hp
  rw [tolds_length] at hnl
  have hsl := sizes_len ks
  refine r_callC (d := 2 + 2 * (1 + hts ks)) (u := 17 + 6 * (1 + hts ks)) (binds := [("_law_built", .ref a), ("_law_number", .int n tn), ("_law_other", u)]) (l := [("_law_built", .ref a)]) W (C.mono (by first | decide | lia) (by first | decide | lia)) P (by k_is) (by k_is) rfl (by rfl) (.cons rfl .nil) ?_
  intro A' env L h' tk' g1 C' N hs1 S hc E'
  have hcn : CellIs g1 (L + 1) (.int n tn) := hc "_law_number" (L + 1) (.int n tn) rfl rfl
  have hco : CellIs g1 (L + 2) u := hc "_law_other" (L + 2) u rfl rfl
  replace N : En env _ [("_law_other", L + 2), ("_law_number", L + 1)] L := N
  clear hc
  replace ha := hs1 _ _ ha
  replace ha1 := hs1 _ _ ha1
  replace ha2 := hs1 _ _ ha2
  replace ho := ho.mono hs1
  replace hp := hp.mono hs1
  replace hu := hu.mono hs1
  (walk_at "un"; iterate 3 (walk1; walk_at "un"))
  (walk_at "un"); refine x_cps (H := fun K => ∀ hh tt gg, (∀ a o, g1 a = some o → gg a = some o) → St b ⟨h, g, []⟩ gg L hh [("_law_built", .ref a)] [] → K (hereB 1 n k0) ⟨hh, gs, dr, tt, os⟩) ?_ ?_
  · intro K_ hK_; (walk_at "un"; iterate 5 (walk1; walk_at "un")) --@A
    refine r_titem S ha (by decide) (by decide) rfl ?_
    (walk_at "un"; iterate 3 (walk1; walk_at "un"))
    by_cases hk : (k0.num == 1) = true
    · refine ite_pos hk ?_
      (walk_at "un"; iterate 5 (walk1; walk_at "un"))
      refine r_titem S ha (by decide) (by decide) rfl ?_
      (walk_at "un"; iterate 5 (walk1; walk_at "un"))
      rename_i a5 h5 g5 hs5 hT5 S5
      have o5 : DataAt g5 (.ref a1) (.tuple k0.own) := .tuple (hs5 _ _ ha1) (ho.mono hs5)
      have n5 : DataAt g5 (.ref a5) (.tuple [.int n]) := .tuple hT5 (.cons (.int _ _) .nil)
      obtain ⟨as1, R1⟩ := o5.reads S5.gk
      obtain ⟨as2, R2⟩ := n5.reads S5.gk
      refine r_eq C' R1 R2 (own_lay k0).1 (by simp [PyData.canLay0, PyData.canLayAll0]) (by have := (own_lay k0).2; lia) ?_
      (walk_at "un"; iterate 1 (walk1; walk_at "un"))
      by_cases hq : PyData.eqv (.tuple k0.own) (.tuple [.int n]) = true
      · refine ite_pos hq ?_
        (walk_at "un"; iterate 1 (walk1; walk_at "un"))
        (walk_at "un"); refine x_at ?_ (hK_ _ _ g5 hs5 S5)
        unfold hereB
        rw [hk, hq]; rfl
      · refine ite_neg hq ?_
        (walk_at "un"); refine x_at ?_ (hK_ _ _ g5 hs5 S5)
        unfold hereB
        rw [Bool.eq_false_iff.mpr hq, Bool.and_false]
    · refine ite_neg hk ?_
      (walk_at "un"); refine x_at ?_ (hK_ _ _ g1 (fun _ _ q => q) S)
      unfold hereB
      rw [Bool.eq_false_iff.mpr hk, Bool.false_and]
  · intro h3 tk3 g3 hs3 S3
    clear S
    replace hcn := hcn.mono hs3
    replace hco := hco.mono hs3
    replace ha := hs3 _ _ ha
    replace ha1 := hs3 _ _ ha1
    replace ha2 := hs3 _ _ ha2
    replace ho := ho.mono hs3
    replace hp := hp.mono hs3
    replace hu := hu.mono hs3
    by_cases hh : hereB 1 n k0 = true
    · refine ite_pos hh ?_
      (walk_at "un"; iterate 3 (walk1; walk_at "un"))
      (walk_at "un"); exact k _ g3 _ _ (by rw [show putT n o (.node k0 ks) = o by simp only [putT]; rw [if_pos hh]]; exact hu) (S3.fin _ fun _ q => q)
    · refine ite_neg hh ?_
      (walk_at "un"; iterate 8 (walk1; walk_at "un"))
      refine r_titem S3 ha (by decide) (by decide) rfl ?_
      (walk_at "un"; iterate 4 (walk1; walk_at "un"))
      refine r_titem S3 ha (by decide) (by decide) rfl ?_
      (walk_at "un"; iterate 5 (walk1; walk_at "un"))
      refine r_listcomp (cl' := [("_law_other", L + 2), ("_law_number", L + 1)]) (env_cells N.ce fun _ => rfl) ?_
      (walk_at "un"; iterate 3 (walk1; walk_at "un"))
      refine r_titem S3 ha (by decide) (by decide) rfl ?_
      refine r_ctuple (σ := Unit) (fun i y ys g => DatasAt g ys ((tolds (putL n o ks)).take i)) (fun _ => []) (x0 := ()) C' N (by rfl) S3 ha2 (by rw [hnl, sizeLine_eq]; lia) .nil ?_ ?_
      · rintro i x ⟨⟩ ys g' C5 D oL h5 tk5 e5 E5 R_ hR_ hi5 hj5 hs5 N5 S5
        obtain ⟨di, hdi, hDi⟩ := DatasAt.at hp hi5
        obtain ⟨ti, hti, rfl⟩ := tolds_get' hdi
        have hsz5 := size_mem (List.mem_of_getElem? hti)
        replace hcn := hcn.mono hs5
        replace hco := hco.mono hs5
        (walk_at "un"; iterate 11 (walk1; walk_at "un"))
        refine IH ti (List.mem_of_getElem? hti) W (C'.mono (by first | decide | lia) (by first | decide | lia)) S5.pre0 (hDi.mono hs5) (hu.mono hs5) (by first | decide | lia) ?_
        intro r g6 h6 tk6 hr F6
        have S6 := S5.back0 F6
        (walk_at "un"); refine ⟨(), g6, h6, tk6, _, ?_, S6, rfl⟩
        rw [take_snoc (tolds_get (putL_get hti))]
        exact DatasAt.append (hj5.mono F6.gsub) (.cons hr .nil)
      · rintro D ⟨⟩ ys g' h5 tk5 hj5 hs5 heD S5
        obtain ⟨g6, S6, hs6, hD⟩ := S5.freeze1 heD
        rw [show ((tolds (putL n o ks)).take pvs.length) = tolds (putL n o ks) by rw [List.take_of_length_le]; rw [tolds_length, putL_length]; lia] at hj5
        have yl := DatasAt.length hj5
        rw [tolds_length, putL_length] at yl
        (walk_at "un"; iterate 1 (walk1; walk_at "un"))
        refine r_tupleof S6 (S6.isListG hD) (by rw [yl, sizeLine_eq]; lia) ?_
        intro a7 h7 g7 hs7 hT7 S7
        (walk_at "un"; iterate 2 (walk1; walk_at "un"))
        rename_i a8 h8 g8 hs8 hT8 S8
        (walk_at "un"); refine k _ g8 _ _ ?_ (S8.fin _ fun _ q => q)
        rw [show putT n o (.node k0 ks) = .node k0 (putL n o ks) by simp only [putT]; rw [if_neg hh]]
        exact .tuple hT8 (.cons (.int _ _) (.cons (.tuple (hs8 _ _ (hs7 _ _ (hs6 _ _ (hs5 _ _ ha1)))) (ho.mono fun a o q => hs8 a o (hs7 a o (hs6 a o (hs5 a o q))))) (.cons (.tuple (hs8 _ _ hT7) (hj5.mono fun a o q => hs8 a o (hs7 a o (hs6 a o q)))) .nil)))
theorem put_spec (t : Tree) : PutSpec prog w t := Tree.ind put_step t
end
noncomputable def DueSpec (prog : Program) (w : World) (W0 t : Tree) : Prop :=
  ∀ {A : Around} {E : Value → Shared → Prop} {gs : Array GenState} {dr : Drawn} {tk : Tok} {os : OsState} {b : Heap} {g : GH} {h : Heap} {Q : Value → Shared → Prop} {v u : Value},
    Wo (Mine.hd0.heap_1 w.params) b → Cx A (6 + 2 * W0.ht + 2 * t.ht) (40 + 6 * W0.ht + 6 * t.ht) → Pre b g h [] → DataAt g v (told t) → DataAt g u (told W0) → t.wf → t.size ≤ 1000 → W0.size ≤ 1000 →
    (∀ r g' h' tk', DataAt g' r (told (dueT W0 t)) → Fin ⟨h, g, []⟩ g' h' [] → Q r ⟨h', gs, dr, tk', os⟩) → wpAny (model prog w) A (call (.ref 790) [v, u]) Q E ⟨h, gs, dr, tk, os⟩
noncomputable def isLetB : Nk → List Tree → Bool
  | .call, .node (.lam _ ps r) _ :: ops => decide (r < 0) && ps.length == ops.length
  | _, _ => false
theorem isLetB_inv {k : Nk} {ks : List Tree} (ha : arity k ks) (hw : wfL ks) (h : isLetB k ks = true) : ∃ l ps r body ops, k = .call ∧ ks = .node (.lam l ps r) [body] :: ops ∧ r < 0 ∧ ps.length = ops.length ∧ ps.length ≤ 100 := by
  unfold isLetB at h
  split at h
  · rename_i l ps r kxs ops
    have hx : kxs.length = 1 ∧ ps.length ≤ 100 := hw.1.1
    obtain ⟨body, rfl⟩ := List.length_eq_one_iff.mp hx.1
    simp only [Bool.and_eq_true, decide_eq_true_eq, beq_iff_eq] at h
    (walk_at "un"); exact ⟨l, ps, r, body, ops, rfl, rfl, h.1, h.2, hx.2⟩
  · cases h
noncomputable def dueAt (W0 body : Tree) (ps : List Int) (ops : List Tree) (i : Nat) : DS := dueGo W0 ⟨body, [], []⟩ (ps.take i) (ops.take i)
theorem dueGo_snoc {W : Tree} : ∀ {ps : List Int} {ops : List Tree} {x : DS} {n : Int} {o : Tree}, ps.length = ops.length → dueGo W x (ps ++ [n]) (ops ++ [o]) = dueTurn W (dueGo W x ps ops) n o
  | [], [], _, _, _, _ => rfl
  | p :: ps, q :: ops, x, n, o, h => by
    rw [List.cons_append, List.cons_append, dueGo, dueGo]
    exact dueGo_snoc (by simpa using h)
  | [], _ :: _, _, _, _, h => by simp at h
  | _ :: _, [], _, _, _, h => by simp at h
theorem dueAt_next {W0 body : Tree} {ps : List Int} {ops : List Tree} {i : Nat} {n : Int} {o : Tree} (h1 : ps[i]? = some n) (h2 : ops[i]? = some o) : dueAt W0 body ps ops (i + 1) = dueTurn W0 (dueAt W0 body ps ops i) n o := by
  unfold dueAt
  rw [take_snoc h1, take_snoc h2]
  have a1 := (List.getElem?_eq_some_iff.mp h1).1
  have a2 := (List.getElem?_eq_some_iff.mp h2).1
  exact dueGo_snoc (by rw [List.length_take, List.length_take]; lia)
theorem wfL_take {ts : List Tree} (h : wfL ts) (i : Nat) : wfL (ts.take i) := by
  have : wfL (ts.take i ++ ts.drop i) := by rw [List.take_append_drop]; exact h
  exact ((wfL_append _ _).mp this).1
theorem take_le (ts : List Tree) (i : Nat) : sizes (ts.take i) ≤ sizes ts ∧ hts (ts.take i) ≤ hts ts := by
  have h1 : sizes (ts.take i ++ ts.drop i) = sizes ts := by rw [List.take_append_drop]
  have h2 : hts (ts.take i ++ ts.drop i) = hts ts := by rw [List.take_append_drop]
  rw [sizes_append] at h1
  rw [hts_append] at h2
  lia
theorem dueAt_ok {W0 body : Tree} {ps : List Int} {ops : List Tree} {i : Nat} (hb : body.wf) (ho : wfL ops) : DK (dueAt W0 body ps ops i) (body.size + sizes ops) body.ht (hts ops) := by
  have h := take_le ops i
  exact DK.go (s := body.size) ⟨hb, trivial, rfl, by simp [sizes], Nat.le_refl _, by simp [hts]⟩ (wfL_take ho i) (by first | decide | lia) (by first | decide | lia)
noncomputable def atomB (W0 : Tree) (n : Int) (ko : Nk) : Bool := (ko.num == 0) && ((!PyData.eqv (.tuple ko.own) (.tuple [.str "pair"])) || cnt 1 n W0 == 1)
noncomputable def locB (W0 : Tree) : Nk → Bool
  | .loc m => cnt 3 m W0 == 0
  | _ => false
theorem eqv_pair (c : CV) : PyData.eqv (.tuple (Nk.const c).own) (.tuple [.str "pair"]) = (match c with | .pair => true | _ => false) := by
  have h : ∀ i : _root_.Fin 10, PyData.eqv (.tuple (Nk.const (.num i)).own) (.tuple [.str "pair"]) = false := by decide +kernel
  cases c with
  | num i => exact h i
  | bool x => cases x <;> decide +kernel
  | unspec => decide +kernel
  | pair => decide +kernel
theorem goB_eq (W0 : Tree) (n : Int) (ko : Nk) : goB W0 n ko = ((cnt 3 n W0 == 0) && (atomB W0 n ko || locB W0 ko)) := by
  cases ko with
  | const c =>
    unfold goB atomB locB
    rw [eqv_pair]
    cases c <;> simp [Nk.num]
  | loc m => simp [goB, atomB, locB, Nk.num]
  | _ => simp [goB, atomB, locB, Nk.num]
theorem arity_call {k : Nk} {ks : List Tree} (hk : k = .call) (h : arity k ks) : ∃ kx kxs ops, ks = .node kx kxs :: ops := by
  subst hk
  match ks, h with
  | .node kx kxs :: ops, _ => exact ⟨kx, kxs, ops, rfl⟩
theorem isLetB_other {k : Nk} {ks : List Tree} (hk : k.num ≠ 8) : isLetB k ks = false := by cases k <;> first | rfl | (simp [Nk.num] at hk)
theorem isLetB_nolam {k kx : Nk} {kxs ops : List Tree} (hk : kx.num ≠ 7) : isLetB k (.node kx kxs :: ops) = false := by cases kx <;> first | rfl | (cases k <;> rfl) | (simp [Nk.num] at hk)
theorem isLetB_lam {k : Nk} {l r : Int} {ps : List Int} {kxs ops : List Tree} (hk : k = .call) : isLetB k (.node (.lam l ps r) kxs :: ops) = (decide (r < 0) && ps.length == ops.length) := by subst hk; rfl
theorem locB_num {W0 : Tree} {ko : Nk} (h : ko.num ≠ 1) : locB W0 ko = (ko.num == 1) := by cases ko <;> first | rfl | (simp [Nk.num] at h)
@[elab_as_elim] theorem loc_un {g : GH} {xo : List Value} {m : Int} {C : List Value → Prop} (h : DatasAt g xo (Nk.own (.loc m))) (c : ∀ tm, C [.int m tm]) : C xo := by
  refine h.uncons ?_
  intro y z a b
  refine b.unnil ?_
  refine a.unint ?_
  exact c
structure DSt where
  a : Value
  b : List Value
  c : List Value
  d : Nat
  e : Nat
noncomputable abbrev dueL (y : Value) (ak ao ap a1 a7 : Addr) (l : Int) (tl t0 : Tok) : List (Str × Value) := [("_law_body", y), ("_law_kept", .ref ak), ("_law_operands", .ref ao), ("_law_params", .ref ap), ("_law_label", .int l tl), ("_law_kind", .int Nk.call.num t0), ("_law_own", .ref a1), ("_law_parts", .ref a7)]
theorem eqv_tnil (is : List Int) : PyData.eqv (.tuple (is.map .int)) (.tuple []) = is.isEmpty := by
  cases is <;> simp [PyData.eqv, PyData.eqvAll]
theorem dueStep_same {W : Tree} {k : Nk} {ks : List Tree} (h : isLetB k ks = false) : dueStep W k ks = .node k ks := by
  unfold dueStep
  split
  · rename_i l ps r body ops
    unfold dueLet
    rw [if_pos]
    simp only [isLetB, Bool.and_eq_false_iff, decide_eq_false_iff_not, beq_eq_false_iff_ne] at h
    rcases h with h | h
    · exact .inl (by first | decide | lia)
    · exact .inr h
  · rfl
section
variable {prog : Program} {w : World}
set_option maxHeartbeats 8000000 in
theorem due_step (W0 : Tree) (k0 : Nk) (ks : List Tree) (IH : ∀ t ∈ ks, DueSpec prog w W0 t) : DueSpec prog w W0 (.node k0 ks) := by
  intro A E gs dr tk os b g h Q v u W C P hv hu hwf hz hW k
  refine told_un hv ?_
  intro a t0 a1 a2 ovs pvs ha ha1 ho ha2 hp
  have hht : (Tree.node k0 ks).ht = 1 + hts ks := rfl
  have hsz : (Tree.node k0 ks).size = 1 + sizes ks := rfl
  have hnl := DatasAt.length hp
  rw [tolds_length] at hnl
  have hsl := sizes_len ks
  refine r_callC (d := 5 + 2 * W0.ht + 2 * (1 + hts ks)) (u := 37 + 6 * W0.ht + 6 * (1 + hts ks)) (binds := [("_law_built", .ref a), ("_law_whole", u)]) (l := [("_law_built", .ref a)]) W (C.mono (by first | decide | lia) (by first | decide | lia)) P (by k_is) (by k_is) rfl (by rfl) (.cons rfl .nil) ?_
  intro A' env L h' tk' g1 C' N hs1 S hc E'
  have hcw : CellIs g1 (L + 1) u := hc "_law_whole" (L + 1) u rfl rfl
  replace N : En env _ [("_law_whole", L + 1)] L := N
  clear hc
  replace ha := hs1 _ _ ha
  replace ha1 := hs1 _ _ ha1
  replace ha2 := hs1 _ _ ha2
  replace ho := ho.mono hs1
  replace hp := hp.mono hs1
  replace hu := hu.mono hs1
  (walk_at "un"; iterate 1 (walk1; walk_at "un"))
  refine Assign_Tuple_swapped (names := ["_law_kind", "_law_own", "_law_parts"]) ?_ (hw := env_scope N.hs fun _ => rfl)
  (walk_at "un"; iterate 5 (walk1; walk_at "un"))
  refine r_titem S ha (by decide) (by decide) rfl ?_
  (walk_at "un"; iterate 4 (walk1; walk_at "un"))
  refine r_titem S ha (by decide) (by decide) rfl ?_
  (walk_at "un"; iterate 5 (walk1; walk_at "un"))
  refine r_listcomp (cl' := [("_law_whole", L + 1)]) (env_cells N.ce fun _ => rfl) ?_
  (walk_at "un"; iterate 3 (walk1; walk_at "un"))
  refine r_titem S ha (by decide) (by decide) rfl ?_
  refine r_ctuple (σ := Unit) (fun i y ys g => DatasAt g ys ((tolds (dueTs W0 ks)).take i)) (fun _ => []) (x0 := ()) C' N (by rfl) S ha2 (by rw [hnl, sizeLine_eq]; lia) .nil ?_ ?_
  · rintro i x ⟨⟩ ys g' C5 D oL h5 tk5 e5 E5 R_ hR_ hi5 hj5 hs5 N5 S5
    obtain ⟨di, hdi, hDi⟩ := DatasAt.at hp hi5
    obtain ⟨ti, hti, rfl⟩ := tolds_get' hdi
    have hsz5 := size_mem (List.mem_of_getElem? hti)
    replace hcw := hcw.mono hs5
    (walk_at "un"; iterate 9 (walk1; walk_at "un"))
    refine IH ti (List.mem_of_getElem? hti) W (C'.mono (by first | decide | lia) (by first | decide | lia)) S5.pre0 (hDi.mono hs5) (hu.mono hs5) (wfL_mem hwf.2 (List.mem_of_getElem? hti)) (by first | decide | lia) hW ?_
    intro r g6 h6 tk6 hr F6
    have S6 := S5.back0 F6
    (walk_at "un"); refine ⟨(), g6, h6, tk6, _, ?_, S6, rfl⟩
    rw [take_snoc (tolds_get (dueTs_get hti))]
    exact DatasAt.append (hj5.mono F6.gsub) (.cons hr .nil)
  · rintro D ⟨⟩ ys g5 h5 tk5 hj5 hs5 heD S5
    obtain ⟨g6, S6, hs6, hD⟩ := S5.freeze1 heD
    rw [show ((tolds (dueTs W0 ks)).take pvs.length) = tolds (dueTs W0 ks) by rw [List.take_of_length_le]; rw [tolds_length, dueTs_length]; lia] at hj5
    have yl := DatasAt.length hj5
    rw [tolds_length, dueTs_length] at yl
    (walk_at "un"; iterate 1 (walk1; walk_at "un"))
    refine r_tupleof S6 (S6.isListG hD) (by rw [yl, sizeLine_eq]; lia) ?_
    intro a7 h7 g7 hs7 hT7 S7
    (walk_at "un"; iterate 2 (walk1; walk_at "un"))
    rename_i a8 h8 g8 hs8 hT8 S8
    refine r_swap3 C' N S8 hT8 (by rfl) (by rfl) (by rfl) ?_
    clear S5 S6 S8; intro h9 tk9 S9
    have hs18 : ∀ a o, g1 a = some o → g8 a = some o := fun a o q => hs8 a o (hs7 a o (hs6 a o (hs5 a o q)))
    replace ha1 := hs18 _ _ ha1
    replace ho := ho.mono hs18
    replace hu := hu.mono hs18
    replace hcw := hcw.mono hs18
    have hy : DatasAt g8 ys (tolds (dueTs W0 ks)) := hj5.mono fun a o q => hs8 a o (hs7 a o (hs6 a o q))
    replace hT7 := hs8 _ _ hT7
    have hok := dueTs_ok W0 ks hwf.2
    have har : arity k0 (dueTs W0 ks) := arity_len hwf.1 (dueTs_length W0 ks)
    generalize hks' : dueTs W0 ks = ks' at *
    have hstep : dueT W0 (.node k0 ks) = dueStep W0 k0 ks' := by rw [dueT, hks']
    rw [hstep] at k
    generalize hDs : dueStep W0 k0 ks' = Ds at k
    clear hj5 hks' hstep IH hp hwf hT8 hs1 hs5 hs6 hs7 hs8 hs18 hD
    (walk_at "un"; iterate 3 (walk1; walk_at "un"))
    (walk_at "un"); refine x_cps (H := fun K => ∀ hh tt, St b ⟨h, g, []⟩ g8 L hh [("_law_kind", .int k0.num t0), ("_law_own", .ref a1), ("_law_parts", .ref a7), ("_law_built", .ref a)] [] → K (!isLetB k0 ks') ⟨hh, gs, dr, tt, os⟩) ?_ ?_
    · intro K_ hK_; (walk_at "un"; iterate 6 (walk1; walk_at "un"))
      by_cases hk : k0.num = 8
      · refine ite_neg (by simp [hk]) ?_
        clear k hu hcw ho ha1
        walk_at "fz"
        have hkc : k0 = .call := Nk.is_call hk
        obtain ⟨kx, kxs, ops, hks⟩ := arity_call hkc har
        rw [hks] at hy hok
        have hwx := hok.1.1
        have hyl := DatasAt.length hy
        revert hT7 yl hyl
        refine hy.uncons ?_
        intro y0 ys hy0 hyr
        refine told_un hy0 ?_
        intro x0 tx x1 x2 xo xp hx0 hx1 hxo hx2 hxp yl hT7 hyl
        walk_at "thaw"
        (walk_at "un"; iterate 6 (walk1; walk_at "un"))
        refine r_titem S9 hT7 (by decide) (by decide) rfl ?_
        (walk_at "un"; iterate 1 (walk1; walk_at "un"))
        refine r_titem S9 hx0 (by decide) (by decide) rfl ?_
        (walk_at "un"; iterate 3 (walk1; walk_at "un"))
        by_cases hk7 : kx.num = 7
        · refine ite_neg (by simp [hk7]) ?_
          walk_at "fz"
          obtain ⟨l, ps, r, hkx⟩ := Nk.is_lam hk7
          rw [hkx] at hxo hwx
          revert hx1
          refine lam_un hxo ?_
          intro tl ap pvs tr hap hpi hx1
          walk_at "thaw"
          have hpl := DatasAt.length hpi
          rw [List.length_map] at hpl
          rw [tolds_length] at hyl
          simp only [List.length_cons] at hyl yl
          (walk_at "un"; iterate 7 (walk1; walk_at "un"))
          refine r_titem S9 hT7 (by decide) (by decide) rfl ?_
          (walk_at "un"; iterate 1 (walk1; walk_at "un"))
          refine r_titem S9 hx0 (by decide) (by decide) rfl ?_
          (walk_at "un"; iterate 1 (walk1; walk_at "un"))
          refine r_titem S9 hx1 (by decide) (by decide) rfl ?_
          (walk_at "un"; iterate 3 (walk1; walk_at "un"))
          by_cases hr : 0 ≤ r
          · refine ite_pos (by simpa using hr) ?_
            (walk_at "un"); exact x_at (by rw [hks, hkx, isLetB_lam hkc]; simp; lia) (hK_ _ _ S9)
          · refine ite_neg (by simpa using hr) ?_
            (walk_at "un"; iterate 11 (walk1; walk_at "un"))
            refine r_titem S9 hT7 (by decide) (by decide) rfl ?_
            (walk_at "un"; iterate 1 (walk1; walk_at "un"))
            refine r_titem S9 hx0 (by decide) (by decide) rfl ?_
            (walk_at "un"; iterate 1 (walk1; walk_at "un"))
            refine r_titem S9 hx1 (by decide) (by decide) rfl ?_
            (walk_at "un"; iterate 1 (walk1; walk_at "un"))
            refine r_tlen S9 hap (by rw [sizeLine_eq]; have : ps.length ≤ 100 := hwx.1.2; lia) ?_
            intro t10 tk10
            (walk_at "un"; iterate 7 (walk1; walk_at "un"))
            refine r_tlen S9 hT7 (by rw [sizeLine_eq]; simp only [List.length_cons]; lia) ?_
            intro t11 tk11
            (walk_at "un"; iterate 4 (walk1; walk_at "un"))
            by_cases hl2 : ps.length = ops.length
            · refine ite_neg (by simp only [List.length_cons]; simp; lia) ?_
              (walk_at "un"; iterate 1 (walk1; walk_at "un"))
              (walk_at "un"); exact x_at (by rw [hks, hkx, isLetB_lam hkc]; simp [hl2]; lia) (hK_ _ _ S9)
            · refine ite_pos (by simp only [List.length_cons]; simp; lia) ?_
              (walk_at "un"); exact x_at (by rw [hks, hkx, isLetB_lam hkc]; simp [hl2]) (hK_ _ _ S9)
        · refine ite_pos (by simp [hk7]) ?_
          (walk_at "un"); exact x_at (by rw [hks, isLetB_nolam hk7]; rfl) (hK_ _ _ S9)
      · refine ite_pos (by simp [hk]) ?_
        (walk_at "un"); exact x_at (by rw [isLetB_other hk]; rfl) (hK_ _ _ S9)
    · intro h10 tk10 S10
      clear S9
      by_cases hL : isLetB k0 ks' = true
      · refine ite_neg (by simp [hL]) ?_
        walk_at "fz"
        obtain ⟨l, ps, r, body, ops, hkc, hks, hr0, hlen, hp100⟩ := isLetB_inv har hok.1 hL
        rw [hkc, hks] at hDs
        rw [hks] at hy hok
        rw [hkc] at S10 ho
        clear har hL
        have hbz : body.ht + 1 ≤ hts ks ∧ body.size + sizes ops + 1 ≤ sizes ks := by
          have h1 := hok.2
          simp only [sizes, Tree.size, hts, Tree.ht] at h1; lia
        have hyl := DatasAt.length hy
        rw [tolds_length] at hyl
        have hy' := hy
        revert hT7 yl hyl hy'
        refine hy.uncons ?_
        clear hy
        intro y0 ys hy0 hyr
        refine told_un hy0 ?_
        intro x0 tx x1 x2 xo xp hx0 hx1 hxo hx2 hxp yl hT7 hyl hy
        revert hx1 hx2
        refine lam_un hxo ?_
        intro tl ap pvs tr hap hpi
        refine hxp.uncons ?_
        intro bv bz hbv hbz'
        refine hbz'.unnil ?_
        intro hx1 hx2
        have hpl := DatasAt.length hpi
        rw [List.length_map] at hpl
        walk_at "thaw"
        simp only [List.length_cons] at hyl yl
        (walk_at "un"; iterate 7 (walk1; walk_at "un"))
        refine r_titem S10 hT7 (by decide) (by decide) rfl ?_
        (walk_at "un"; iterate 1 (walk1; walk_at "un"))
        refine r_titem S10 hx0 (by decide) (by decide) rfl ?_
        (walk_at "un"; iterate 0 (walk1; walk_at "un"))
        refine r_asgT3 C' N S10 hx1 (by rfl) (by rfl) (by rfl) ?_
        clear S10; intro h11 tk11 S11
        (walk_at "un"; iterate 1 (walk1; walk_at "un"))
        refine Assign_Tuple_swapped (names := ["_law_body", "_law_kept", "_law_operands"]) ?_ (hw := env_scope N.hs fun _ => rfl)
        (walk_at "un"; iterate 7 (walk1; walk_at "un"))
        refine r_titem S11 hT7 (by decide) (by decide) rfl ?_
        (walk_at "un"; iterate 1 (walk1; walk_at "un"))
        refine r_titem S11 hx0 (by decide) (by decide) rfl ?_
        (walk_at "un"; iterate 1 (walk1; walk_at "un"))
        refine r_titem S11 hx2 (by decide) (by decide) rfl ?_
        (walk_at "un"; iterate 10 (walk1; walk_at "un"))
        rename_i ak oh9 oo9 ao oh8 oo8 at9 h12 g12 hs12 hT12 S12
        refine r_swap3 C' N S12 hT12 (by rfl) (by rfl) (by rfl) ?_
        clear S12; intro h13 tk13 S13
        replace hx1 := hs12 _ _ hx1
        (walk_at "un"; iterate 1 (walk1; walk_at "un"))
        refine wpAny_For ?_
        (walk_at "un"; iterate 8 (walk1; walk_at "un"))
        (rename St _ _ _ _ _ _ _ => S)
        refine r_tslc (j := 1) S (hs12 _ _ hT7) (by decide) (by simp) (by simp only [List.length_cons]; rw [sizeLine_eq]; lia) ?_
        clear S; intro a14 h14 g14 tk14 hs14 hT14 S14
        have hs8 : ∀ a o, g8 a = some o → g14 a = some o := fun a o q => hs14 a o (hs12 a o q)
        (walk_at "un"; iterate 1 (walk1; walk_at "un"))
        refine r_for_zipT (σ := DSt) (x0 := ⟨bv, [], [], 0, 0⟩) (fun i y g => DataAt g y.a (told (dueAt W0 body ps ops i).b) ∧ Ints y.b (dueAt W0 body ps ops i).ks ∧ DatasAt g y.c (tolds (dueAt W0 body ps ops i).os))
          (fun y => dueL y.a ak ao ap a1 a7 l tl t0)
          (fun y => [(ao, listO y.c y.e), (ak, listO y.b y.d)]) C' N (by rfl) (by rfl) (S14.loc' _ (.cons rfl (.cons rfl (.cons rfl (.cons rfl (.cons rfl (.cons rfl (.cons rfl (.cons rfl .nil))))))))) (hs8 _ _ hap) hT14 (by simp; lia) ⟨by simpa [dueAt, dueGo] using hbv.mono hs8, trivial, .nil⟩ ?_ ?_
        · rintro i v1 v2 ⟨y1, y2, y3, y4, y5⟩ g' h' tk' e' E9 R_ hR_ hv1 hv2 ⟨hj1, hj2, hj3⟩ hs' S'
          dsimp only at hj1 hj2 hj3 S' ⊢
          have hpv : pvs.length = ps.length := hpl
          clear k hDs
          walk_at "fz"
          obtain ⟨n, hn⟩ : ∃ n, ps[i]? = some n := ⟨_, List.getElem?_eq_getElem (by rw [← hpl]; exact (List.getElem?_eq_some_iff.mp hv1).1)⟩
          obtain ⟨o, hoo⟩ : ∃ o, ops[i]? = some o := ⟨_, List.getElem?_eq_getElem (by have := (List.getElem?_eq_some_iff.mp hv1).1; lia)⟩
          obtain ⟨tn, hv1'⟩ := Ints.get (Ints.of_data hpi) hn
          rw [hv1] at hv1'
          cases hv1'
          obtain ⟨v2', hv2', hdo⟩ := DatasAt.get hyr (tolds_get hoo)
          rw [show (Value.ref x0 :: ys).drop 1 = ys from rfl, hv2'] at hv2
          cases hv2
          replace hdo := hdo.mono fun a o q => hs' a o (hs8 a o q)
          replace hcw := hcw.mono fun a o q => hs' a o (hs8 a o q)
          replace hu := hu.mono fun a o q => hs' a o (hs8 a o q)
          obtain ⟨ko, kos⟩ := o
          have hdo' := hdo
          revert S' hdo'
          refine told_un hdo ?_
          clear hdo
          intro b0 bt b1 b2 bo bp hb0 hb1 hbo hb2 hbp S' hdo
          walk_at "thaw"
          have hX := dueAt_next (W0 := W0) (body := body) hn hoo
          have hwo := wfL_mem hok.1.2 (List.mem_of_getElem? hoo)
          have hD := dueAt_ok (W0 := W0) (ps := ps) (i := i) hok.1.1.2.1 hok.1.2
          (walk_at "un"); refine execs_cps (H := fun K => ∀ h2 tk2 g2, (∀ a o, g' a = some o → g2 a = some o) → St b e' g2 L h2 (("_law_is_atom_there", .bool (atomB W0 n ko)) :: ("_law_operand", .ref b0) :: ("_law_number", .int n tn) :: dueL y1 ak ao ap a1 a7 l tl t0) [(ao, listO y3 y5), (ak, listO y2 y4)] → K ⟨h2, gs, dr, tk2, os⟩) ?_ ?_
          · intro K_ hK_; (walk_at "un"; iterate 6 (walk1; walk_at "un"))
            refine r_titem S' hb0 (by decide) (by decide) rfl ?_
            (walk_at "un"; iterate 3 (walk1; walk_at "un"))
            by_cases hk0 : ko.num = 0
            · obtain ⟨c, hkc⟩ := Nk.is_const hk0
              rw [hkc] at hbo
              refine ite_pos (by simp [hk0]) ?_
              (walk_at "un"; iterate 6 (walk1; walk_at "un"))
              refine r_titem S' hb0 (by decide) (by decide) rfl ?_
              (walk_at "un"; iterate 5 (walk1; walk_at "un"))
              rename_i a20 h20 g20 hs20 hT20 S20
              have o5 : DataAt g20 (.ref b1) (.tuple (Nk.const c).own) := .tuple (hs20 _ _ hb1) (hbo.mono hs20)
              have n5 : DataAt g20 (.ref a20) (.tuple [.str "pair"]) := .tuple hT20 (.cons (.str _ _) .nil)
              obtain ⟨as1, R1⟩ := o5.reads S20.gk
              obtain ⟨as2, R2⟩ := n5.reads S20.gk
              refine r_ne C' R1 R2 (own_lay _).1 (by decide +kernel) (by have := (own_lay (.const c)).2; lia) ?_
              (walk_at "un"; iterate 1 (walk1; walk_at "un"))
              by_cases hq : PyData.eqv (.tuple (Nk.const c).own) (.tuple [.str "pair"]) = true
              · refine ite_neg (by simp [hq]) ?_
                replace hcw := hcw.mono hs20
                (walk_at "un"; iterate 13 (walk1; walk_at "un"))
                refine count_spec W0 W (C'.mono (by first | decide | lia) (by first | decide | lia)) S20.pre0 (hu.mono hs20) hW ?_
                intro u21 g21 h21 tk21 F21
                have S21 := S20.back0 F21
                (walk_at "un"; iterate 3 (walk1; walk_at "un"))
                (rename St _ _ _ _ _ _ _ => S)
                (walk_at "un"); refine hK_ _ _ g21 (fun a o q => F21.gsub _ _ (hs20 _ _ q)) ?_
                rw [show atomB W0 n ko = (cnt 1 n W0 == 1) by rw [hkc]; simp [atomB, hq, Nk.num]]
                exact S.loc' _ (.cons rfl (.cons rfl (.cons rfl (.cons rfl (.cons rfl (.cons rfl (.cons rfl (.cons rfl (.cons rfl (.cons rfl (.cons rfl .nil)))))))))))
              · refine ite_pos (by simp [hq]) ?_
                (walk_at "un"; iterate 1 (walk1; walk_at "un"))
                (rename St _ _ _ _ _ _ _ => S)
                (walk_at "un"); refine hK_ _ _ g20 hs20 ?_
                rw [show atomB W0 n ko = (!PyData.eqv (.tuple (Nk.const c).own) (.tuple [.str "pair"])) by rw [hkc]; simp [atomB, hq, Nk.num]]
                exact S.loc' _ (.cons rfl (.cons rfl (.cons rfl (.cons rfl (.cons rfl (.cons rfl (.cons rfl (.cons rfl (.cons rfl (.cons rfl (.cons rfl .nil)))))))))))
            · refine ite_neg (by simpa using hk0) ?_
              (walk_at "un"; iterate 1 (walk1; walk_at "un"))
              (rename St _ _ _ _ _ _ _ => S)
              (walk_at "un"); refine hK_ _ _ g' (fun _ _ q => q) ?_
              rw [show atomB W0 n ko = (ko.num == 0) by simp [atomB, hk0]]
              exact S.loc' _ (.cons rfl (.cons rfl (.cons rfl (.cons rfl (.cons rfl (.cons rfl (.cons rfl (.cons rfl (.cons rfl (.cons rfl (.cons rfl .nil)))))))))))
          intro h22 tk22 g22 hs22 S22
          clear S'
          (walk_at "un"); refine execs_cps (H := fun K => ∀ h2 tk2 g2, (∀ a o, g' a = some o → g2 a = some o) → St b e' g2 L h2 (("_law_is_local", .bool (locB W0 ko)) :: ("_law_is_atom_there", .bool (atomB W0 n ko)) :: ("_law_operand", .ref b0) :: ("_law_number", .int n tn) :: dueL y1 ak ao ap a1 a7 l tl t0) [(ao, listO y3 y5), (ak, listO y2 y4)] → K ⟨h2, gs, dr, tk2, os⟩) ?_ ?_
          · intro K_ hK_; (walk_at "un"; iterate 6 (walk1; walk_at "un"))
            refine r_titem S22 (hs22 _ _ hb0) (by decide) (by decide) rfl ?_
            (walk_at "un"; iterate 3 (walk1; walk_at "un"))
            by_cases hk1 : ko.num = 1
            · walk_at "fz"
              obtain ⟨m, hkm⟩ := Nk.is_loc hk1
              rw [hkm] at hbo
              revert hb1
              refine loc_un hbo ?_
              intro tm hb1
              walk_at "thaw"
              refine ite_pos (by simp [hk1]) ?_
              replace hcw := hcw.mono hs22
              (walk_at "un"; iterate 14 (walk1; walk_at "un"))
              refine r_titem S22 (hs22 _ _ hb0) (by decide) (by decide) rfl ?_
              (walk_at "un"; iterate 1 (walk1; walk_at "un"))
              refine r_titem S22 (hs22 _ _ hb1) (by decide) (by decide) rfl ?_
              (walk_at "un"; iterate 2 (walk1; walk_at "un"))
              refine count_spec W0 W (C'.mono (by first | decide | lia) (by first | decide | lia)) S22.pre0 (hu.mono hs22) hW ?_
              intro u21 g21 h21 tk21 F21
              have S21 := S22.back0 F21
              (walk_at "un"; iterate 3 (walk1; walk_at "un"))
              (rename St _ _ _ _ _ _ _ => S)
              (walk_at "un"); refine hK_ _ _ g21 (fun a o q => F21.gsub _ _ (hs22 _ _ q)) ?_
              rw [show locB W0 ko = (cnt 3 m W0 == 0) by rw [hkm]; rfl]
              exact S.loc' _ (.cons rfl (.cons rfl (.cons rfl (.cons rfl (.cons rfl (.cons rfl (.cons rfl (.cons rfl (.cons rfl (.cons rfl (.cons rfl (.cons rfl .nil))))))))))))
            · refine ite_neg (by simpa using hk1) ?_
              (walk_at "un"; iterate 1 (walk1; walk_at "un"))
              (rename St _ _ _ _ _ _ _ => S)
              (walk_at "un"); refine hK_ _ _ g22 hs22 ?_
              rw [locB_num hk1]
              exact S.loc' _ (.cons rfl (.cons rfl (.cons rfl (.cons rfl (.cons rfl (.cons rfl (.cons rfl (.cons rfl (.cons rfl (.cons rfl (.cons rfl (.cons rfl .nil))))))))))))
          intro h23 tk23 g23 hs23 S23
          clear S22
          replace hcw := hcw.mono hs23
          replace hu := hu.mono hs23
          (walk_at "un"; iterate 3 (walk1; walk_at "un"))
          (walk_at "un"); refine x_cps (H := fun K => ∀ hh tt g24, (∀ a o, g' a = some o → g24 a = some o) → St b e' g24 L hh (("_law_operand", .ref b0) :: ("_law_number", .int n tn) :: dueL y1 ak ao ap a1 a7 l tl t0) [(ao, listO y3 y5), (ak, listO y2 y4)] → K (goB W0 n ko) ⟨hh, gs, dr, tt, os⟩) ?_ ?_
          · intro K_ hK_; (walk_at "un"; iterate 13 (walk1; walk_at "un"))
            refine count_spec W0 W (C'.mono (by first | decide | lia) (by first | decide | lia)) S23.pre0 hu hW ?_
            intro u24 g24 h24 tk24 F24
            have S24 := S23.back0 F24
            clear S23
            have hs24 : ∀ a o, g' a = some o → g24 a = some o := fun a o q => F24.gsub _ _ (hs23 _ _ q)
            have KL : ∀ {x y : Value}, Knows (("_law_operand", .ref b0) :: ("_law_number", .int n tn) :: dueL y1 ak ao ap a1 a7 l tl t0) (fun x' => List.lookup x' (("_law_is_local", x) :: ("_law_is_atom_there", y) :: ("_law_operand", .ref b0) :: ("_law_number", .int n tn) :: dueL y1 ak ao ap a1 a7 l tl t0)) := (.cons rfl (.cons rfl (.cons rfl (.cons rfl (.cons rfl (.cons rfl (.cons rfl (.cons rfl (.cons rfl (.cons rfl .nil))))))))))
            (walk_at "un"; iterate 3 (walk1; walk_at "un"))
            by_cases hc3 : (cnt 3 n W0 == 0) = true
            · refine ite_pos hc3 ?_
              (walk_at "un"; iterate 6 (walk1; walk_at "un"))
              by_cases hat : atomB W0 n ko = true
              · refine ite_pos hat ?_
                (refine ite_pos (by first | rfl | decide | assumption | simp) ?_)
                (walk_at "un"; iterate 1 (walk1; walk_at "un"))
                (walk_at "un"); exact x_at (by rw [goB_eq, hc3, hat]; rfl) (hK_ _ _ g24 hs24 (S24.loc' _ KL))
              · refine ite_neg hat ?_
                (walk_at "un"; iterate 4 (walk1; walk_at "un"))
                by_cases hlo : locB W0 ko = true
                · refine ite_pos hlo ?_
                  (refine ite_pos (by first | rfl | decide | assumption | simp) ?_)
                  (walk_at "un"; iterate 1 (walk1; walk_at "un"))
                  (walk_at "un"); exact x_at (by rw [goB_eq, hc3, hlo, Bool.or_true]; rfl) (hK_ _ _ g24 hs24 (S24.loc' _ KL))
                · refine ite_neg hlo ?_
                  (walk_at "un"; iterate 1 (walk1; walk_at "un"))
                  (refine ite_neg (by first | decide | assumption | simp) ?_)
                  (walk_at "un"); exact x_at (by rw [goB_eq, Bool.eq_false_iff.mpr hat, Bool.eq_false_iff.mpr hlo]; simp) (hK_ _ _ g24 hs24 (S24.loc' _ KL))
            · refine ite_neg hc3 ?_
              (walk_at "un"; iterate 0 (walk1; walk_at "un"))
              (walk_at "un"); exact x_at (by rw [goB_eq, Bool.eq_false_iff.mpr hc3]; rfl) (hK_ _ _ g24 hs24 (S24.loc' _ KL))
          · intro h25 tk25 g25 hs25 S25
            clear S23
            by_cases hG : goB W0 n ko = true
            · refine ite_pos hG ?_
              (walk_at "un"; iterate 13 (walk1; walk_at "un"))
              refine put_spec _ W (C'.mono (by have := hD.hb; lia) (by have := hD.hb; lia)) S25.pre0 (hj1.mono hs25) (hdo.mono hs25) (by have := hD.sz; lia) ?_
              intro r26 g26 h26 tk26 hr26 F26
              have S26 := S25.back0 F26
              clear S25
              (walk_at "un"; iterate 3 (walk1; walk_at "un"))
              (rename St _ _ _ _ _ _ _ => S)
              (walk_at "un"); refine ⟨⟨r26, y2, y3, y4, y5⟩, g26, _, _, ?_, S.loc' _ ?_, rfl⟩
              · rw [hX, dueTurn]
                rw [if_pos (show goB W0 n (Tree.node ko kos).kd = true from hG)]
                (walk_at "un"); exact ⟨hr26, hj2, hj3.mono fun a o q => F26.gsub _ _ (hs25 _ _ q)⟩
              · exact .cons rfl (.cons rfl (.cons rfl (.cons rfl (.cons rfl (.cons rfl (.cons rfl (.cons rfl .nil)))))))
            · refine ite_neg hG ?_
              (walk_at "un"; iterate 9 (walk1; walk_at "un"))
              have hkl : (dueAt W0 body ps ops i).ks.length ≤ 100 := by
                have := dueGo_len (W := W0) (ns := ps.take i) (os := ops.take i) (x := ⟨body, [], []⟩)
                simp only [List.length_nil, List.length_take] at this
                unfold dueAt; lia
              have yl2 := Ints.length hj2
              have yl3 := DatasAt.length hj3
              rw [tolds_length, ← hD.len] at yl3
              (rename St _ _ _ _ _ _ _ => S)
              refine r_append S (.tail .head) (by rw [yl2, sizeLine_eq]; lia) ?_
              clear S; intro h26 S26
              (walk_at "un"; iterate 9 (walk1; walk_at "un"))
              (rename St _ _ _ _ _ _ _ => S)
              refine r_append S .head (by rw [yl3, sizeLine_eq]; lia) ?_
              clear S; intro h27 S27
              (walk_at "un"; iterate 2 (walk1; walk_at "un"))
              (walk_at "un"); refine ⟨⟨y1, y2 ++ [.int n tn], y3 ++ [.ref b0], y4 + 1, y5 + 1⟩, g25, _, _, ?_, S27.loc' _ ?_, rfl⟩
              · rw [hX, dueTurn]
                rw [if_neg (show ¬ goB W0 n (Tree.node ko kos).kd = true from hG)]
                (walk_at "un"); refine ⟨hj1.mono hs25, Ints.append hj2 ⟨⟨_, rfl⟩, trivial⟩, ?_⟩
                rw [tolds_append]
                exact DatasAt.append (hj3.mono hs25) (.cons (hdo.mono hs25) .nil)
              · exact .cons rfl (.cons rfl (.cons rfl (.cons rfl (.cons rfl (.cons rfl (.cons rfl (.cons rfl .nil)))))))
        · rintro ⟨y1, y2, y3, y4, y5⟩ g' h' tk' ⟨hj1, hj2, hj3⟩ hs' S'
          dsimp only at hj1 hj2 hj3 S' ⊢
          obtain ⟨gA, SA, hsA, hao⟩ := S'.freeze1 oo8
          obtain ⟨gB, SB, hsB, hak⟩ := SA.freeze1 oo9
          clear S' SA S14
          replace hao := hsB _ _ hao
          have hsC : ∀ a o, g8 a = some o → gB a = some o := fun a o q => hsB a o (hsA a o (hs' a o (hs8 a o q)))
          have hD := dueAt_ok (W0 := W0) (ps := ps) (i := pvs.length) hok.1.1.2.1 hok.1.2
          have hX : dueAt W0 body ps ops pvs.length = dueGo W0 ⟨body, [], []⟩ ps ops := by
            unfold dueAt
            rw [List.take_of_length_le (by first | decide | lia), List.take_of_length_le (by first | decide | lia)]
          have hkl : (dueAt W0 body ps ops pvs.length).ks.length ≤ 100 := by
            have := dueGo_len (W := W0) (ns := ps) (os := ops) (x := ⟨body, [], []⟩)
            rw [hX]; simp only [List.length_nil] at this; lia
          have hres : dueStep W0 .call (.node (.lam l ps r) [body] :: ops) = if (dueAt W0 body ps ops pvs.length).ks = [] ∧ ps ≠ [] then (dueAt W0 body ps ops pvs.length).b else if ps = [] ∨ (dueAt W0 body ps ops pvs.length).ks.length = ps.length then .node .call (.node (.lam l ps r) [body] :: ops) else .node .call (.node (.lam l (dueAt W0 body ps ops pvs.length).ks (-1)) [(dueAt W0 body ps ops pvs.length).b] :: (dueAt W0 body ps ops pvs.length).os) := by
            show dueLet W0 l ps r body ops = _
            unfold dueLet
            rw [if_neg (by first | decide | lia), hX]
          rw [hres] at hDs
          generalize dueAt W0 body ps ops pvs.length = X at *
          replace hj1 := hj1.mono fun a o q => hsB a o (hsA a o q)
          replace hj3 := hj3.mono fun a o q => hsB a o (hsA a o q)
          have yl2 := Ints.length hj2
          have yl3 := DatasAt.length hj3
          rw [tolds_length, ← hD.len] at yl3
          (walk_at "un"; iterate 3 (walk1; walk_at "un"))
          (walk_at "un"); refine x_cps (H := fun K => ∀ hh tt gC, (∀ a o, gB a = some o → gC a = some o) → St b ⟨h, g, []⟩ gC L hh (dueL y1 ak ao ap a1 a7 l tl t0) [] → K (X.ks.isEmpty && !ps.isEmpty) ⟨hh, gs, dr, tt, os⟩) ?_ ?_
          · intro K_ hK_; (walk_at "un"; iterate 6 (walk1; walk_at "un"))
            (rename St _ _ _ _ _ _ _ => S)
            refine r_eq_nil C' (S.isListG hak) hj2 (S.isList (.head _)) (by first | decide | lia) ?_
            (walk_at "un"; iterate 1 (walk1; walk_at "un"))
            by_cases hke : X.ks.isEmpty = true
            · refine ite_pos hke ?_
              (walk_at "un"; iterate 6 (walk1; walk_at "un"))
              rename_i a31 h31 g31 hs31 hT31 S31
              have o5 : DataAt g31 (.ref ap) (.tuple (ps.map .int)) := .tuple (hs31 _ _ (hsC _ _ hap)) (hpi.mono fun a o q => hs31 a o (hsC a o q))
              have n5 : DataAt g31 (.ref a31) (.tuple []) := .tuple hT31 .nil
              obtain ⟨as1, R1⟩ := o5.reads S31.gk
              obtain ⟨as2, R2⟩ := n5.reads S31.gk
              refine r_ne C' R1 R2 (by simp [PyData.canLay0, canLayAll_ints]) (by simp [PyData.canLay0, PyData.canLayAll0]) (by have := depthAll_ints ps; simp only [PyData.depth, PyData.depthAll]; lia) ?_
              rw [eqv_tnil]
              (walk_at "un"; iterate 1 (walk1; walk_at "un"))
              by_cases hpe : (!ps.isEmpty) = true
              · refine ite_pos hpe ?_
                (walk_at "un"; iterate 1 (walk1; walk_at "un"))
                (walk_at "un"); exact x_at (by rw [hke, hpe]; rfl) (hK_ _ _ g31 hs31 (S31.pick _ (fun _ q => nomatch q) List.nodup_nil))
              · refine ite_neg hpe ?_
                (walk_at "un"); exact x_at (by rw [Bool.eq_false_iff.mpr hpe]; simp) (hK_ _ _ g31 hs31 (S31.pick _ (fun _ q => nomatch q) List.nodup_nil))
            · refine ite_neg hke ?_
              (rename St _ _ _ _ _ _ _ => S)
              (walk_at "un"); exact x_at (by rw [Bool.eq_false_iff.mpr hke]; rfl) (hK_ _ _ gB (fun _ _ q => q) (S.pick _ (fun _ q => nomatch q) List.nodup_nil))
          · intro h30 tk30 gC hsD S30
            clear SB
            replace hak := hsD _ _ hak
            replace hao := hsD _ _ hao
            replace hj1 := hj1.mono hsD
            replace hj3 := hj3.mono hsD
            have hsE : ∀ a o, g8 a = some o → gC a = some o := fun a o q => hsD a o (hsC a o q)
            by_cases hret : (X.ks.isEmpty && !ps.isEmpty) = true
            · refine ite_pos hret ?_
              (walk_at "un"; iterate 3 (walk1; walk_at "un"))
              (walk_at "un"); refine k _ gC _ _ ?_ (S30.fin _ fun _ q => q)
              rw [← hDs, if_pos (by simpa using hret)]
              exact hj1
            · refine ite_neg hret ?_
              rw [if_neg (by simpa using hret)] at hDs
              (walk_at "un"; iterate 4 (walk1; walk_at "un"))
              (walk_at "un"); refine x_cps (H := fun K => ∀ hh tt gD, (∀ a o, gC a = some o → gD a = some o) → St b ⟨h, g, []⟩ gD L hh (dueL y1 ak ao ap a1 a7 l tl t0) [] → K (ps.isEmpty || X.ks.length == ps.length) ⟨hh, gs, dr, tt, os⟩) ?_ ?_
              · intro K_ hK_; (walk_at "un"; iterate 6 (walk1; walk_at "un"))
                rename_i a31 h31 g31 hs31 hT31 S31
                have o5 : DataAt g31 (.ref ap) (.tuple (ps.map .int)) := .tuple (hs31 _ _ (hsE _ _ hap)) (hpi.mono fun a o q => hs31 a o (hsE a o q))
                have n5 : DataAt g31 (.ref a31) (.tuple []) := .tuple hT31 .nil
                obtain ⟨as1, R1⟩ := o5.reads S31.gk
                obtain ⟨as2, R2⟩ := n5.reads S31.gk
                refine r_eq C' R1 R2 (by simp [PyData.canLay0, canLayAll_ints]) (by simp [PyData.canLay0, PyData.canLayAll0]) (by have := depthAll_ints ps; simp only [PyData.depth, PyData.depthAll]; lia) ?_
                rw [eqv_tnil]
                (walk_at "un"; iterate 1 (walk1; walk_at "un"))
                by_cases hpe : ps.isEmpty = true
                · refine ite_pos hpe ?_
                  (walk_at "un"); exact x_at (by rw [hpe]; rfl) (hK_ _ _ g31 hs31 S31)
                · refine ite_neg hpe ?_
                  (walk_at "un"; iterate 8 (walk1; walk_at "un"))
                  refine r_len (S31.isListG (hs31 _ _ hak)) (by rw [yl2, sizeLine_eq]; lia) ?_
                  intro t33 tk33
                  (walk_at "un"; iterate 6 (walk1; walk_at "un"))
                  refine r_tlen S31 (hs31 _ _ (hsE _ _ hap)) (by rw [hpl, sizeLine_eq]; lia) ?_
                  intro t34 tk34
                  (walk_at "un"; iterate 2 (walk1; walk_at "un"))
                  by_cases hkp : X.ks.length = ps.length
                  · refine ite_pos (by rw [yl2, hpl, hkp]; simp) ?_
                    (walk_at "un"); exact x_at (by rw [hkp]; simp) (hK_ _ _ g31 hs31 S31)
                  · refine ite_neg (by rw [yl2, hpl]; simp; lia) ?_
                    (walk_at "un"; iterate 1 (walk1; walk_at "un"))
                    (walk_at "un"); exact x_at (by rw [Bool.eq_false_iff.mpr hpe]; simp [hkp]) (hK_ _ _ g31 hs31 S31)
              · intro h32 tk32 gD hsF S32
                clear S30
                replace hak := hsF _ _ hak
                replace hao := hsF _ _ hao
                replace hj1 := hj1.mono hsF
                replace hj3 := hj3.mono hsF
                have hsG : ∀ a o, g8 a = some o → gD a = some o := fun a o q => hsF a o (hsE a o q)
                by_cases hsame : (ps.isEmpty || X.ks.length == ps.length) = true
                · refine ite_pos hsame ?_
                  rw [if_pos (by simpa using hsame)] at hDs
                  (walk_at "un"; iterate 11 (walk1; walk_at "un"))
                  rename_i a40 h40 g40 hs40 hT40 S40
                  have hsH : ∀ a o, g8 a = some o → g40 a = some o := fun a o q => hs40 a o (hsG a o q)
                  (walk_at "un"); exact k _ g40 _ _ (by rw [← hDs]; exact .tuple hT40 (.cons (.int _ _) (.cons (.tuple (hsH _ _ ha1) (ho.mono hsH)) (.cons (.tuple (hsH _ _ hT7) (hy.mono hsH)) .nil)))) (S40.fin _ fun _ q => q)
                · refine ite_neg hsame ?_
                  rw [if_neg (by simpa using hsame)] at hDs
                  (walk_at "un"; iterate 26 (walk1; walk_at "un"))
                  refine r_tupleof S32 (S32.isListG hak) (by rw [yl2, sizeLine_eq]; lia) ?_
                  intro a41 h41 g41 hs41 hT41 S41
                  clear S32
                  (walk_at "un"; iterate 22 (walk1; walk_at "un"))
                  rename_i a42 h42 g42 hs42 hT42 a43 h43 g43 hs43 hT43 a44 h44 g44 hs44 hT44 a45 h45 g45 hs45 hT45 S45
                  have hz45 : ∀ a o, g41 a = some o → g45 a = some o := fun a o q => hs45 a o (hs44 a o (hs43 a o (hs42 a o q)))
                  have hx45 : ∀ a o, gD a = some o → g45 a = some o := fun a o q => hz45 a o (hs41 a o q)
                  refine r_tupleof S45 (S45.isListG (hx45 _ _ hao)) (by rw [yl3, sizeLine_eq]; lia) ?_
                  intro a46 h46 g46 hs46 hT46 S46
                  clear S45
                  (walk_at "un"; iterate 0 (walk1; walk_at "un"))
                  refine r_tadd S46 (hs46 _ _ hT45) hT46 (by rw [yl3]; simp only [List.length_cons, List.length_nil]; rw [sizeLine_eq]; lia) ?_
                  intro a47 h47 g47 hs47 hT47 S47
                  clear S46
                  (walk_at "un"; iterate 2 (walk1; walk_at "un"))
                  rename_i a48 h48 g48 hs48 hT48 S48
                  have hy46 : ∀ a o, g46 a = some o → g48 a = some o := fun a o q => hs48 a o (hs47 a o q)
                  have hy45 : ∀ a o, g45 a = some o → g48 a = some o := fun a o q => hy46 a o (hs46 a o q)
                  have hy44 : ∀ a o, g44 a = some o → g48 a = some o := fun a o q => hy45 a o (hs45 a o q)
                  have hy43 : ∀ a o, g43 a = some o → g48 a = some o := fun a o q => hy44 a o (hs44 a o q)
                  have hy42 : ∀ a o, g42 a = some o → g48 a = some o := fun a o q => hy43 a o (hs43 a o q)
                  have hy41 : ∀ a o, g41 a = some o → g48 a = some o := fun a o q => hy42 a o (hs42 a o q)
                  have hyD : ∀ a o, gD a = some o → g48 a = some o := fun a o q => hy41 a o (hs41 a o q)
                  have hy8 : ∀ a o, g8 a = some o → g48 a = some o := fun a o q => hyD a o (hsG a o q)
                  (walk_at "un"); refine k _ g48 _ _ ?_ (S48.fin _ fun _ q => q)
                  rw [← hDs]
                  refine .tuple hT48 (.cons (.int _ _) (.cons (.tuple (hy8 _ _ ha1) (ho.mono hy8)) (.cons (.tuple (hs48 _ _ hT47) (.cons (.tuple (hy44 _ _ hT44) (.cons (.int _ _) (.cons (.tuple (hy42 _ _ hT42) (.cons (.int _ _) (.cons (.tuple (hy41 _ _ hT41) (Ints.data hj2)) (.cons (.int _ _) .nil)))) (.cons (.tuple (hy43 _ _ hT43) (.cons (hj1.mono hyD) .nil)) .nil)))) (hj3.mono hyD))) .nil)))
      · refine ite_pos (by simp [hL]) ?_
        (walk_at "un"; iterate 11 (walk1; walk_at "un"))
        rename_i a40 h40 g40 hs40 hT40 S40
        (walk_at "un"); refine k _ g40 _ _ ?_ (S40.fin _ fun _ q => q)
        rw [← hDs, dueStep_same (Bool.eq_false_iff.mpr hL)]
        exact .tuple hT40 (.cons (.int _ _) (.cons (.tuple (hs40 _ _ ha1) (ho.mono hs40)) (.cons (.tuple (hs40 _ _ hT7) (hy.mono hs40)) .nil)))
theorem due_spec (W0 t : Tree) : DueSpec prog w W0 t := Tree.ind (due_step W0) t
end
section
variable {prog : Program} {w : World} {A : Around} {E : Value → Shared → Prop} {gs : Array GenState} {dr : Drawn} {tk : Tok} {os : OsState}
variable {b : Heap} {e : Ent} {g : GH} {L : Addr} {h : Heap} {l : List (Str × Value)} {n n1 : List (Addr × Obj)} {env : Env} {sc : Scope} {cl : List (Str × Addr)}
set_option maxHeartbeats 2000000 in
theorem same_spec {Q : Value → Shared → Prop} {a c : Addr} {vs ws : List Value} {ka kc : Nat} (W : Wo (Mine.hd0.heap_1 w.params) b) (C : Cx A 1 4) (P : Pre b g h []) (ha : g a = some (listO vs ka)) (hc : g c = some (listO ws kc)) (hv : ∀ v ∈ vs, IsInst g v) (hw : ∀ v ∈ ws, IsInst g v) (hz1 : vs.length ≤ 1000) (hz2 : ws.length ≤ 1000)
    (k : ∀ r g' h' tk', (r = true ↔ vs = ws) → Fin ⟨h, g, []⟩ g' h' [] → Q (.bool r) ⟨h', gs, dr, tk', os⟩) :
    wpAny (model prog w) A (call (.ref 306) [.ref a, .ref c]) Q E ⟨h, gs, dr, tk, os⟩ := by
  refine r_call (d := 0) (u := 1) (binds := [("ones", .ref a), ("others", .ref c)]) (l := [("ones", .ref a), ("others", .ref c)]) W C P (by k_is) (by k_is) rfl (by rfl) (.cons rfl (.cons rfl .nil)) ?_
  intro A' env L h' tk' C' N S E'
  (walk_at "un"; iterate 9 (walk1; walk_at "un"))
  refine r_len (S.isListG ha) (by rw [sizeLine_eq]; lia) ?_
  intro t1 tk1
  (walk_at "un"; iterate 6 (walk1; walk_at "un"))
  refine r_len (S.isListG hc) (by rw [sizeLine_eq]; lia) ?_
  intro t2 tk2
  (walk_at "un"; iterate 2 (walk1; walk_at "un"))
  by_cases hl : vs.length = ws.length
  · refine ite_neg (by simp [hl]) ?_
    (walk_at "un"; iterate 2 (walk1; walk_at "un"))
    refine wpAny_For ?_
    (walk_at "un"; iterate 10 (walk1; walk_at "un"))
    refine r_len (S.isListG ha) (by rw [sizeLine_eq]; lia) ?_
    intro t3 tk3
    (walk_at "un"; iterate 1 (walk1; walk_at "un"))
    refine r_rangeN S ?_
    clear S; intro rr h2 tk2 ta tb tc hr S
    refine r_for_range (σ := Unit) (x0 := ()) (fun i _ _ => vs.take i = ws.take i) (fun _ => [("ones", .ref a), ("others", .ref c)]) (fun _ => []) C' N (by rfl) S hr (by first | decide | lia) (by simp) ?_ ?_
    · rintro i ti ⟨⟩ g' h3 tk4 e3 E3 R_ hR_ hi hj hs S3
      obtain ⟨v, hvi⟩ : ∃ v, vs[i]? = some v := ⟨_, List.getElem?_eq_getElem hi⟩
      obtain ⟨x, hwi⟩ : ∃ x, ws[i]? = some x := ⟨_, List.getElem?_eq_getElem (by first | decide | lia)⟩
      obtain ⟨xv, Cv, dv, rfl, hxv⟩ := hv v (List.mem_of_getElem? hvi)
      obtain ⟨xw, Cw, dw, rfl, hxw⟩ := hw x (List.mem_of_getElem? hwi)
      (walk_at "un"; iterate 6 (walk1; walk_at "un"))
      refine r_item (S3.isListG (hs _ _ ha)) (by first | decide | lia) (by first | decide | lia) (by simpa using hvi) ?_
      (walk_at "un"; iterate 3 (walk1; walk_at "un"))
      refine r_item (S3.isListG (hs _ _ hc)) (by first | decide | lia) (by first | decide | lia) (by simpa using hwi) ?_
      (walk_at "un"; iterate 0 (walk1; walk_at "un"))
      refine r_isnot (S3.gk _ _ (hs _ _ hxv)) (S3.gk _ _ (hs _ _ hxw)) (by simp [instObj]) ?_
      (walk_at "un"; iterate 1 (walk1; walk_at "un"))
      by_cases he : xv = xw
      · refine ite_neg (by simp [he]) ?_
        (walk_at "un"; iterate 2 (walk1; walk_at "un"))
        subst he
        (walk_at "un"); exact ⟨(), g', _, _, by rw [take_snoc hvi, take_snoc hwi, hj], S3.loc' _ (.cons rfl (.cons rfl .nil)), rfl⟩
      · refine ite_pos (by simp [he]) ?_
        (walk_at "un"; iterate 3 (walk1; walk_at "un"))
        (walk_at "un"); refine ⟨g', _, _, _, _, S3, rfl, fun T => ?_⟩
        (walk_at "un"); refine k _ g' _ _ ⟨fun q => (nomatch q), fun q => ?_⟩ (T.fin _ fun _ q => nomatch q)
        subst q
        rw [hvi] at hwi
        cases hwi
        exact absurd rfl he
    · rintro ⟨⟩ g' h3 tk4 hj hs S3
      (walk_at "un"; iterate 3 (walk1; walk_at "un"))
      (walk_at "un"); refine k _ g' _ _ ⟨fun _ => ?_, fun _ => rfl⟩ (S3.fin _ fun _ q => q)
      rwa [List.take_of_length_le (Nat.le_refl _), List.take_of_length_le (by first | decide | lia)] at hj
  · refine ite_pos (by simp; lia) ?_
    (walk_at "un"; iterate 3 (walk1; walk_at "un"))
    (walk_at "un"); exact k _ _ _ _ ⟨fun q => (nomatch q), fun q => absurd (q ▸ rfl) hl⟩ (S.fin _ fun _ q => q)
set_option maxHeartbeats 2000000 in
theorem len3 {α : Type} {l : List α} (h : l.length = 3) : ∃ a b c, l = [a, b, c] := by
  obtain ⟨a, l, rfl⟩ := List.exists_cons_of_length_eq_add_one h
  obtain ⟨b, l, rfl⟩ := List.exists_cons_of_length_eq_add_one (Nat.succ.inj h)
  obtain ⟨c, rfl⟩ := List.length_eq_one_iff.mp (Nat.succ.inj (Nat.succ.inj h))
  exact ⟨a, b, c, rfl⟩
theorem r_with {Q : Value → Shared → Prop} {v : Value} {nk : Nk} {vs ws : List Value} {lw : Addr} {kk : Nat} {pl : Sem Bool} {pos p1 : Pos} (W : Wo (Mine.hd0.heap_1 w.params) b) (C : Cx A 3 7) (N : En env sc cl L) (S : St b e g L h l n) (hx : sc.names.lookup ("fresh" : Str) = some .local) (hl : l.lookup ("fresh" : Str) = some (.ref lw)) (H : Shape w.params g v nk vs) (hL : g lw = some (listO ws kk)) (hlen : ws.length = vs.length) (hne : vs ≠ []) (hz : vs.length ≤ 1000)
    (k : ∀ y g' h' tk', (∀ a o, g a = some o → g' a = some o) → Shape w.params g' y nk ws → St b e g' L h' l n → Q y ⟨h', gs, dr, tk', os⟩) :
    wpAny (model prog w) A (getMethod v "with_parts" pl) (fun fx s₂ => wpAny (model prog w) A (callWith pos fx.1 fx.2 (backTo pos (starEach [.Name "fresh" p1] env)) []) Q E s₂) E ⟨h, gs, dr, tk, os⟩ := by
  have fin : ∀ y g' h' tk', Fin ⟨h, g, []⟩ g' h' [] → (∀ a o, g a = some o → g' a = some o) → Shape w.params g' y nk ws → Q y ⟨h', gs, dr, tk', os⟩ := fun y g' h' tk' F hs H => k y g' h' tk' hs H (S.back0 F)
  cases H with
  | const I c => exact absurd rfl hne
  | loc I => exact absurd rfl hne
  | set I =>
    obtain ⟨w1, rfl⟩ := List.length_eq_one_iff.mp hlen
    refine r_method W S I (by k_is) (by k_is) (by k_is) rfl ?_
    refine r_meth W (by k_is) ?_
    (walk_at "un"; iterate 1 (walk1; walk_at "un"))
    refine r_local N S hx hl ?_
    (walk_at "un"; iterate 2 (walk1; walk_at "un"))
    exact with_set W C S.pre0 I hL fin
  | ite I =>
    obtain ⟨w1, w2, w3, rfl⟩ : ∃ a b c, ws = [a, b, c] := len3 hlen
    refine r_method W S I (by k_is) (by k_is) (by k_is) rfl ?_
    refine r_meth W (by k_is) ?_
    (walk_at "un"; iterate 1 (walk1; walk_at "un"))
    refine r_local N S hx hl ?_
    (walk_at "un"; iterate 2 (walk1; walk_at "un"))
    exact with_ite W C S.pre0 hL fin
  | lam I h1 h2 h3 =>
    obtain ⟨w1, rfl⟩ := List.length_eq_one_iff.mp hlen
    refine r_method W S I (by k_is) (by k_is) (by k_is) rfl ?_
    refine r_meth W (by k_is) ?_
    (walk_at "un"; iterate 1 (walk1; walk_at "un"))
    refine r_local N S hx hl ?_
    (walk_at "un"; iterate 2 (walk1; walk_at "un"))
    exact with_lam W C S.pre0 I h1 h2 h3 hL fin
  | call I h1 =>
    obtain ⟨w1, ws, rfl⟩ : ∃ a b, ws = a :: b := List.exists_cons_of_length_eq_add_one hlen
    refine r_method W S I (by k_is) (by k_is) (by k_is) rfl ?_
    refine r_meth W (by k_is) ?_
    (walk_at "un"; iterate 1 (walk1; walk_at "un"))
    refine r_local N S hx hl ?_
    (walk_at "un"; iterate 2 (walk1; walk_at "un"))
    exact with_call W C S.pre0 hL (by simp only [List.length_cons] at hlen hz; lia) fin
  | seq I h1 =>
    refine r_method W S I (by k_is) (by k_is) (by k_is) rfl ?_
    refine r_meth W (by k_is) ?_
    (walk_at "un"; iterate 1 (walk1; walk_at "un"))
    refine r_local N S hx hl ?_
    (walk_at "un"; iterate 2 (walk1; walk_at "un"))
    exact with_seq W C S.pre0 hL fin
  | prim I h1 =>
    refine r_method W S I (by k_is) (by k_is) (by k_is) rfl ?_
    refine r_meth W (by k_is) ?_
    (walk_at "un"; iterate 1 (walk1; walk_at "un"))
    refine r_local N S hx hl ?_
    (walk_at "un"; iterate 2 (walk1; walk_at "un"))
    exact with_prim W C S.pre0 I hL fin
end
theorem NodesAt.handIn {P : Params} {g : GH} : ∀ {vs ts}, NodesAt P g vs ts → HandIn vs
  | _, _, .nil => trivial
  | _, _, .cons x r => ⟨by obtain ⟨a, _, _, rfl, _⟩ := x.isInst; rfl, NodesAt.handIn r⟩
theorem NodesAt.drop {P : Params} {g : GH} : ∀ {vs ts} (i : Nat), NodesAt P g vs ts → NodesAt P g (vs.drop i) (ts.drop i)
  | _, _, 0, h => h
  | _, _, i + 1, .nil => by simpa using .nil
  | _, _, i + 1, .cons _ r => NodesAt.drop i r
theorem NodesAt.take {P : Params} {g : GH} : ∀ {vs ts} (i : Nat), NodesAt P g vs ts → NodesAt P g (vs.take i) (ts.take i)
  | _, _, 0, h => .nil
  | _, _, i + 1, .nil => by simpa using .nil
  | _, _, i + 1, .cons x r => .cons x (NodesAt.take i r)
theorem NodesAt.reverse {P : Params} {g : GH} : ∀ {vs ts}, NodesAt P g vs ts → NodesAt P g vs.reverse ts.reverse
  | _, _, .nil => .nil
  | _, _, .cons x r => by
    rw [List.reverse_cons, List.reverse_cons]
    exact NodesAt.append (NodesAt.reverse r) (.cons x .nil)
theorem IsInst.mono {g g' : GH} {v : Value} (h : IsInst g v) (hg : ∀ a o, g a = some o → g' a = some o) : IsInst g' v := let ⟨x, C, dx, e, a⟩ := h; ⟨x, C, dx, e, hg _ _ a⟩
structure RS where
  ts : List Value
  wk : Nat
  da : Addr
  dv : List Value
  dk : Nat
  stk : Stk
  dn : List Tree
theorem notEmpty_of {α : Type} {l : List α} (h : l ≠ []) : (!l.isEmpty) = true := by cases l <;> simp at h ⊢
theorem push_of {α : Type} {c : Bool} {l : List α} (h : (!c && !l.isEmpty) = true) : c = false ∧ l ≠ [] := by cases c <;> cases l <;> simp at h ⊢
theorem StkAt.unnil {P : Params} {g : GH} {ts : List Value} {stk : Stk} {C : List Value → Prop} (h : StkAt P g ts stk) (e : stk = []) (c : C []) : C ts := by
  subst e; cases h; exact c
section
variable {prog : Program} {w : World}
/-- what a change keeps to -/
noncomputable def ChangeOk (prog : Program) (w : World) (d u : Nat) (g0 : GH) (q : Addr) (f : Nk → List Tree → Tree) (Pc : Nk → List Tree → Prop) : Prop :=
  ∀ {A : Around} {E : Value → Shared → Prop} {gs : Array GenState} {dr : Drawn} {tk : Tok} {os : OsState} {b : Heap} {g : GH} {h : Heap} {Q : Value → Shared → Prop} {v : Value} {k : Nk} {ks : List Tree},
    Wo (Mine.hd0.heap_1 w.params) b → Cx A d u → Pre b g h [] → (∀ a o, g0 a = some o → g a = some o) → NodeAt w.params g v (.node k ks) → Pc k ks →
    (∀ r g' h' tk', NodeAt w.params g' r (f k ks) → Fin ⟨h, g, []⟩ g' h' [] → Q r ⟨h', gs, dr, tk', os⟩) → wpAny (model prog w) A (call (.ref q) [v]) Q E ⟨h, gs, dr, tk, os⟩
set_option maxHeartbeats 8000000 in
theorem rebuilt_spec {A : Around} {E : Value → Shared → Prop} {gs : Array GenState} {dr : Drawn} {tk : Tok} {os : OsState} {b : Heap} {g : GH} {h : Heap} {Q : Value → Shared → Prop} {v x : Value} {q fa : Addr} {t : Tree} {d u : Nat} {f : Nk → List Tree → Tree} {Pc : Nk → List Tree → Prop}
    (W : Wo (Mine.hd0.heap_1 w.params) b) (C : Cx A (d + 4) (u + 10)) (P : Pre b g h []) (hq : g q = some (methodObj (.ref fa) x)) (hf : fnIn (Mine.hd0.heap_1 w.params) fa = true) (ch : ChangeOk prog w d u g q f Pc) (hv : NodeAt w.params g v t) (hok : allSub f Pc t) (hz : t.size ≤ 1000)
    (k : ∀ r g' h' tk', NodeAt w.params g' r (rebT f t) → Fin ⟨h, g, []⟩ g' h' [] → Q r ⟨h', gs, dr, tk', os⟩) : wpAny (model prog w) A (call (.ref 313) [v, .ref q]) Q E ⟨h, gs, dr, tk, os⟩ := by
  refine r_call (d := d + 3) (u := u + 7) (binds := [("node", v), ("change", .ref q)]) (l := [("node", v), ("change", .ref q)]) W C P (by k_is) (by k_is) rfl (by rfl) (.cons rfl (.cons rfl .nil)) ?_
  intro A' env L h' tk' C' N S E'
  (walk_at "un"; iterate 21 (walk1; walk_at "un"))
  rename_i da hh1 hed hh2 tt2 ta hh3 g3 hs3 hT3 wa hh4 hew hh5 tt5 S
  have hs3' : ∀ a o, g a = some o → g3 a = some o := hs3
  refine r_while (σ := RS) (x0 := ⟨[.ref ta], 0, da, [], 0, [(t, false)], []⟩) (k0 := mR [(t, false)])
    (fun k y g' => (∀ a o, g3 a = some o → g' a = some o) ∧ StkAt w.params g' y.ts y.stk ∧ NodesAt w.params g' y.dv y.dn ∧ okR f Pc y.stk y.dn ∧ finR f y.stk y.dn = [rebT f t] ∧ k = mR y.stk ∧ y.dn.length + wR y.stk ≤ t.size)
    (fun y => [("done", .ref y.da), ("waiting", .ref wa), ("change", .ref q)]) (fun y => [(wa, listO y.ts.reverse y.wk), (y.da, listO y.dv y.dk)]) (S.loc' _ (.cons rfl (.cons rfl (.cons rfl .nil)))) ⟨fun _ _ q => q, .cons hT3 (hv.mono hs3) .nil, .nil, ⟨hok, trivial⟩, rfl, rfl, by simp [wR]⟩ ?_
  clear S
  rintro kk ⟨ts, wk, da, dv, dk, stk, dn⟩ g1 h1 tk1 E1 R_ hR_ ⟨hs1, hst, hdn, hokR, hfin, rfl, hwz⟩ S
  dsimp only at hst hdn hokR hfin hwz S ⊢
  have hsl := StkAt.length hst
  have hdl := NodesAt.length hdn
  have hwl := wR_len stk
  (walk_at "un"; iterate 7 (walk1; walk_at "un"))
  refine r_len (S.isList (.head _)) (by rw [List.length_reverse, sizeLine_eq]; lia) ?_
  intro t2 tk2
  (walk_at "un"; iterate 3 (walk1; walk_at "un"))
  cases hst with
  | nil =>
    refine ite_neg (by simp) ?_
    (walk_at "un"; iterate 6 (walk1; walk_at "un"))
    have e1 : dn = [rebT f t] := hfin
    rw [e1] at hdn
    clear hokR hfin hwz hdl
    revert S
    refine hdn.uncons ?_
    intro y1 z1 hr hrr
    refine hrr.unnil ?_
    intro S
    refine r_item (S.isList (.tail _ (.head _))) (by decide) (by decide) rfl ?_
    (walk_at "un"; iterate 0 (walk1; walk_at "un"))
    (walk_at "un"); exact k _ g1 _ _ hr (S.fin _ fun _ q => nomatch q)
  | @cons a2 v2 t2 c2 vs2 S2 hT2 hN2 hst =>
    refine ite_pos (by simp) ?_
    rw [List.reverse_cons] at S
    (walk_at "un"; iterate 6 (walk1; walk_at "un"))
    (rename St _ _ _ _ _ _ _ => S)
    refine r_pop S .head (by rw [List.length_reverse, sizeLine_eq]; simp only [List.length_cons] at hsl hwl; lia) ?_
    clear S; intro h3 S
    (walk_at "un"; iterate 0 (walk1; walk_at "un"))
    refine r_asgT2 C' N S hT2 (by rfl) (by rfl) ?_
    clear S; intro h4 tk4 S
    obtain ⟨k2, ks2⟩ := t2
    refine hN2.unmk ?_
    intro vs H hks
    have hkl := NodesAt.length hks
    have hks3 := sizes_len ks2
    have hkz : ks2.length ≤ 1000 := by
      cases c2 with
      | false => simp only [wR, Tree.size] at hwz; lia
      | true => have := hokR.1; simp only [wR] at hwz; lia
    (walk_at "un"; iterate 4 (walk1; walk_at "un"))
    refine r_parts W (C'.mono (by first | decide | lia) (by first | decide | lia)) S H hks.handIn (by first | decide | lia) ?_
    intro pa pj g5 h5 tk5 hs5 hpa S5
    clear S
    (walk_at "un"; iterate 4 (walk1; walk_at "un"))
    rename St _ _ _ _ _ _ _ => S5
    (walk_at "un"); refine x_cps (H := fun K => ∀ hh tt, St b ⟨h, g, []⟩ g5 L hh [("parts", .ref pa), ("here", v2), ("done", .ref da), ("waiting", .ref wa), ("change", .ref q)] [(wa, listO vs2.reverse (wk + 1)), (da, listO dv dk)] → K (!c2 && !ks2.isEmpty) ⟨hh, gs, dr, tt, os⟩) ?_ ?_
    · intro K_ hK_; clear k; (walk_at "un"; iterate 5 (walk1; walk_at "un"))
      have S := S5
      clear S5
      have KL : Knows [("parts", .ref pa), ("here", v2), ("done", .ref da), ("waiting", .ref wa), ("change", .ref q)] (fun x' => List.lookup x' [("parts", .ref pa), ("is_left", .bool c2), ("here", v2), ("done", .ref da), ("waiting", .ref wa), ("change", .ref q)]) := .cons rfl (.cons rfl (.cons rfl (.cons rfl (.cons rfl .nil))))
      cases c2 with
      | true =>
        refine ite_neg (by simp) ?_
        (walk_at "un"); exact hK_ _ _ (S.loc' _ KL)
      | false =>
        refine ite_pos (by simp) ?_
        (walk_at "un"; iterate 8 (walk1; walk_at "un"))
        refine r_len (S.isListG hpa) (by rw [hkl, sizeLine_eq]; lia) ?_
        intro t6 tk6
        (walk_at "un"; iterate 3 (walk1; walk_at "un"))
        by_cases hke : ks2 = []
        · refine ite_neg (by rw [hkl, hke]; simp) ?_
          (walk_at "un"); exact x_at (by rw [hke]; rfl) (hK_ _ _ (S.loc' _ KL))
        · have : 0 < ks2.length := List.length_pos_iff.mpr hke
          refine ite_pos (by rw [hkl]; simp; lia) ?_
          (walk_at "un"; iterate 1 (walk1; walk_at "un"))
          (walk_at "un"); exact x_at (by rw [notEmpty_of hke]; rfl) (hK_ _ _ (S.loc' _ KL))
    · intro h7 tk7 S
      clear S5
      have hs15 : ∀ a o, g3 a = some o → g5 a = some o := fun a o q => hs5 a o (hs1 a o q)
      by_cases hpush : (!c2 && !ks2.isEmpty) = true
      · refine ite_pos hpush ?_
        obtain ⟨hcf, hke⟩ := push_of hpush
        rw [hcf] at hokR hfin hwz
        obtain ⟨hok2, hfin2⟩ := step_push hokR hke
        (walk_at "un"; iterate 15 (walk1; walk_at "un"))
        rename_i a8 h8 g8 hs8 hT8 S8
        refine r_append S8 .head (by rw [List.length_reverse, sizeLine_eq]; simp only [List.length_cons] at hsl hwl; lia) ?_
        clear S8; intro h9 S
        (walk_at "un"; iterate 1 (walk1; walk_at "un"))
        refine wpAny_For ?_
        (walk_at "un"; iterate 2 (walk1; walk_at "un"))
        refine r_rev S (S.isL (.inr (hs8 _ _ hpa))) (by rw [hkl, sizeLine_eq]; lia) ?_
        clear S; intro ra h10 tk10 hra S
        obtain ⟨g10, S10, hs10, hrL⟩ := S.freeze1 hra
        clear S
        have hs510 : ∀ a o, g5 a = some o → g10 a = some o := fun a o q => hs10 a o (hs8 a o q)
        have hs110 : ∀ a o, g1 a = some o → g10 a = some o := fun a o q => hs510 a o (hs5 a o q)
        have S10' : St b ⟨h, g, []⟩ g10 L h10 [("done", .ref da), ("waiting", .ref wa), ("change", .ref q)] [(wa, listO (Value.ref a8 :: vs2).reverse (wk + 1 + 1)), (da, listO dv dk)] := by
          rw [List.reverse_cons]; exact S10.loc' _ (.cons rfl (.cons rfl (.cons rfl .nil)))
        refine r_for_list (σ := List Value × Nat) (x0 := (.ref a8 :: vs2, wk + 1 + 1)) (fun i y g' => StkAt w.params g' y.1 (kidsR ((ks2.reverse.take i).reverse) ++ (.node k2 ks2, true) :: S2))
          (fun _ => [("done", .ref da), ("waiting", .ref wa), ("change", .ref q)]) (fun y => [(wa, listO y.1.reverse y.2), (da, listO dv dk)]) C' N (by rfl) S10' hrL (.cons (hs10 _ _ hT8) (hN2.mono hs110) (hst.mono hs110)) ?_ ?_
        · rintro i v11 ⟨y1, y2⟩ g11 h11 tk11 e11 E11 R_ hR_ hi hj hs11 S11
          dsimp only at hj S11 ⊢
          have hvr : vs.reverse[i]? = some v11 := hi
          obtain ⟨t11, ht11, hN11⟩ := NodesAt.get hks.reverse hvr
          (walk_at "un"; iterate 15 (walk1; walk_at "un"))
          rename_i a12 h12 g12 hs12 hT12 S12
          refine r_append S12 .head (by rw [List.length_reverse, StkAt.length hj, sizeLine_eq]; simp only [List.length_append, kidsR, List.length_map, List.length_reverse, List.length_take, List.length_cons] at hsl hwl ⊢; lia) ?_
          clear S12; intro h13 S13
          (walk_at "un"; iterate 1 (walk1; walk_at "un"))
          (rename St _ _ _ _ _ _ _ => S)
          (walk_at "un"); refine ⟨(.ref a12 :: y1, y2 + 1), g12, _, _, ?_, ?_, rfl⟩
          · rw [take_snoc ht11, List.reverse_append]
            exact .cons hT12 (hN11.mono fun a o q => hs12 a o (hs11 a o (hs510 a o (hs5 a o q)))) (hj.mono hs12)
          · dsimp only
            rw [List.reverse_cons]
            exact S.loc' _ (.cons rfl (.cons rfl (.cons rfl .nil)))
        · rintro ⟨y1, y2⟩ g11 h11 tk11 hj hs11 S11
          dsimp only at hj S11 ⊢
          (walk_at "un"; iterate 2 (walk1; walk_at "un"))
          (walk_at "un"); refine ⟨mR (kidsR ks2 ++ (.node k2 ks2, true) :: S2), ⟨y1, y2, da, dv, dk, kidsR ks2 ++ (.node k2 ks2, true) :: S2, dn⟩, g11, _, _, ?_, ⟨?_, ?_, ?_, hok2, ?_, rfl, ?_⟩, S11, rfl⟩
          · rw [mR_push, hcf]; simp only [mR, Tree.size]; lia
          · exact fun a o q => hs11 a o (hs510 a o (hs15 a o q))
          · rw [List.length_reverse, hkl] at hj
            rwa [List.take_of_length_le (by rw [List.length_reverse]; lia), List.reverse_reverse] at hj
          · exact hdn.mono fun a o q => hs11 a o (hs510 a o (hs5 a o q))
          · rw [hfin2]; exact hfin
          · rw [wR_push]; simp only [wR, Tree.size] at hwz ⊢; lia
      · refine ite_neg hpush ?_
        obtain ⟨q1, q2, q3, q4, q5, q6⟩ := step_done hokR (Bool.eq_false_iff.mpr hpush)
        have hdz : dv.length ≤ 1000 := by lia
        (walk_at "un"; iterate 9 (walk1; walk_at "un"))
        refine r_len (S.isList (.tail _ (.head _))) (by rw [sizeLine_eq]; lia) ?_
        intro t8 tk8
        (walk_at "un"; iterate 6 (walk1; walk_at "un"))
        refine r_len (S.isListG hpa) (by rw [hkl, sizeLine_eq]; lia) ?_
        intro t9 tk9
        (walk_at "un"; iterate 6 (walk1; walk_at "un"))
        (rename St _ _ _ _ _ _ _ => S)
        have hkd : ks2.length ≤ dv.length := by lia
        have hfi : ((dv.length : Int) - vs.length).toNat = dn.length - ks2.length := by lia
        refine r_slc S (S.isL (.inl (.tail _ (.head _)))) (by rw [sizeLine_eq]; lia) (PartR.loc N S (by rfl) (by rfl)) .none (pick_from dv ((dv.length : Int) - vs.length) (by first | decide | lia) (by first | decide | lia)) ?_
        clear S; intro fr h10 tk10 hfr S
        obtain ⟨g10, S10, hs10, hfL⟩ := S.freeze1 hfr
        clear S
        (walk_at "un"; iterate 5 (walk1; walk_at "un"))
        (rename St _ _ _ _ _ _ _ => S)
        refine r_slc S (S.isL (.inl (.tail _ (.head _)))) (by rw [sizeLine_eq]; lia) .none (PartR.loc N S (by rfl) (by rfl)) (pick_upto dv ((dv.length : Int) - vs.length) (by first | decide | lia) (by first | decide | lia)) ?_
        clear S; intro da2 h11 tk11 hda2 S
        rw [hfi] at hfL S
        have hfd : NodesAt w.params g10 (dv.drop (dn.length - ks2.length)) (dn.drop (dn.length - ks2.length)) := (hdn.drop _).mono fun a o q => hs10 a o (hs5 a o q)
        have htd : NodesAt w.params g10 (dv.take (dn.length - ks2.length)) (dn.take (dn.length - ks2.length)) := (hdn.take _).mono fun a o q => hs10 a o (hs5 a o q)
        have hfl : (dv.drop (dn.length - ks2.length)).length = vs.length := by rw [List.length_drop]; lia
        have htl : (dv.take (dn.length - ks2.length)).length ≤ 1000 := by rw [List.length_take]; lia
        generalize dv.drop (dn.length - ks2.length) = fw at *
        generalize dv.take (dn.length - ks2.length) = tw at *
        generalize dn.drop (dn.length - ks2.length) = fd at *
        generalize dn.take (dn.length - ks2.length) = td at *
        have H10 := H.mono fun a o q => hs10 a o (hs5 a o q)
        have hpa10 := hs10 _ _ hpa
        have hqa : g10 q = some (methodObj (.ref fa) x) := hs10 _ _ (hs15 _ _ (hs3' _ _ hq))
        (walk_at "un"; iterate 1 (walk1; walk_at "un"))
        rename St _ _ _ _ _ _ _ => S12
        (walk_at "un"); refine execs_cps (H := fun K => ∀ h2 tk2 g2 v3, (∀ a o, g10 a = some o → g2 a = some o) → NodeAt w.params g2 v3 (.node k2 fd) → St b ⟨h, g, []⟩ g2 L h2 [("here", v3), ("done", .ref da2), ("waiting", .ref wa), ("change", .ref q)] [(da2, listO tw 0), (wa, listO vs2.reverse (wk + 1)), (da, listO dv dk)] → K ⟨h2, gs, dr, tk2, os⟩) ?_ ?_
        · intro K_ hK_; (walk_at "un"; iterate 12 (walk1; walk_at "un"))
          refine same_spec W (C'.mono (by first | decide | lia) (by first | decide | lia)) S12.pre0 hpa10 hfL (fun v hv => (hks.isInst v hv).mono fun a o q => hs10 a o (hs5 a o q)) hfd.isInst (by first | decide | lia) (by first | decide | lia) ?_
          intro r13 g13 h13 tk13 hr13 F13
          have S13 := S12.back0 F13
          have hs13 : ∀ a o, g10 a = some o → g13 a = some o := F13.gsub
          clear S12
          (walk_at "un"; iterate 1 (walk1; walk_at "un"))
          cases r13 with
          | true =>
            have e13 : vs = fw := hr13.mp rfl
            refine ite_neg (by simp) ?_
            (walk_at "un"; iterate 1 (walk1; walk_at "un"))
            (walk_at "un"); exact hK_ _ _ g13 v2 hs13 (.mk (H10.mono hs13) (e13 ▸ hfd.mono hs13)) (S13.loc' _ (.cons rfl (.cons rfl (.cons rfl (.cons rfl .nil)))))
          | false =>
            have e13 : ¬ vs = fw := fun z => by have := hr13.mpr z; cases this
            refine ite_pos (by simp) ?_
            (walk_at "un"; iterate 4 (walk1; walk_at "un"))
            refine r_with W (C'.mono (by first | decide | lia) (by first | decide | lia)) N S13 (by rfl) (by rfl) (H10.mono hs13) (hs13 _ _ hfL) hfl (fun z => e13 (by subst z; exact (List.eq_nil_of_length_eq_zero hfl).symm)) (by first | decide | lia) ?_
            intro y14 g14 h14 tk14 hs14 H14 S14
            (walk_at "un"; iterate 2 (walk1; walk_at "un"))
            (rename St _ _ _ _ _ _ _ => S)
            (walk_at "un"); exact hK_ _ _ g14 y14 (fun a o q => hs14 a o (hs13 a o q)) (.mk H14 (hfd.mono fun a o q => hs14 a o (hs13 a o q))) (S.loc' _ (.cons rfl (.cons rfl (.cons rfl (.cons rfl .nil)))))
        intro h15 tk15 g15 v3 hs15' hN15 S15
        clear S12
        (walk_at "un"; iterate 9 (walk1; walk_at "un"))
        (rename St _ _ _ _ _ _ _ => S)
        have hq15 : g15 q = some (methodObj (.ref fa) x) := hs15' _ _ hqa
        refine r_callM (f := fa) (x := x) hf ?_
        (walk_at "un"; iterate 3 (walk1; walk_at "un"))
        (walk_at "un"); refine ⟨⟨S.gk _ _ hq15, S.kin W⟩, ?_⟩
        refine ch W (C'.mono (by first | decide | lia) (by first | decide | lia)) S.pre0 (fun a o q => hs15' a o (hs10 a o (hs15 a o (hs3' a o q)))) hN15 q2 ?_
        intro r16 g16 h16 tk16 hN16 F16
        have S16 := S.back0 F16
        have hs16 : ∀ a o, g15 a = some o → g16 a = some o := F16.gsub
        clear S
        (walk_at "un"; iterate 1 (walk1; walk_at "un"))
        (rename St _ _ _ _ _ _ _ => S)
        refine r_append S .head (by rw [sizeLine_eq]; lia) ?_
        clear S; intro h17 S
        (walk_at "un"; iterate 2 (walk1; walk_at "un"))
        (rename St _ _ _ _ _ _ _ => S)
        have hs116 : ∀ a o, g1 a = some o → g16 a = some o := fun a o q => hs16 a o (hs15' a o (hs10 a o (hs5 a o q)))
        (walk_at "un"); refine ⟨mR S2, ⟨vs2, wk + 1, da2, tw ++ [r16], 0 + 1, S2, td ++ [f k2 fd]⟩, g16, _, _, q6, ⟨fun a o q => hs116 a o (hs1 a o q), hst.mono hs116, NodesAt.append (htd.mono fun a o q => hs16 a o (hs15' a o q)) (.cons hN16 .nil), q3, by rw [q4]; exact hfin, rfl, Nat.le_trans q5 hwz⟩, (S.loc' _ (.cons rfl (.cons rfl (.cons rfl .nil)))).pick _ (fun p hp => ?_) ?_, rfl⟩
        · rcases List.mem_cons.mp hp with rfl | hp
          · exact .tail _ (.head _)
          · rw [List.mem_singleton.mp hp]; exact .head _
        · have nd := S.nd
          simp only [List.map_cons, List.map_nil, List.nodup_cons, List.mem_cons, List.not_mem_nil, or_false, not_or] at nd ⊢
          (walk_at "un"); exact ⟨fun z => nd.1.1 z.symm, by simp⟩
end
theorem unasg_inst {w : World} {b : Heap} {g : GH} (W : Wo (Mine.hd0.heap_1 w.params) b) (hb : ∀ a o, b.get? a = some o → g a = some o) : ∃ es k t, GInst g 356 344 es k ∧ getL "title" es = some (some (.str "unassigned" t)) := by
  refine' ginst_of W hb ?h1 ?h2 ?h3
  case h1 => k_is
  case h2 => k_is
  case h3 => rfl
theorem beq_cast (a b : Nat) : ((a : Int) == (b : Int)) = (a == b) := by
  by_cases h : a = b
  · subst h; simp
  · have : ¬ ((a : Int) = b) := by lia
    rw [beq_eq_false_iff_ne.mpr this, beq_eq_false_iff_ne.mpr h]
section
variable {prog : Program} {w : World} {A : Around} {E : Value → Shared → Prop} {gs : Array GenState} {dr : Drawn} {tk : Tok} {os : OsState}
variable {b : Heap} {e : Ent} {g : GH} {L : Addr} {h : Heap} {l : List (Str × Value)} {n n1 : List (Addr × Obj)} {env : Env} {sc : Scope} {cl : List (Str × Addr)}
set_option maxHeartbeats 2000000 in
theorem is_let_spec {Q : Value → Shared → Prop} {v : Value} {k0 : Nk} {ks : List Tree} (W : Wo (Mine.hd0.heap_1 w.params) b) (C : Cx A 1 4) (P : Pre b g h []) (hN : NodeAt w.params g v (.node k0 ks)) (hz : ks.length ≤ 1000)
    (k : ∀ g' h' tk', Fin ⟨h, g, []⟩ g' h' [] → Q (.bool (isLetB k0 ks)) ⟨h', gs, dr, tk', os⟩) :
    wpAny (model prog w) A (call (.ref 327) [v]) Q E ⟨h, gs, dr, tk, os⟩ := by
  refine hN.unmk ?_
  intro vs H hks
  obtain ⟨x, rfl⟩ := H.ref
  generalize hB : isLetB k0 ks = Bl at k
  refine r_call (d := 0) (u := 1) (binds := [("node", .ref x)]) (l := [("node", .ref x)]) W C P (by k_is) (by k_is) rfl (by rfl) (.cons rfl .nil) ?_
  intro A' env L h' tk' C' N S E'
  (walk_at "un"; iterate 7 (walk1; walk_at "un"))
  refine r_kind W S H ?_
  intro t1 tk1
  (walk_at "un"; iterate 3 (walk1; walk_at "un"))
  by_cases hk : k0.num = 8
  · refine ite_neg (by simp [hk]) ?_
    walk_at "fz"
    have hkc := Nk.is_call hk
    rw [hkc] at H
    refine H.uncall ?_
    intro lo ta1 ta2 v1 ws kk hvs I hL
    have hwl := NodesAt.length hks
    rw [hvs] at hks hwl
    refine hks.unconsV ?_
    intro kx kxs ops htk hx
    rw [htk] at hz hwl hB
    refine hx.unmk ?_
    intro vx Hx hxs
    obtain ⟨x2, hx2⟩ := Hx.ref
    rw [hx2] at I Hx
    have hv1 : handedIn (.ref x2) = true := rfl
    simp only [List.length_cons] at hz hwl
    replace hwl : ws.length = ops.length := Nat.succ.inj hwl
    clear hks hx hxs hvs
    walk_at "thaw"
    (walk_at "un"; iterate 5 (walk1; walk_at "un"))
    refine r_attr W S I rfl (by k_is) (by k_is) (by k_is) (by k_is) hv1 ?_
    intro _
    (walk_at "un"; iterate 0 (walk1; walk_at "un"))
    refine r_kind W S Hx ?_
    intro t3 tk3
    (walk_at "un"; iterate 3 (walk1; walk_at "un"))
    by_cases hk7 : kx.num = 7
    · refine ite_neg (by simp [hk7]) ?_
      walk_at "fz"
      obtain ⟨l0, ps, r, hkx⟩ := Nk.is_lam hk7
      rw [hkx] at Hx hB
      rw [isLetB_lam hkc] at hB
      refine Hx.unlam ?_
      intro lp tb1 tb2 tb3 tb4 u1 u2 pvs kk v2 _ I2 hp hi hpz
      have hpl := Ints.length hi
      walk_at "thaw"
      (walk_at "un"; iterate 1 (walk1; walk_at "un"))
      (refine ite_neg (by first | decide | assumption | simp) ?_)
      (walk_at "un"; iterate 8 (walk1; walk_at "un"))
      refine r_attr W S I rfl (by k_is) (by k_is) (by k_is) (by k_is) hv1 ?_
      intro _
      (walk_at "un"; iterate 0 (walk1; walk_at "un"))
      refine r_attr W S I2 rfl (by k_is) (by k_is) (by k_is) (by k_is) rfl ?_
      intro _
      (walk_at "un"; iterate 3 (walk1; walk_at "un"))
      by_cases hr : r < 0
      · refine ite_pos (by simpa using hr) ?_
        (walk_at "un"; iterate 9 (walk1; walk_at "un"))
        refine r_attr W S I rfl (by k_is) (by k_is) (by k_is) (by k_is) hv1 ?_
        intro _
        (walk_at "un"; iterate 0 (walk1; walk_at "un"))
        refine r_attr W S I2 rfl (by k_is) (by k_is) (by k_is) (by k_is) rfl ?_
        intro _
        (walk_at "un"; iterate 1 (walk1; walk_at "un"))
        refine r_len (S.isListG hp) (by rw [hpl, sizeLine_eq]; lia) ?_
        intro t5 tk5
        (walk_at "un"; iterate 6 (walk1; walk_at "un"))
        refine r_attr W S I rfl (by k_is) (by k_is) (by k_is) (by k_is) rfl ?_
        intro _
        (walk_at "un"; iterate 1 (walk1; walk_at "un"))
        refine r_len (S.isListG hL) (by rw [hwl, sizeLine_eq]; lia) ?_
        intro t6 tk6
        (walk_at "un"; iterate 1 (walk1; walk_at "un"))
        rw [show ((pvs.length : Int) == (ws.length : Int)) = Bl by rw [hpl, hwl, beq_cast, ← hB]; simp [hr]]
        (walk_at "un"); exact k _ _ _ (S.fin _ fun _ q => q)
      · refine ite_neg (by simpa using hr) ?_
        (walk_at "un"; iterate 0 (walk1; walk_at "un"))
        rw [show decide (r < 0) = Bl by rw [← hB]; simp [hr]]
        (walk_at "un"); exact k _ _ _ (S.fin _ fun _ q => q)
    · refine ite_pos (by simp [hk7]) ?_
      (refine ite_pos (by first | rfl | decide | assumption | simp) ?_)
      (walk_at "un"; iterate 3 (walk1; walk_at "un"))
      rw [← hB, isLetB_nolam hk7] at k
      (walk_at "un"); exact k _ _ _ (S.fin _ fun _ q => q)
  · refine ite_pos (by simp [hk]) ?_
    (refine ite_pos (by first | rfl | decide | assumption | simp) ?_)
    (walk_at "un"; iterate 3 (walk1; walk_at "un"))
    rw [← hB, isLetB_other hk] at k
    (walk_at "un"); exact k _ _ _ (S.fin _ fun _ q => q)
set_option maxHeartbeats 2000000 in
theorem is_set_spec {Q : Value → Shared → Prop} {fx : Addr} {W0 : Tree} {i : Int} {ti : Tok} (W : Wo (Mine.hd0.heap_1 w.params) b) (C : Cx A 1 4) (P : Pre b g h []) (hF : FactsAt prog w g fx W0)
    (k : ∀ g' h' tk', Fin ⟨h, g, []⟩ g' h' [] → Q (.bool (decide (0 < cnt 3 i W0))) ⟨h', gs, dr, tk', os⟩) :
    wpAny (model prog w) A (call (.ref 582) [.ref fx, .int i ti]) Q E ⟨h, gs, dr, tk, os⟩ := by
  obtain ⟨d1, d2, o1, o2, kv1, kv2, t1, t2, t3, t4, t5, t6, t7, t8, t9, t10, v3, v4, v5, v6, v7, v8, v9, v10, I, h1, h2, m1, m2, l1, l2, c1, c2⟩ := hF
  refine r_call (d := 0) (u := 1) (binds := [("self", .ref fx), ("number", .int i ti)]) (l := [("self", .ref fx), ("number", .int i ti)]) W C P (by k_is) (by k_is) rfl (by rfl) (.cons rfl (.cons rfl .nil)) ?_
  intro A' env L h' tk' C' N S E'
  (walk_at "un"; iterate 6 (walk1; walk_at "un"))
  refine r_attr W S I rfl (by k_is) (by k_is) (by k_is) (by k_is) rfl ?_
  intro _
  (walk_at "un"; iterate 0 (walk1; walk_at "un"))
  refine r_dmeth (S.gk _ _ h2) m2 PySem.F.slot_dict_get PySem.F.type_dict_get ?_
  (walk_at "un"; iterate 6 (walk1; walk_at "un"))
  refine r_dget2 (S.gk _ _ h2) m2 l2 ?_
  intro tk3
  rw [(c2.getD i _).choose_spec]
  (walk_at "un"; iterate 2 (walk1; walk_at "un"))
  (walk_at "un"); exact k _ _ _ (S.fin _ fun _ q => q)
set_option maxHeartbeats 2000000 in
theorem times_read_spec {Q : Value → Shared → Prop} {fx : Addr} {W0 : Tree} {i : Int} {ti : Tok} (W : Wo (Mine.hd0.heap_1 w.params) b) (C : Cx A 1 4) (P : Pre b g h []) (hF : FactsAt prog w g fx W0)
    (k : ∀ u g' h' tk', Fin ⟨h, g, []⟩ g' h' [] → Q (.int (cnt 1 i W0) u) ⟨h', gs, dr, tk', os⟩) :
    wpAny (model prog w) A (call (.ref 596) [.ref fx, .int i ti]) Q E ⟨h, gs, dr, tk, os⟩ := by
  obtain ⟨d1, d2, o1, o2, kv1, kv2, t1, t2, t3, t4, t5, t6, t7, t8, t9, t10, v3, v4, v5, v6, v7, v8, v9, v10, I, h1, h2, m1, m2, l1, l2, c1, c2⟩ := hF
  refine r_call (d := 0) (u := 1) (binds := [("self", .ref fx), ("number", .int i ti)]) (l := [("self", .ref fx), ("number", .int i ti)]) W C P (by k_is) (by k_is) rfl (by rfl) (.cons rfl (.cons rfl .nil)) ?_
  intro A' env L h' tk' C' N S E'
  (walk_at "un"; iterate 5 (walk1; walk_at "un"))
  refine r_attr W S I rfl (by k_is) (by k_is) (by k_is) (by k_is) rfl ?_
  intro _
  (walk_at "un"; iterate 0 (walk1; walk_at "un"))
  refine r_dmeth (S.gk _ _ h1) m1 PySem.F.slot_dict_get PySem.F.type_dict_get ?_
  (walk_at "un"; iterate 6 (walk1; walk_at "un"))
  refine r_dget2 (S.gk _ _ h1) m1 l1 ?_
  intro tk3
  rw [(c1.getD i _).choose_spec]
  (walk_at "un"; iterate 0 (walk1; walk_at "un"))
  (walk_at "un"); exact k _ _ _ _ (S.fin _ fun _ q => q)
set_option maxHeartbeats 2000000 in
theorem unassigned_spec {Q : Value → Shared → Prop} {x : Addr} {c : CV} {ks : List Tree} (W : Wo (Mine.hd0.heap_1 w.params) b) (C : Cx A 1 4) (P : Pre b g h []) (hN : NodeAt w.params g (.ref x) (.node (.const c) ks))
    (k : ∀ g' h' tk', Fin ⟨h, g, []⟩ g' h' [] → Q (.bool false) ⟨h', gs, dr, tk', os⟩) :
    wpAny (model prog w) A (call (.ref 652) [.ref x]) Q E ⟨h, gs, dr, tk, os⟩ := by
  refine hN.unmk ?_
  intro vs H _
  refine r_call (d := 0) (u := 1) (binds := [("node", .ref x)]) (l := [("node", .ref x)]) W C P (by k_is) (by k_is) rfl (by rfl) (.cons rfl .nil) ?_
  intro A' env L h' tk' C' N S E'
  (walk_at "un"; iterate 6 (walk1; walk_at "un"))
  refine r_kind W S H ?_
  intro t1 tk1
  (walk_at "un"; iterate 3 (walk1; walk_at "un"))
  refine ite_pos rfl ?_
  refine H.uncon ?_
  intro t1 cv _ I hc
  have hh := hc.handed
  (walk_at "un"; iterate 4 (walk1; walk_at "un"))
  refine r_attr W S I rfl (by k_is) (by k_is) (by k_is) (by k_is) hh ?_
  intro _
  (walk_at "un"; iterate 1 (walk1; walk_at "un"))
  clear H hN I hh
  cases c with
  | num i =>
    obtain ⟨t, rfl⟩ := hc
    refine wpAny_is_other rfl (by intro z; cases z) ?_
    (walk_at "un"; iterate 0 (walk1; walk_at "un"))
    (walk_at "un"); exact k _ _ _ (S.fin _ fun _ q => q)
  | bool x =>
    cases hc
    refine wpAny_is_other rfl (by intro z; cases z) ?_
    (walk_at "un"; iterate 0 (walk1; walk_at "un"))
    (walk_at "un"); exact k _ _ _ (S.fin _ fun _ q => q)
  | unspec =>
    cases hc
    obtain ⟨es1, k1, q1, ⟨dx1, J1, _⟩, _⟩ := unspec_inst W (fun a o q => S.gsub a o (S.base a o q))
    obtain ⟨es2, k2, q2, ⟨dx2, J2, _⟩, _⟩ := unasg_inst W (fun a o q => S.gsub a o (S.base a o q))
    refine wpAny_is_ref_other (s := ⟨h', gs, dr, _, os⟩) (x := 353) (y := 356) (by decide) (S.gk _ _ J1) (S.gk _ _ J2) (by simp) ?_
    (walk_at "un"; iterate 0 (walk1; walk_at "un"))
    (walk_at "un"); exact k _ _ _ (S.fin _ fun _ q => q)
  | pair =>
    obtain ⟨xp, esp, kp, rfl, ⟨dx1, J1, _⟩⟩ := hc
    obtain ⟨es2, k2, q2, ⟨dx2, J2, J3⟩, _⟩ := unasg_inst W (fun a o q => S.gsub a o (S.base a o q))
    have hne : xp ≠ 356 := fun z => by
      subst z
      rw [J1] at J2
      have := congrArg Obj.cls (Option.some.inj J2)
      simp at this
    refine wpAny_is_ref_other (s := ⟨h', gs, dr, _, os⟩) (x := xp) (y := 356) hne (S.gk _ _ J1) (S.gk _ _ J2) (by simp) ?_
    (walk_at "un"; iterate 0 (walk1; walk_at "un"))
    (walk_at "un"); exact k _ _ _ (S.fin _ fun _ q => q)
end
section
variable {prog : Program} {w : World} {A : Around} {E : Value → Shared → Prop} {gs : Array GenState} {dr : Drawn} {tk : Tok} {os : OsState}
variable {b : Heap} {e : Ent} {g : GH} {L : Addr} {h : Heap} {l : List (Str × Value)} {n n1 : List (Addr × Obj)} {env : Env} {sc : Scope} {cl : List (Str × Addr)}
noncomputable def CV.word : CV → Str
  | .num _ => "number" | .bool _ => "boolean" | .unspec => "unspecified" | .pair => "pair"
set_option maxHeartbeats 4000000 in
theorem kind_word_spec {Q : Value → Shared → Prop} {cv : Value} {c : CV} (W : Wo (Mine.hd0.heap_1 w.params) b) (C : Cx A 1 4) (P : Pre b g h []) (hc : CVal g c cv)
    (k : ∀ u g' h' tk', Fin ⟨h, g, []⟩ g' h' [] → Q (.str c.word u) ⟨h', gs, dr, tk', os⟩) :
    wpAny (model prog w) A (call (.ref 553) [cv]) Q E ⟨h, gs, dr, tk, os⟩ := by
  refine r_call (d := 0) (u := 1) (binds := [("datum", cv)]) (l := [("datum", cv)]) W C P (by k_is) (by k_is) rfl (by rfl) (.cons rfl .nil) ?_
  intro A' env L h' tk' C' N S E'
  cases c with
  | bool x =>
    cases hc
    (walk_at "un"; iterate 11 (walk1; walk_at "un"))
    refine r_isi W S kitx_bool trivial (by kit_is) (by intro q; cases q) ?_
    intro _
    (walk_at "un"; iterate 1 (walk1; walk_at "un"))
    (refine ite_pos (by first | rfl | decide | assumption | simp) ?_)
    (walk_at "un"; iterate 3 (walk1; walk_at "un"))
    (walk_at "un"); exact k _ _ _ _ (S.fin _ fun _ q => q)
  | unspec =>
    cases hc
    obtain ⟨es, ku, tu, J, hti⟩ := unspec_inst W (fun a o q => S.gsub a o (S.base a o q))
    obtain ⟨dx, I3⟩ := S.inst J
    (walk_at "un"; iterate 11 (walk1; walk_at "un"))
    refine r_isi W S (kitx_own (by k_is) (by k_is) (by k_is) (by k_is) (by k_is) (by k_is)) I3 (by kit_is) (by intro q; cases q) ?_
    intro _
    (walk_at "un"; iterate 1 (walk1; walk_at "un"))
    (refine ite_neg (by first | decide | assumption | simp) ?_)
    (walk_at "un"; iterate 12 (walk1; walk_at "un"))
    refine r_isi W S (kitx_own (by k_is) (by k_is) (by k_is) (by k_is) (by k_is) (by k_is)) I3 (by kit_is) (by intro q; cases q) ?_
    intro _
    (walk_at "un"; iterate 1 (walk1; walk_at "un"))
    (refine ite_neg (by first | decide | assumption | simp) ?_)
    (walk_at "un"; iterate 12 (walk1; walk_at "un"))
    refine r_isi W S (kitx_own (by k_is) (by k_is) (by k_is) (by k_is) (by k_is) (by k_is)) I3 (by kit_is) (by intro q; cases q) ?_
    intro _
    (walk_at "un"; iterate 1 (walk1; walk_at "un"))
    (refine ite_neg (by first | decide | assumption | simp) ?_)
    (walk_at "un"; iterate 12 (walk1; walk_at "un"))
    refine r_isi W S (kitx_own (by k_is) (by k_is) (by k_is) (by k_is) (by k_is) (by k_is)) I3 (by kit_is) (by intro q; cases q) ?_
    intro _
    (walk_at "un"; iterate 1 (walk1; walk_at "un"))
    (refine ite_pos (by first | rfl | decide | assumption | simp) ?_)
    (walk_at "un"; iterate 4 (walk1; walk_at "un"))
    refine r_attr W S J hti (by k_is) (by k_is) (by k_is) (by k_is) rfl ?_
    intro _
    (walk_at "un"; iterate 0 (walk1; walk_at "un"))
    (walk_at "un"); exact k _ _ _ _ (S.fin _ fun _ q => q)
  | pair =>
    obtain ⟨xp, es, ku, rfl, J⟩ := hc
    obtain ⟨dx, I3⟩ := S.inst J
    (walk_at "un"; iterate 11 (walk1; walk_at "un"))
    refine r_isi W S (kitx_own (by k_is) (by k_is) (by k_is) (by k_is) (by k_is) (by k_is)) I3 (by kit_is) (by intro q; cases q) ?_
    intro _
    (walk_at "un"; iterate 1 (walk1; walk_at "un"))
    (refine ite_neg (by first | decide | assumption | simp) ?_)
    (walk_at "un"; iterate 12 (walk1; walk_at "un"))
    refine r_isi W S (kitx_own (by k_is) (by k_is) (by k_is) (by k_is) (by k_is) (by k_is)) I3 (by kit_is) (by intro q; cases q) ?_
    intro _
    (walk_at "un"; iterate 1 (walk1; walk_at "un"))
    (refine ite_pos (by first | rfl | decide | assumption | simp) ?_)
    (walk_at "un"; iterate 3 (walk1; walk_at "un"))
    (walk_at "un"); exact k _ _ _ _ (S.fin _ fun _ q => q)
  | num i =>
    obtain ⟨t, rfl⟩ := hc
    (walk_at "un"; iterate 11 (walk1; walk_at "un"))
    refine r_isi W S kitx_int trivial (by kit_is) (by intro q; cases q) ?_
    intro _
    (walk_at "un"; iterate 1 (walk1; walk_at "un"))
    (refine ite_neg (by first | decide | assumption | simp) ?_)
    (walk_at "un"; iterate 12 (walk1; walk_at "un"))
    refine r_isi W S kitx_int trivial (by kit_is) (by intro q; cases q) ?_
    intro _
    (walk_at "un"; iterate 1 (walk1; walk_at "un"))
    (refine ite_neg (by first | decide | assumption | simp) ?_)
    (walk_at "un"; iterate 12 (walk1; walk_at "un"))
    refine r_isi W S kitx_int trivial (by kit_is) (by intro q; cases q) ?_
    intro _
    (walk_at "un"; iterate 1 (walk1; walk_at "un"))
    (refine ite_neg (by first | decide | assumption | simp) ?_)
    (walk_at "un"; iterate 12 (walk1; walk_at "un"))
    refine r_isi W S kitx_int trivial (by kit_is) (by intro q; cases q) ?_
    intro _
    (walk_at "un"; iterate 1 (walk1; walk_at "un"))
    (refine ite_neg (by first | decide | assumption | simp) ?_)
    (walk_at "un"; iterate 12 (walk1; walk_at "un"))
    refine r_isi W S kitx_int trivial (by kit_is) (by intro q; cases q) ?_
    intro _
    (walk_at "un"; iterate 1 (walk1; walk_at "un"))
    (refine ite_neg (by first | decide | assumption | simp) ?_)
    (walk_at "un"; iterate 12 (walk1; walk_at "un"))
    refine r_isi W S kitx_int trivial (by kit_is) (by intro q; cases q) ?_
    intro _
    (walk_at "un"; iterate 1 (walk1; walk_at "un"))
    (refine ite_neg (by first | decide | assumption | simp) ?_)
    (walk_at "un"; iterate 12 (walk1; walk_at "un"))
    refine r_isi W S kitx_int trivial (by kit_is) (by intro q; cases q) ?_
    intro _
    (walk_at "un"; iterate 1 (walk1; walk_at "un"))
    (refine ite_neg (by first | decide | assumption | simp) ?_)
    (walk_at "un"; iterate 12 (walk1; walk_at "un"))
    refine r_isi W S kitx_int trivial (by kit_is) (by intro q; cases q) ?_
    intro _
    (walk_at "un"; iterate 1 (walk1; walk_at "un"))
    (refine ite_neg (by first | decide | assumption | simp) ?_)
    (walk_at "un"; iterate 12 (walk1; walk_at "un"))
    refine r_isi W S kitx_int trivial (by kit_is) (by intro q; cases q) ?_
    intro _
    (walk_at "un"; iterate 1 (walk1; walk_at "un"))
    (refine ite_neg (by first | decide | assumption | simp) ?_)
    (walk_at "un"; iterate 12 (walk1; walk_at "un"))
    refine r_isi W S kitx_int trivial (by kit_is) (by intro q; cases q) ?_
    intro _
    (walk_at "un"; iterate 1 (walk1; walk_at "un"))
    (refine ite_neg (by first | decide | assumption | simp) ?_)
    (walk_at "un"; iterate 13 (walk1; walk_at "un"))
    refine r_isi W S kitx_int trivial (by kit_is) (by intro q; cases q) ?_
    intro _
    (walk_at "un"; iterate 1 (walk1; walk_at "un"))
    (refine ite_neg (by first | decide | assumption | simp) ?_)
    (walk_at "un"; iterate 1 (walk1; walk_at "un"))
    (walk_at "un"); exact k _ _ _ _ (S.fin _ fun _ q => q)
noncomputable def atomC : CV → Bool
  | .pair => false
  | _ => true
set_option maxHeartbeats 4000000 in
theorem is_atom_spec {Q : Value → Shared → Prop} {cv : Value} {c : CV} (W : Wo (Mine.hd0.heap_1 w.params) b) (C : Cx A 2 7) (P : Pre b g h []) (hc : CVal g c cv)
    (k : ∀ g' h' tk', Fin ⟨h, g, []⟩ g' h' [] → Q (.bool (atomC c)) ⟨h', gs, dr, tk', os⟩) :
    wpAny (model prog w) A (call (.ref 561) [cv]) Q E ⟨h, gs, dr, tk, os⟩ := by
  refine r_call (d := 1) (u := 4) (binds := [("datum", cv)]) (l := [("datum", cv)]) W C P (by k_is) (by k_is) rfl (by rfl) (.cons rfl .nil) ?_
  intro A' env L h' tk' C' N S E'
  (walk_at "un"; iterate 10 (walk1; walk_at "un"))
  refine kind_word_spec W C' S.pre0 hc ?_
  intro u1 g1 h1 tk1 F1
  have S1 := S.back0 F1
  (walk_at "un"; iterate 1 (walk1; walk_at "un"))
  refine r_inTs (ys := ["boolean", "number", "symbol", "char", "empty", "unspecified"]) (S1.kin W _ _ (by k_is)) (.cons _ _ (.cons _ _ (.cons _ _ (.cons _ _ (.cons _ _ (.cons _ _ .nil)))))) ?_
  (walk_at "un"; iterate 0 (walk1; walk_at "un"))
  have e : (["boolean", "number", "symbol", "char", "empty", "unspecified"] : List Str).any (· == c.word) = atomC c := by cases c <;> (simp only [CV.word, atomC]; decide +kernel)
  rw [e]
  (walk_at "un"); exact k _ _ _ (S1.fin _ fun _ q => q)
end
theorem cnt_nonneg (kd n : Int) : ∀ t : Tree, 0 ≤ cnt kd n t := Tree.ind fun k ks ih => by
  have : ∀ ts : List Tree, (∀ t ∈ ts, 0 ≤ cnt kd n t) → 0 ≤ (cntL kd n ts).sum := by
    intro ts
    induction ts with
    | nil => intro _; simp [cntL]
    | cons t ts ih2 =>
      intro h
      have h1 := h t (.head _)
      have h2 := ih2 fun t ht => h t (.tail _ ht)
      simp only [cntL, List.sum_cons]; lia
  have := this ks ih
  simp only [cnt]
  split <;> lia
theorem atom_or {W0 : Tree} {i : Int} {c : CV} : (atomB W0 i (.const c) || locB W0 (.const c)) = (atomC c || cnt 1 i W0 == 1) := by
  unfold atomB
  rw [eqv_pair]
  cases c <;> simp [Nk.num, locB, atomC]
theorem atom_no {W0 : Tree} {i : Int} {ko : Nk} (h0 : ko.num ≠ 0) (h1 : ko.num ≠ 1) : (atomB W0 i ko || locB W0 ko) = false := by cases ko <;> simp_all [atomB, locB, Nk.num]
section
variable {prog : Program} {w : World} {A : Around} {E : Value → Shared → Prop} {gs : Array GenState} {dr : Drawn} {tk : Tok} {os : OsState}
variable {b : Heap} {e : Ent} {g : GH} {L : Addr} {h : Heap} {l : List (Str × Value)} {n n1 : List (Addr × Obj)} {env : Env} {sc : Scope} {cl : List (Str × Addr)}
set_option maxHeartbeats 4000000 in
theorem can_go_spec {Q : Value → Shared → Prop} {cx fx xo : Addr} {tf : Tok} {W0 : Tree} {i : Int} {ti : Tok} {ko : Nk} {kos : List Tree} (W : Wo (Mine.hd0.heap_1 w.params) b) (C : Cx A 4 12) (P : Pre b g h []) (I : GInst g cx 718 [ent w.params "facts" tf (.ref fx)] 1) (hF : FactsAt prog w g fx W0) (hN : NodeAt w.params g (.ref xo) (.node ko kos))
    (k : ∀ g' h' tk', Fin ⟨h, g, []⟩ g' h' [] → Q (.bool (goB W0 i ko)) ⟨h', gs, dr, tk', os⟩) :
    wpAny (model prog w) A (call (.ref 708) [.ref cx, .int i ti, .ref xo]) Q E ⟨h, gs, dr, tk, os⟩ := by
  refine hN.unmk ?_
  intro vs H _
  have c0 := cnt_nonneg 3 i W0
  refine r_call (d := 3) (u := 9) (binds := [("self", .ref cx), ("number", .int i ti), ("operand", .ref xo)]) (l := [("self", .ref cx), ("number", .int i ti), ("operand", .ref xo)]) W C P (by k_is) (by k_is) rfl (by rfl) (.cons rfl (.cons rfl (.cons rfl .nil))) ?_
  intro A' env L h' tk' C' N S E'
  (walk_at "un"; iterate 6 (walk1; walk_at "un"))
  refine r_attr W S I rfl (by k_is) (by k_is) (by k_is) (by k_is) rfl ?_
  intro _
  (walk_at "un"; iterate 0 (walk1; walk_at "un"))
  obtain ⟨d1, d2, o1, o2, kv1, kv2, t1, t2, t3, t4, t5, t6, t7, t8, t9, t10, v3, v4, v5, v6, v7, v8, v9, v10, IF, -, -, -, -, -, -, -, -⟩ := id hF
  refine r_method W S IF (by k_is) (by k_is) (by k_is) rfl ?_
  (walk_at "un"; iterate 5 (walk1; walk_at "un"))
  refine is_set_spec W (C'.mono (by first | decide | lia) (by first | decide | lia)) S.pre0 hF ?_
  intro g1 h1 tk1 F1
  have S1 := S.back0 F1
  have hs1 : ∀ a o, g a = some o → g1 a = some o := F1.gsub
  clear S F1
  (walk_at "un"; iterate 1 (walk1; walk_at "un"))
  by_cases hset : 0 < cnt 3 i W0
  · refine ite_pos (by simpa using hset) ?_
    (walk_at "un"; iterate 3 (walk1; walk_at "un"))
    have e : goB W0 i ko = false := by
      rw [goB_eq]
      have : (cnt 3 i W0 == 0) = false := by rw [beq_eq_false_iff_ne]; lia
      rw [this, Bool.false_and]
    rw [e] at k
    (walk_at "un"); exact k _ _ _ (S1.fin _ fun _ q => q)
  · refine ite_neg (by simpa using hset) ?_
    have h30 : (cnt 3 i W0 == 0) = true := by rw [beq_iff_eq]; lia
    rw [goB_eq, h30, Bool.true_and] at k
    (walk_at "un"; iterate 6 (walk1; walk_at "un"))
    refine r_kind W S1 (H.mono hs1) ?_
    intro t11 tk11
    (walk_at "un"; iterate 3 (walk1; walk_at "un"))
    by_cases hk1 : ko.num = 1
    · refine ite_pos (by simp [hk1]) ?_
      walk_at "fz"
      obtain ⟨m, hkm⟩ := Nk.is_loc hk1
      rw [hkm] at H
      refine H.unloc ?_
      intro _ _ _ Il
      walk_at "thaw"
      (walk_at "un"; iterate 6 (walk1; walk_at "un"))
      refine r_attr W S1 (I.mono hs1) rfl (by k_is) (by k_is) (by k_is) (by k_is) rfl ?_
      intro _
      (walk_at "un"; iterate 0 (walk1; walk_at "un"))
      refine r_method W S1 (IF.mono hs1) (by k_is) (by k_is) (by k_is) rfl ?_
      (walk_at "un"; iterate 4 (walk1; walk_at "un"))
      refine r_attr W S1 (Il.mono hs1) rfl (by k_is) (by k_is) (by k_is) (by k_is) rfl ?_
      intro _
      (walk_at "un"; iterate 2 (walk1; walk_at "un"))
      refine is_set_spec W (C'.mono (by first | decide | lia) (by first | decide | lia)) S1.pre0 (hF.mono hs1) ?_
      intro g13 h13 tk13 F13
      have S13 := S1.back0 F13
      clear S1 F13
      (walk_at "un"; iterate 2 (walk1; walk_at "un"))
      have e : (atomB W0 i ko || locB W0 ko) = !decide (0 < cnt 3 m W0) := by
        rw [hkm]
        have c1 := cnt_nonneg 3 m W0
        have : (cnt 3 m W0 == 0) = !decide (0 < cnt 3 m W0) := by
          by_cases q : cnt 3 m W0 = 0
          · simp [q]
          · have : 0 < cnt 3 m W0 := by lia
            simp [q, this]
        rw [← this]
        simp [atomB, locB, Nk.num]
      rw [e] at k
      (walk_at "un"); exact k _ _ _ (S13.fin _ fun _ q => q)
    · refine ite_neg (by simpa using hk1) ?_
      (walk_at "un"; iterate 8 (walk1; walk_at "un"))
      refine r_kind W S1 (H.mono hs1) ?_
      intro t12 tk12
      (walk_at "un"; iterate 3 (walk1; walk_at "un"))
      by_cases hk0 : ko.num = 0
      · refine ite_neg (by simp [hk0]) ?_
        walk_at "fz"
        obtain ⟨c, hkm⟩ := Nk.is_const hk0
        rw [hkm] at H hN
        refine H.uncon ?_
        intro tc cv _ Ic hc
        have hh := hc.handed
        walk_at "thaw"
        (walk_at "un"; iterate 9 (walk1; walk_at "un"))
        refine unassigned_spec W (C'.mono (by first | decide | lia) (by first | decide | lia)) S1.pre0 (hN.mono hs1) ?_
        intro g13 h13 tk13 F13
        have S13 := S1.back0 F13
        have hs13 : ∀ a o, g1 a = some o → g13 a = some o := F13.gsub
        clear S1 F13
        (walk_at "un"; iterate 1 (walk1; walk_at "un"))
        (refine ite_neg (by first | decide | assumption | simp) ?_)
        (walk_at "un"; iterate 1 (walk1; walk_at "un"))
        (refine ite_neg (by first | decide | assumption | simp) ?_)
        have hs1' : ∀ a o, g a = some o → g13 a = some o := fun a o q => hs13 a o (hs1 a o q)
        (walk_at "un"; iterate 10 (walk1; walk_at "un"))
        refine r_attr W S13 (Ic.mono hs1') rfl (by k_is) (by k_is) (by k_is) (by k_is) hh ?_
        intro _
        (walk_at "un"; iterate 2 (walk1; walk_at "un"))
        refine is_atom_spec W (C'.mono (by first | decide | lia) (by first | decide | lia)) S13.pre0 (hc.mono hs1') ?_
        intro g14 h14 tk14 F14
        have S14 := S13.back0 F14
        have hs14 : ∀ a o, g a = some o → g14 a = some o := fun a o q => F14.gsub _ _ (hs1' _ _ q)
        clear S13 F14
        (walk_at "un"; iterate 1 (walk1; walk_at "un"))
        rw [hkm, atom_or] at k
        by_cases hat : atomC c = true
        · refine ite_pos hat ?_
          rw [hat, Bool.true_or] at k
          (walk_at "un"; iterate 0 (walk1; walk_at "un"))
          rw [hat]
          (walk_at "un"); exact k _ _ _ (S14.fin _ fun _ q => q)
        · refine ite_neg hat ?_
          rw [Bool.eq_false_iff.mpr hat, Bool.false_or] at k
          (walk_at "un"; iterate 5 (walk1; walk_at "un"))
          refine r_attr W S14 (I.mono hs14) rfl (by k_is) (by k_is) (by k_is) (by k_is) rfl ?_
          intro _
          (walk_at "un"; iterate 0 (walk1; walk_at "un"))
          refine r_method W S14 (IF.mono hs14) (by k_is) (by k_is) (by k_is) rfl ?_
          (walk_at "un"; iterate 5 (walk1; walk_at "un"))
          refine times_read_spec W (C'.mono (by first | decide | lia) (by first | decide | lia)) S14.pre0 (hF.mono hs14) ?_
          intro u15 g15 h15 tk15 F15
          have S15 := S14.back0 F15
          clear S14 F15
          (walk_at "un"; iterate 2 (walk1; walk_at "un"))
          (walk_at "un"); exact k _ _ _ (S15.fin _ fun _ q => q)
      · refine ite_pos (by simpa using hk0) ?_
        (walk_at "un"; iterate 0 (walk1; walk_at "un"))
        (refine ite_pos (by first | rfl | decide | assumption | simp) ?_)
        (walk_at "un"; iterate 3 (walk1; walk_at "un"))
        rw [atom_no hk0 hk1] at k
        (walk_at "un"); exact k _ _ _ (S1.fin _ fun _ q => q)
end
/-- the dict of what goes -/
noncomputable def GoneAt (P : Params) (g : GH) (kv : List (Int × Value)) (σ : List (Int × Tree)) : Prop :=
  ∀ n, (valueAt kv n = none ∧ lookT σ n = none) ∨ ∃ v o, valueAt kv n = some v ∧ lookT σ n = some o ∧ NodeAt P g v o
theorem GoneAt.mono {P : Params} {g g' : GH} {kv : List (Int × Value)} {σ : List (Int × Tree)} (hg : ∀ a o, g a = some o → g' a = some o) (G : GoneAt P g kv σ) : GoneAt P g' kv σ := fun n => by
  rcases G n with h | ⟨v, o, h1, h2, h3⟩
  · exact .inl h
  · exact .inr ⟨v, o, h1, h2, h3.mono hg⟩
theorem keptT_len {σ : List (Int × Tree)} : ∀ {ps : List Int} {ops : List Tree}, (keptT σ ps ops).length ≤ ps.length
  | n :: ns, o :: os => by
    have := keptT_len (σ := σ) (ps := ns) (ops := os)
    rw [keptT]
    split <;> simp only [List.length_cons] <;> lia
  | [], _ => by simp [keptT]
  | _ :: _, [] => by simp [keptT]
theorem keptT_snoc {σ : List (Int × Tree)} {n : Int} {o : Tree} : ∀ {ps : List Int} {ops : List Tree}, ps.length = ops.length → keptT σ (ps ++ [n]) (ops ++ [o]) = if (lookT σ n).isSome then keptT σ ps ops else keptT σ ps ops ++ [(n, o)]
  | [], [], _ => by simp [keptT]
  | m :: ps, q :: ops, h => by
    have ih := keptT_snoc (σ := σ) (n := n) (o := o) (ps := ps) (ops := ops) (by simpa using h)
    rw [List.cons_append, List.cons_append, keptT, keptT, ih]
    split <;> split <;> simp
  | [], _ :: _, h => by simp at h
  | _ :: _, [], h => by simp at h
theorem keptT_next {σ : List (Int × Tree)} {ps : List Int} {ops : List Tree} {i : Nat} {n : Int} {o : Tree} (h1 : ps[i]? = some n) (h2 : ops[i]? = some o) : keptT σ (ps.take (i + 1)) (ops.take (i + 1)) = if (lookT σ n).isSome then keptT σ (ps.take i) (ops.take i) else keptT σ (ps.take i) (ops.take i) ++ [(n, o)] := by
  rw [take_snoc h1, take_snoc h2]
  have a1 := (List.getElem?_eq_some_iff.mp h1).1
  have a2 := (List.getElem?_eq_some_iff.mp h2).1
  exact keptT_snoc (by rw [List.length_take, List.length_take]; lia)
theorem subN_no {σ : List (Int × Tree)} {k0 : Nk} {ks : List Tree} (h : k0.num ≠ 1) : subN σ k0 ks = .node k0 ks := by cases k0 <;> first | rfl | (simp [Nk.num] at h)
structure WS where
  a : List Value
  b : List Value
  c : Nat
  d : Nat
section
variable {prog : Program} {w : World} {A : Around} {E : Value → Shared → Prop} {gs : Array GenState} {dr : Drawn} {tk : Tok} {os : OsState}
variable {b : Heap} {e : Ent} {g : GH} {L : Addr} {h : Heap} {l : List (Str × Value)} {n n1 : List (Addr × Obj)} {env : Env} {sc : Scope} {cl : List (Str × Addr)}
set_option maxHeartbeats 4000000 in
theorem putting_ok {g0 : GH} {q px gd : Addr} {og : Obj} {tn : Tok} {kv : List (Int × Value)} {σ : List (Int × Tree)} (hq : g0 q = some (methodObj (.ref 673) (.ref px))) (I : GInst g0 px 676 [ent w.params "nodes" tn (.ref gd)] 1) (hd : g0 gd = some og) (hm : IsM prog w og kv) (hs : (gd == sysModules) = false) (G : GoneAt w.params g0 kv σ) :
    ChangeOk prog w 2 6 g0 q (subN σ) (fun _ _ => True) := by
  intro A E gs dr tk os b g h Q v k0 ks W C P hg hN _ k
  refine hN.unmk ?_
  intro vs H hks
  obtain ⟨x, rfl⟩ := H.ref
  generalize hD : subN σ k0 ks = Ds at k
  refine r_callbound P (hg _ _ hq) ?_
  refine r_code (d := 1) (u := 3) (binds := [("self", .ref px), ("node", .ref x)]) (l := [("self", .ref px), ("node", .ref x)]) W C P (by k_is) (by k_is) rfl (by rfl) (.cons rfl (.cons rfl .nil)) ?_
  intro A' env L h' tk' C' N S E'
  (walk_at "un"; iterate 6 (walk1; walk_at "un"))
  refine r_kind W S H ?_
  intro t1 tk1
  (walk_at "un"; iterate 3 (walk1; walk_at "un"))
  by_cases hk1 : k0.num = 1
  · refine ite_pos (by simp [hk1]) ?_
    walk_at "fz"
    obtain ⟨m, hkm⟩ := Nk.is_loc hk1
    rw [hkm] at H hD hN
    refine H.unloc ?_
    intro tl u hvs Il
    rw [hvs] at hks
    walk_at "thaw"
    (walk_at "un"; iterate 3 (walk1; walk_at "un"))
    refine r_attr W S (I.mono hg) rfl (by k_is) (by k_is) (by k_is) (by k_is) rfl ?_
    intro _
    (walk_at "un"; iterate 0 (walk1; walk_at "un"))
    refine r_dmeth (S.gk _ _ (hg _ _ hd)) hm PySem.F.slot_dict_get PySem.F.type_dict_get ?_
    (walk_at "un"; iterate 4 (walk1; walk_at "un"))
    refine r_attr W S Il rfl (by k_is) (by k_is) (by k_is) (by k_is) rfl ?_
    intro _
    (walk_at "un"; iterate 3 (walk1; walk_at "un"))
    refine r_dget2 (S.gk _ _ (hg _ _ hd)) hm hs ?_
    intro tk3
    (walk_at "un"); show Q ((valueAt kv m).getD (.ref x)) _
    have hke : ks = [] := List.eq_nil_of_length_eq_zero (NodesAt.length hks).symm
    rw [hke] at hD hN
    rcases G m with ⟨h1, h2⟩ | ⟨v2, o2, h1, h2, h3⟩
    · rw [h1]
      (walk_at "un"); refine k _ g _ _ ?_ (S.fin _ fun _ q => q)
      rw [← hD]
      simp only [subN, h2, Option.getD_none]
      exact hN
    · rw [h1]
      (walk_at "un"); refine k _ g _ _ ?_ (S.fin _ fun _ q => q)
      rw [← hD]
      simp only [subN, h2, Option.getD_some]
      exact h3.mono hg
  · refine ite_neg (by simpa using hk1) ?_
    (walk_at "un"; iterate 1 (walk1; walk_at "un"))
    (walk_at "un"); refine k _ g _ _ ?_ (S.fin _ fun _ q => q)
    rw [← hD, subN_no hk1]
    exact hN
set_option maxHeartbeats 4000000 in
theorem let_node_spec {Q : Value → Shared → Prop} {lp lo : Addr} {l0 : Int} {tl : Tok} {pvs ws : List Value} {ps : List Int} {ops : List Tree} {tb : Tree} {bv : Value} {k1 k2 : Nat} (W : Wo (Mine.hd0.heap_1 w.params) b) (C : Cx A 3 7) (P : Pre b g h []) (hp : g lp = some (listO pvs k1)) (hi : Ints pvs ps) (hpz : ps.length ≤ 100) (ho : g lo = some (listO ws k2)) (hops : NodesAt w.params g ws ops) (hb : NodeAt w.params g bv tb)
    (k : ∀ r g' h' tk', NodeAt w.params g' r (.node .call (.node (.lam l0 ps (-1)) [tb] :: ops)) → Fin ⟨h, g, []⟩ g' h' [] → Q r ⟨h', gs, dr, tk', os⟩) :
    wpAny (model prog w) A (call (.ref 320) [.int l0 tl, .ref lp, .ref lo, bv]) Q E ⟨h, gs, dr, tk, os⟩ := by
  refine r_call (d := 2) (u := 4) (binds := [("label", .int l0 tl), ("numbers", .ref lp), ("values", .ref lo), ("body", bv)]) (l := [("label", .int l0 tl), ("numbers", .ref lp), ("values", .ref lo), ("body", bv)]) W C P (by k_is) (by k_is) rfl (by rfl) (.cons rfl (.cons rfl (.cons rfl (.cons rfl .nil)))) ?_
  intro A' env L h' tk' C' N S E'
  (walk_at "un"; iterate 21 (walk1; walk_at "un"))
  refine mk_lam W C' S.pre0 ?_
  intro y s1 s2 s3 s4 g1 h1 tk1 F1 hs1 J1
  have S1 := S.back0 F1
  clear S
  (walk_at "un"; iterate 4 (walk1; walk_at "un"))
  refine mk_call W C' S1.pre0 ?_
  intro z z1 z2 g2 h2 tk2 F2 hs2 J2
  have S2 := S1.back0 F2
  have hs12 : ∀ a o, g a = some o → g2 a = some o := fun a o q => hs2 a o (hs1 a o q)
  (walk_at "un"); refine k _ g2 _ _ ?_ (S2.fin _ fun _ q => q)
  exact .mk (.call J2 (hs12 _ _ ho)) (.cons (.mk (.lam (J1.mono hs2) (hs12 _ _ hp) hi hpz) (.cons (hb.mono hs12) .nil)) (hops.mono hs12))
set_option maxHeartbeats 8000000 in
theorem without_spec {Q : Value → Shared → Prop} {v bv : Value} {gd : Addr} {og : Obj} {kv : List (Int × Value)} {σ : List (Int × Tree)} {l0 r0 : Int} {ps : List Int} {bd tb : Tree} {ops : List Tree} (W : Wo (Mine.hd0.heap_1 w.params) b) (C : Cx A 4 10) (P : Pre b g h []) (hN : NodeAt w.params g v (.node .call (.node (.lam l0 ps r0) [bd] :: ops))) (hlen : ps.length = ops.length)
    (hd : g gd = some og) (hm : IsM prog w og kv) (hs : (gd == sysModules) = false) (G : GoneAt w.params g kv σ) (hb : NodeAt w.params g bv tb)
    (k : ∀ r g' h' tk', NodeAt w.params g' r (if keptT σ ps ops = [] then tb else .node .call (.node (.lam l0 ((keptT σ ps ops).map (·.1)) (-1)) [tb] :: (keptT σ ps ops).map (·.2))) → Fin ⟨h, g, []⟩ g' h' [] → Q r ⟨h', gs, dr, tk', os⟩) :
    wpAny (model prog w) A (call (.ref 687) [v, .ref gd, bv]) Q E ⟨h, gs, dr, tk, os⟩ := by
  refine NodeAt.unlet hN ?_
  intro x lo x2 lp t1 t2 t3 t4 t5 t6 u1 u2 pvs k1 k3 v2 ws I hL hops I2 hp hi hpz hbd
  clear hN
  have hpl := Ints.length hi
  have hol := NodesAt.length hops
  refine r_call (d := 3) (u := 7) (binds := [("let", .ref x), ("gone", .ref gd), ("body", bv)]) (l := [("let", .ref x), ("gone", .ref gd), ("body", bv)]) W C P (by k_is) (by k_is) rfl (by rfl) (.cons rfl (.cons rfl (.cons rfl .nil))) ?_
  intro A' env L h' tk' C' N S E'
  (walk_at "un"; iterate 13 (walk1; walk_at "un"))
  rename_i pa hh1 hpe hh2 tt2 oa hh3 hoe hh4 tt4 S
  refine wpAny_For ?_
  (walk_at "un"; iterate 7 (walk1; walk_at "un"))
  refine r_attr W S I rfl (by k_is) (by k_is) (by k_is) (by k_is) rfl ?_
  intro _
  (walk_at "un"; iterate 0 (walk1; walk_at "un"))
  refine r_attr W S I2 rfl (by k_is) (by k_is) (by k_is) (by k_is) rfl ?_
  intro _
  (walk_at "un"; iterate 3 (walk1; walk_at "un"))
  refine r_attr W S I rfl (by k_is) (by k_is) (by k_is) (by k_is) rfl ?_
  intro _
  (walk_at "un"; iterate 1 (walk1; walk_at "un"))
  refine r_for_zipL (σ := WS) (x0 := ⟨[], [], 0, 0⟩) (fun i y g' => Ints y.a ((keptT σ (ps.take i) (ops.take i)).map (·.1)) ∧ NodesAt w.params g' y.b ((keptT σ (ps.take i) (ops.take i)).map (·.2)))
    (fun y => [("params", .ref pa), ("operands", .ref oa), ("let", .ref x), ("gone", .ref gd), ("body", bv)]) (fun y => [(oa, listO y.b y.d), (pa, listO y.a y.c)]) C' N (by rfl) (by rfl) (S.loc' _ (.cons rfl (.cons rfl (.cons rfl (.cons rfl (.cons rfl .nil)))))) hp hL (by first | decide | lia) ⟨by simp [keptT]; trivial, by simp [keptT]; exact .nil⟩ ?_ ?_
  · rintro i v1 v2 ⟨y1, y2, y3, y4⟩ g' h' tk' e' E9 R_ hR_ hv1 hv2 ⟨hj1, hj2⟩ hs' S'
    dsimp only at hj1 hj2 S' ⊢
    have hi1 : i < pvs.length := (List.getElem?_eq_some_iff.mp hv1).1
    clear k
    walk_at "fz"
    obtain ⟨n, hn⟩ : ∃ n, ps[i]? = some n := ⟨_, List.getElem?_eq_getElem (by first | decide | lia)⟩
    obtain ⟨tn, hv1'⟩ := Ints.get hi hn
    rw [hv1] at hv1'
    obtain rfl := Option.some.inj hv1'
    obtain ⟨o, hoo, hNo⟩ := NodesAt.get hops hv2
    walk_at "thaw"
    have hX := keptT_next (σ := σ) hn hoo
    have hK : (keptT σ (ps.take i) (ops.take i)).length ≤ 100 := by
      have := keptT_len (σ := σ) (ps := ps.take i) (ops := ops.take i)
      rw [List.length_take] at this; lia
    have yl1 := Ints.length hj1
    have yl2 := NodesAt.length hj2
    rw [List.length_map] at yl1 yl2
    (walk_at "un"; iterate 5 (walk1; walk_at "un"))
    refine r_dnotin (S'.gk _ _ (hs' _ _ hd)) hm hs ?_
    intro tk3
    (walk_at "un"; iterate 1 (walk1; walk_at "un"))
    refine (G n).elim (fun h12 => ?_) (fun h12 => ?_)
    · obtain ⟨h1, h2⟩ := h12
      refine ite_pos (by rw [h1]; rfl) ?_
      (walk_at "un"; iterate 9 (walk1; walk_at "un"))
      (rename St _ _ _ _ _ _ _ => S)
      refine r_append S (.tail .head) (by rw [yl1, sizeLine_eq]; lia) ?_
      clear S; intro h5 S
      (walk_at "un"; iterate 9 (walk1; walk_at "un"))
      (rename St _ _ _ _ _ _ _ => S)
      refine r_append S .head (by rw [yl2, sizeLine_eq]; lia) ?_
      clear S; intro h6 S
      (walk_at "un"; iterate 2 (walk1; walk_at "un"))
      (rename St _ _ _ _ _ _ _ => S)
      (walk_at "un"); refine ⟨⟨y1 ++ [.int n tn], y2 ++ [v2], y3 + 1, y4 + 1⟩, g', _, _, ?_, S.loc' _ (.cons rfl (.cons rfl (.cons rfl (.cons rfl (.cons rfl .nil))))), rfl⟩
      rw [hX, h2, if_neg (by simp)]
      rw [List.map_append, List.map_append]
      (walk_at "un"); exact ⟨Ints.append hj1 ⟨⟨_, rfl⟩, trivial⟩, NodesAt.append hj2 (.cons (hNo.mono hs') .nil)⟩
    · obtain ⟨vg, og2, h1, h2, h3⟩ := h12
      refine ite_neg (by rw [h1]; simp) ?_
      (walk_at "un"; iterate 2 (walk1; walk_at "un"))
      (rename St _ _ _ _ _ _ _ => S)
      (walk_at "un"); refine ⟨⟨y1, y2, y3, y4⟩, g', _, _, ?_, S.loc' _ (.cons rfl (.cons rfl (.cons rfl (.cons rfl (.cons rfl .nil))))), rfl⟩
      rw [hX, h2, if_pos (by simp)]
      (walk_at "un"); exact ⟨hj1, hj2⟩
  · rintro ⟨y1, y2, y3, y4⟩ g' h' tk' ⟨hj1, hj2⟩ hs' S'
    dsimp only at hj1 hj2 S' ⊢
    obtain ⟨gA, SA, hsA, hoL⟩ := S'.freeze1 hoe
    obtain ⟨gB, SB, hsB, hpL⟩ := SA.freeze1 hpe
    clear S S' SA
    replace hoL := hsB _ _ hoL
    replace hj2 := hj2.mono fun a o q => hsB a o (hsA a o q)
    have hsC : ∀ a o, g a = some o → gB a = some o := fun a o q => hsB a o (hsA a o (hs' a o q))
    rw [show ps.take pvs.length = ps by rw [List.take_of_length_le]; lia, show ops.take pvs.length = ops by rw [List.take_of_length_le]; lia] at hj1 hj2
    have hK : (keptT σ ps ops).length ≤ 100 := by
      have := keptT_len (σ := σ) (ps := ps) (ops := ops); lia
    have yl1 := Ints.length hj1
    have yl2 := NodesAt.length hj2
    rw [List.length_map] at yl1 yl2
    (walk_at "un"; iterate 10 (walk1; walk_at "un"))
    refine r_len (SB.isListG hpL) (by rw [yl1, sizeLine_eq]; lia) ?_
    intro t9 tk9
    (walk_at "un"; iterate 3 (walk1; walk_at "un"))
    by_cases hke : keptT σ ps ops = []
    · refine ite_neg (by rw [yl1, hke]; simp) ?_
      (walk_at "un"; iterate 1 (walk1; walk_at "un"))
      rw [if_pos hke] at k
      (walk_at "un"); exact k _ gB _ _ (hb.mono hsC) (SB.fin _ fun _ q => q)
    · have : 0 < (keptT σ ps ops).length := List.length_pos_iff.mpr hke
      refine ite_pos (by rw [yl1]; simp; lia) ?_
      rw [if_neg hke] at k
      (walk_at "un"; iterate 7 (walk1; walk_at "un"))
      refine r_attr W SB (I.mono hsC) rfl (by k_is) (by k_is) (by k_is) (by k_is) rfl ?_
      intro _
      (walk_at "un"; iterate 0 (walk1; walk_at "un"))
      refine r_attr W SB (I2.mono hsC) rfl (by k_is) (by k_is) (by k_is) (by k_is) rfl ?_
      intro _
      (walk_at "un"; iterate 8 (walk1; walk_at "un"))
      refine let_node_spec W (C'.mono (by first | decide | lia) (by first | decide | lia)) SB.pre0 hpL hj1 (by rw [List.length_map]; exact hK) hoL hj2 (hb.mono hsC) ?_
      intro r10 g10 h10 tk10 hN10 F10
      have S10 := SB.back0 F10
      (walk_at "un"; iterate 0 (walk1; walk_at "un"))
      (walk_at "un"); exact k _ g10 _ _ hN10 (S10.fin _ fun _ q => q)
end
mutual
theorem allSub_triv {f : Nk → List Tree → Tree} : ∀ t : Tree, allSub f (fun _ _ => True) t
  | .node _ ks => ⟨trivial, allSubs_triv ks⟩
theorem allSubs_triv {f : Nk → List Tree → Tree} : ∀ ts : List Tree, allSubs f (fun _ _ => True) ts
  | [] => trivial
  | t :: ts => ⟨allSub_triv t, allSubs_triv ts⟩
end
theorem goneT_snoc {W : Tree} {n : Int} {o : Tree} : ∀ {ps : List Int} {ops : List Tree}, ps.length = ops.length → goneT W (ps ++ [n]) (ops ++ [o]) = if goB W n o.kd then goneT W ps ops ++ [(n, o)] else goneT W ps ops
  | [], [], _ => by simp [goneT]
  | m :: ps, q :: ops, h => by
    have ih := goneT_snoc (W := W) (n := n) (o := o) (ps := ps) (ops := ops) (by simpa using h)
    rw [List.cons_append, List.cons_append, goneT, goneT, ih]
    split <;> split <;> simp
  | [], _ :: _, h => by simp at h
  | _ :: _, [], h => by simp at h
theorem goneT_next {W : Tree} {ps : List Int} {ops : List Tree} {i : Nat} {n : Int} {o : Tree} (h1 : ps[i]? = some n) (h2 : ops[i]? = some o) : goneT W (ps.take (i + 1)) (ops.take (i + 1)) = if goB W n o.kd then goneT W (ps.take i) (ops.take i) ++ [(n, o)] else goneT W (ps.take i) (ops.take i) := by
  rw [take_snoc h1, take_snoc h2]
  have a1 := (List.getElem?_eq_some_iff.mp h1).1
  have a2 := (List.getElem?_eq_some_iff.mp h2).1
  exact goneT_snoc (by rw [List.length_take, List.length_take]; lia)
theorem lookT_snoc {n x : Int} {o : Tree} : ∀ {σ : List (Int × Tree)}, lookT σ n = none → lookT (σ ++ [(n, o)]) x = if x = n then some o else lookT σ x
  | [], _ => by
    simp only [List.nil_append, lookT]
    by_cases h : x = n
    · rw [if_pos h.symm, if_pos h]
    · rw [if_neg (fun z => h z.symm), if_neg h]
  | p :: σ, h => by
    rw [lookT] at h
    split at h
    · cases h
    · rename_i hp
      rw [List.cons_append, lookT, lookT, lookT_snoc h]
      by_cases hx : p.1 = x
      · rw [if_pos hx, if_pos hx, if_neg (fun z => hp (hx.trans z))]
      · rw [if_neg hx, if_neg hx]
theorem GoneAt.store {P : Params} {g : GH} {kv : List (Int × Value)} {σ : List (Int × Tree)} {n : Int} {v : Value} {o : Tree} (G : GoneAt P g kv σ) (hn : lookT σ n = none) (hv : NodeAt P g v o) : GoneAt P g (stored kv n v) (σ ++ [(n, o)]) := fun x => by
  rw [valueAt_stored, lookT_snoc hn]
  by_cases h : x = n
  · rw [if_pos h, if_pos h]; exact .inr ⟨v, o, rfl, rfl, hv⟩
  · rw [if_neg h, if_neg h]; exact G x
theorem stored_new {kv : List (Int × Value)} {n : Int} {v : Value} (h : valueAt kv n = none) : (stored kv n v).length = kv.length + 1 := by
  unfold stored
  split
  · rename_i q
    obtain ⟨p, hp, e⟩ := List.any_eq_true.mp q
    unfold valueAt at h
    have := List.find?_eq_none.mp (Option.map_eq_none_iff.mp h) p hp
    exact absurd e this
  · simp
theorem copyStep_same {W : Tree} {k : Nk} {ks : List Tree} (h : isLetB k ks = false) : copyStep W k ks = .node k ks := by
  unfold copyStep
  split
  · rename_i l ps r body ops
    unfold copyLet
    rw [if_pos]
    simp only [isLetB, Bool.and_eq_false_iff, decide_eq_false_iff_not, beq_eq_false_iff_ne] at h
    rcases h with h | h
    · exact .inl (by first | decide | lia)
    · exact .inr h
  · rfl
/-- what stands where a copier looks -/
structure PcC (k : Nk) (ks : List Tree) : Prop where
  wf : wfL ks
  ar : arity k ks
  sz : sizes ks ≤ 999
  ok : k = .call → letOk .call ks
theorem found_meth {K : Frag} {C f : Addr} {name : Str} {es : List DictEntry} {k : Nat} {gv : Value} (h1 : hasDictIn K C = true) (h2 : findIn K (.ref C) name = some (some (.ref f))) (h3 : specialIn K (.ref f) "__get__" = some (some gv)) (h4 : takesIn K (.ref f) = some false) (h5 : getL name es = some none) (h6 : copiedNames.contains name = false) :
    findObj K C (some (dictOf es k)) name = some (.bind gv (.ref f)) := by
  obtain ⟨cd, q1, q2⟩ := any_some h1
  have q3 : PySem.W.ownOf cd (some (dictOf es k)) name = some none := by
    unfold PySem.W.ownOf
    rw [if_pos q2]
    show lookIn name (dictOf es k) = _
    rw [lookIn_dict, h5]
  unfold findObj
  rw [q1, Option.bind_some, h2, Option.bind_some]
  simp only [h3, h4, Option.bind_some, q3, h6, Bool.false_and, Bool.false_eq_true, if_false]
theorem gone_new {W0 : Tree} {ps : List Int} {ops : List Tree} {i : Nat} {n : Int} (hnd : ps.Nodup) (hn : ps[i]? = some n) : lookT (goneT W0 (ps.take i) (ops.take i)) n = none := by
  refine lookT_none fun q => ?_
  have q := goneT_keys q
  have hd := hnd
  rw [← List.take_append_drop i ps, List.nodup_append] at hd
  refine hd.2.2 n q n ?_ rfl
  rw [List.mem_iff_getElem?]
  exact ⟨0, by simpa using hn⟩
theorem NodeAt.handedIn1 {P : Params} {g : GH} {v : Value} {t : Tree} (h : NodeAt P g v t) : handedIn v = true := by
  obtain ⟨x, rfl⟩ := h.ref; rfl
section
variable {prog : Program} {w : World} {A : Around} {E : Value → Shared → Prop} {gs : Array GenState} {dr : Drawn} {tk : Tok} {os : OsState}
variable {b : Heap} {e : Ent} {g : GH} {L : Addr} {h : Heap} {l : List (Str × Value)} {n n1 : List (Addr × Obj)} {env : Env} {sc : Scope} {cl : List (Str × Addr)}
set_option maxHeartbeats 8000000 in
theorem copying_ok {g0 : GH} {q cx fx : Addr} {tf : Tok} {W0 : Tree} (hq : g0 q = some (methodObj (.ref 715) (.ref cx))) (I : GInst g0 cx 718 [ent w.params "facts" tf (.ref fx)] 1) (hF : FactsAt prog w g0 fx W0) :
    ChangeOk prog w 10 30 g0 q (copyStep W0) PcC := by
  intro A E gs dr tk os b g h Q v k0 ks W C P hg hN hP k
  have hsl := sizes_len ks
  have hsz := hP.sz
  refine r_callbound P (hg _ _ hq) ?_
  refine r_code (d := 9) (u := 27) (binds := [("self", .ref cx), ("node", v)]) (l := [("self", .ref cx), ("node", v)]) W C P (by k_is) (by k_is) rfl (by rfl) (.cons rfl (.cons rfl .nil)) ?_
  intro A' env L h' tk' C' N S E'
  replace I := I.mono hg
  replace hF := hF.mono hg
  (walk_at "un"; iterate 11 (walk1; walk_at "un"))
  refine is_let_spec W (C'.mono (by first | decide | lia) (by first | decide | lia)) S.pre0 hN (by first | decide | lia) ?_
  intro g1 h1 tk1 F1
  have S1 := S.back0 F1
  have hs1 : ∀ a o, g a = some o → g1 a = some o := F1.gsub
  clear S F1
  replace I := I.mono hs1
  replace hF := hF.mono hs1
  replace hN := hN.mono hs1
  (walk_at "un"; iterate 1 (walk1; walk_at "un"))
  by_cases hL : isLetB k0 ks = true
  · refine ite_neg (by simp [hL]) ?_
    generalize hDs : copyStep W0 k0 ks = Ds at k
    walk_at "fz"
    obtain ⟨l0, ps, r, body, ops, hkc, hke, hr0, hlen, hp100⟩ := isLetB_inv hP.ar hP.wf hL
    rw [hkc, hke] at hP hN hDs
    clear hL hsl hsz hkc hke
    obtain ⟨hnd, hno⟩ : ps.Nodup ∧ ∀ n ∈ ps, n ∉ locsL ops := hP.ok rfl
    have hcl : copyStep W0 .call (.node (.lam l0 ps r) [body] :: ops) = if goneT W0 ps ops = [] then .node .call (.node (.lam l0 ps r) [body] :: ops) else if keptT (goneT W0 ps ops) ps ops = [] then rebT (subN (goneT W0 ps ops)) body else .node .call (.node (.lam l0 ((keptT (goneT W0 ps ops) ps ops).map (·.1)) (-1)) [rebT (subN (goneT W0 ps ops)) body] :: (keptT (goneT W0 ps ops) ps ops).map (·.2)) := by
      show copyLet W0 l0 ps r body ops = _
      unfold copyLet
      rw [if_neg (by first | decide | lia)]
    rw [hcl] at hDs
    have hN' := hN
    revert S1 hN'
    refine NodeAt.unlet hN ?_
    clear hN
    intro x lo x2 lp t1 t2 t3 t4 t5 t6 u1 u2 pvs k1 k3 v2 ws Ic hLo hops I2 hp hi hpz hbody S1 hN'
    walk_at "thaw"
    have hpl := Ints.length hi
    have hol := NodesAt.length hops
    (walk_at "un"; iterate 3 (walk1; walk_at "un"))
    refine r_newdict W S1 ?_
    clear S1; intro gd og h2 hgd hms hm S
    (walk_at "un"; iterate 2 (walk1; walk_at "un"))
    refine wpAny_For ?_
    (walk_at "un"; iterate 7 (walk1; walk_at "un"))
    refine r_attr W (by assumption) Ic rfl (by k_is) (by k_is) (by k_is) (by k_is) rfl ?_
    intro _
    (walk_at "un"; iterate 0 (walk1; walk_at "un"))
    refine r_attr W (by assumption) I2 rfl (by k_is) (by k_is) (by k_is) (by k_is) rfl ?_
    intro _
    (walk_at "un"; iterate 3 (walk1; walk_at "un"))
    refine r_attr W (by assumption) Ic rfl (by k_is) (by k_is) (by k_is) (by k_is) rfl ?_
    intro _
    (walk_at "un"; iterate 1 (walk1; walk_at "un"))
    (rename St _ _ _ _ _ _ _ => S)
    refine r_for_zipL (σ := List (Int × Value) × Obj) (x0 := ([], og)) (fun i y g' => GoneAt w.params g' y.1 (goneT W0 (ps.take i) (ops.take i)) ∧ IsM prog w y.2 y.1 ∧ y.1.length = (goneT W0 (ps.take i) (ops.take i)).length ∧ y.1.length ≤ i)
      (fun y => [("gone", .ref gd), ("self", .ref cx), ("node", .ref x)]) (fun y => [(gd, y.2)]) C' N (by rfl) (by rfl) (S.loc' _ (.cons rfl (.cons rfl (.cons rfl .nil)))) hp hLo (by first | decide | lia) ⟨fun n => .inl ⟨rfl, by simp [goneT, lookT]⟩, hm, by simp [goneT], by simp⟩ ?_ ?_
    · rintro i v1 v2 ⟨kv, o⟩ g' h' tk' e' E9 R_ hR_ hv1 hv2 ⟨hj1, hj2, hj3, hj4⟩ hs' S'
      dsimp only at hj1 hj2 hj3 hj4 S' ⊢
      have hi1 : i < pvs.length := (List.getElem?_eq_some_iff.mp hv1).1
      clear k hDs hcl S
      walk_at "fz"
      obtain ⟨n, hn⟩ : ∃ n, ps[i]? = some n := ⟨_, List.getElem?_eq_getElem (by first | decide | lia)⟩
      obtain ⟨tn, hv1'⟩ := Ints.get hi hn
      rw [hv1] at hv1'
      obtain rfl := Option.some.inj hv1'
      obtain ⟨⟨ko, kos⟩, hoo, hNo⟩ := NodesAt.get hops hv2
      have hX := goneT_next (W := W0) hn hoo
      obtain ⟨xo, hxo⟩ := hNo.ref
      subst hxo
      walk_at "thaw"
      have hnn : lookT (goneT W0 (ps.take i) (ops.take i)) n = none := gone_new hnd hn
      (walk_at "un"; iterate 5 (walk1; walk_at "un"))
      refine r_method W S' (I.mono hs') (by k_is) (by k_is) (by k_is) rfl ?_
      (walk_at "un"; iterate 7 (walk1; walk_at "un"))
      refine can_go_spec (W0 := W0) W (C'.mono (by first | decide | lia) (by first | decide | lia)) S'.pre0 (I.mono hs') (hF.mono hs') (hNo.mono hs') ?_
      intro g5 h5 tk5 F5
      have S5 := S'.back0 F5
      have hs5 : ∀ a o, g' a = some o → g5 a = some o := F5.gsub
      clear S' F5
      (walk_at "un"; iterate 1 (walk1; walk_at "un"))
      by_cases hg : goB W0 n ko = true
      · refine ite_pos hg ?_
        (walk_at "un"; iterate 5 (walk1; walk_at "un"))
        refine r_dset (n' := fun o' => [(gd, o')]) S5 (fun _ => .head) hj2 (by rw [sizeLine_eq]; lia) ?_
        intro o6 h6 tk6 hm6 S6
        clear S5
        (walk_at "un"; iterate 2 (walk1; walk_at "un"))
        (walk_at "un"); refine ⟨(stored kv n (.ref xo), o6), g5, _, _, ?_, S6.loc' _ (.cons rfl (.cons rfl (.cons rfl .nil))), rfl⟩
        have hvn : valueAt kv n = none := by
          rcases hj1 n with ⟨q, _⟩ | ⟨_, _, _, q, _⟩
          · exact q
          · rw [hnn] at q; cases q
        rw [hX, if_pos (show goB W0 n (Tree.node ko kos).kd = true from hg)]
        (walk_at "un"); refine ⟨(hj1.mono hs5).store hnn (hNo.mono fun a o q => hs5 a o (hs' a o q)), hm6, ?_, ?_⟩
        · rw [stored_new hvn, hj3]; simp
        · rw [stored_new hvn]; lia
      · refine ite_neg hg ?_
        (walk_at "un"; iterate 2 (walk1; walk_at "un"))
        (walk_at "un"); refine ⟨(kv, o), g5, _, _, ?_, S5.loc' _ (.cons rfl (.cons rfl (.cons rfl .nil))), rfl⟩
        rw [hX, if_neg (show ¬ goB W0 n (Tree.node ko kos).kd = true from hg)]
        (walk_at "un"); exact ⟨hj1.mono hs5, hj2, hj3, Nat.le_succ_of_le hj4⟩
    · rintro ⟨kv, o⟩ g' h' tk' ⟨hj1, hj2, hj3, hj4⟩ hs' S'
      dsimp only at hj1 hj2 hj3 hj4 S' ⊢
      obtain ⟨gA, SA, hsA, hdA⟩ := S'.freeze1 hgd
      clear S' S
      have hsC : ∀ a o, g1 a = some o → gA a = some o := fun a o q => hsA a o (hs' a o q)
      rw [show ps.take pvs.length = ps by rw [List.take_of_length_le]; lia, show ops.take pvs.length = ops by rw [List.take_of_length_le]; lia] at hj1 hj3
      replace hj1 := hj1.mono hsA
      (walk_at "un"; iterate 9 (walk1; walk_at "un"))
      refine r_dlen (SA.gk _ _ hdA) hj2 hms (by first | decide | lia) ?_
      intro t9 tk9
      (walk_at "un"; iterate 3 (walk1; walk_at "un"))
      by_cases hge : goneT W0 ps ops = []
      · refine ite_pos (by rw [hj3, hge]; simp) ?_
        rw [if_pos hge] at hDs
        (walk_at "un"; iterate 3 (walk1; walk_at "un"))
        (walk_at "un"); exact k _ gA _ _ (by rw [← hDs]; exact hN'.mono hsC) (SA.fin _ fun _ q => q)
      · have : 0 < (goneT W0 ps ops).length := List.length_pos_iff.mpr hge
        refine ite_neg (by rw [hj3]; simp; lia) ?_
        rw [if_neg hge] at hDs
        (walk_at "un"; iterate 18 (walk1; walk_at "un"))
        refine r_attr W SA (Ic.mono hsC) rfl (by k_is) (by k_is) (by k_is) (by k_is) rfl ?_
        intro _
        (walk_at "un"; iterate 0 (walk1; walk_at "un"))
        refine r_attr W SA (I2.mono hsC) rfl (by k_is) (by k_is) (by k_is) (by k_is) hbody.handedIn1 ?_
        intro _
        (walk_at "un"; iterate 9 (walk1; walk_at "un"))
        refine mk_putting W (C'.mono (by first | decide | lia) (by first | decide | lia)) SA.pre0 ?_
        intro px tpn gB hB tkB FB hsB IB
        have SB := SA.back0 FB
        clear SA FB
        (walk_at "un"; iterate 0 (walk1; walk_at "un"))
        refine r_bound (f := 673) W SB IB (by k_is) (found_meth (by k_is) (by k_is) (by k_is) (by k_is) rfl (by decide +kernel)) (by k_is) ?_
        intro bq hC2 gC tkC hsCC hbq SC
        clear SB
        (walk_at "un"; iterate 2 (walk1; walk_at "un"))
        have hsD : ∀ a o, gA a = some o → gC a = some o := fun a o q => hsCC a o (hsB a o q)
        have hsE : ∀ a o, g1 a = some o → gC a = some o := fun a o q => hsD a o (hsC a o q)
        have hbz : body.size ≤ 999 := by have := hP.sz; simp only [sizes, Tree.size] at this; lia
        refine rebuilt_spec (d := 2) (u := 6) W (C'.mono (by first | decide | lia) (by first | decide | lia)) SC.pre0 hbq (by k_is) (putting_ok hbq (IB.mono hsCC) (hsD _ _ hdA) hj2 hms (hj1.mono hsD)) (hbody.mono hsE) (allSub_triv _) (by first | decide | lia) ?_
        intro rD gD hD tkD hND FD
        have SD := SC.back0 FD
        have hsF : ∀ a o, gC a = some o → gD a = some o := FD.gsub
        clear SC FD
        (walk_at "un"; iterate 2 (walk1; walk_at "un"))
        refine without_spec W (C'.mono (by first | decide | lia) (by first | decide | lia)) SD.pre0 (hN'.mono fun a o q => hsF a o (hsE a o q)) hlen (hsF _ _ (hsD _ _ hdA)) hj2 hms (hj1.mono fun a o q => hsF a o (hsD a o q)) hND ?_
        intro rG gG hG tkG hNG FG
        have SG := SD.back0 FG
        (walk_at "un"; iterate 0 (walk1; walk_at "un"))
        (walk_at "un"); exact k _ gG _ _ (by rw [← hDs]; exact hNG) (SG.fin _ fun _ q => q)
  · refine ite_pos (by simp [hL]) ?_
    (walk_at "un"; iterate 3 (walk1; walk_at "un"))
    (walk_at "un"); refine k _ g1 _ _ ?_ (S1.fin _ fun _ q => q)
    rw [copyStep_same (Bool.eq_false_iff.mpr hL)]
    exact hN
end
noncomputable abbrev factsE (P : Params) (t1 t2 t3 t4 t5 t6 t7 t8 t9 t10 : Tok) (v1 v2 v3 v4 v5 v6 v7 v8 v9 v10 : Value) : List DictEntry := [ent P "read" t1 v1, ent P "set" t2 v2, ent P "called" t3 v3, ent P "bound" t4 v4, ent P "caught" t5 v5, ent P "parent" t6 v6, ent P "lets" t7 v7, ent P "inner" t8 v8, ent P "read_globals" t9 v9, ent P "set_globals" t10 v10]
theorem all10 {α : Type} {C : α → Prop} {p1 p2 p3 p4 p5 p6 p7 p8 p9 p10 : α} (c1 : C p1) (c2 : C p2) (c3 : C p3) (c4 : C p4) (c5 : C p5) (c6 : C p6) (c7 : C p7) (c8 : C p8) (c9 : C p9) (c10 : C p10) : ∀ p ∈ [p1, p2, p3, p4, p5, p6, p7, p8, p9, p10], C p := by
  intro p hp
  simp only [List.mem_cons, List.not_mem_nil, or_false] at hp
  rcases hp with rfl | rfl | rfl | rfl | rfl | rfl | rfl | rfl | rfl | rfl <;> assumption
section
variable {prog : Program} {w : World} {A : Around} {E : Value → Shared → Prop} {gs : Array GenState} {dr : Drawn} {tk : Tok} {os : OsState}
variable {b : Heap} {e : Ent} {g : GH} {L : Addr} {h : Heap} {l : List (Str × Value)} {n n1 : List (Addr × Obj)} {env : Env} {sc : Scope} {cl : List (Str × Addr)}
set_option maxHeartbeats 8000000 in
theorem mk_facts {Q : Value → Shared → Prop} (W : Wo (Mine.hd0.heap_1 w.params) b) (C : Cx A 2 4) (P : Pre b g h [])
    (k : ∀ x d1 d2 d3 d4 d5 d6 d7 d8 d9 d10 o1 o2 o3 o4 o5 o6 o7 o8 o9 o10 t1 t2 t3 t4 t5 t6 t7 t8 t9 t10 g' h' tk', Fin ⟨h, g, []⟩ g' h' [(d1, o1), (d2, o2), (d3, o3), (d4, o4), (d5, o5), (d6, o6), (d7, o7), (d8, o8), (d9, o9), (d10, o10)] → (∀ a o, g a = some o → g' a = some o) →
      GInst g' x 620 (factsE w.params t1 t2 t3 t4 t5 t6 t7 t8 t9 t10 (.ref d1) (.ref d2) (.ref d3) (.ref d4) (.ref d5) (.ref d6) (.ref d7) (.ref d8) (.ref d9) (.ref d10)) 10 →
      (∀ p ∈ [(d1, o1), (d2, o2), (d3, o3), (d4, o4), (d5, o5), (d6, o6), (d7, o7), (d8, o8), (d9, o9), (d10, o10)], h.get? p.1 = none ∧ g' p.1 = none ∧ IsM prog w p.2 [] ∧ (p.1 == sysModules) = false) → ([d1, d2, d3, d4, d5, d6, d7, d8, d9, d10]).Nodup → Q (.ref x) ⟨h', gs, dr, tk', os⟩) :
    wpAny (model prog w) A (call (.ref 620) []) Q E ⟨h, gs, dr, tk, os⟩ := by
  refine r_make (d := 1) (u := 3) W C P (by k_is) (by k_is) (by k_is) ?_
  intro A' x dx h1 C1 P1 hk hx hdx
  refine r_code (d := 0) (u := 0) (binds := [("self", .ref x)]) (l := [("self", .ref x)]) W C1 P1 (by k_is) (by k_is) rfl (by rfl) (.cons rfl .nil) ?_
  intro A' env L h' tk' C' N S E'
  (walk_at "un"; iterate 2 (walk1; walk_at "un"))
  refine r_newdict W S ?_
  clear S; intro d1 o1 hd1 he1 hs1 hm1 S
  (walk_at "un"; iterate 1 (walk1; walk_at "un"))
  (rename St _ _ _ _ _ _ _ => S)
  refine r_setattr (es' := fun t => [ent w.params "read" t (.ref d1)]) (n' := fun t => [(d1, o1), (x, instObj 620 dx), (dx, dictOf [ent w.params "read" t (.ref d1)] 1)]) (k' := 1) W S (.tail _ (.head _)) (fun t => (.tail (.tail .head))) (by k_is) (by k_is) (by k_is) (by k_is) rfl (fun t => rfl) (fun t => by simp) ?_
  clear S; intro hb1 t1 tb1 S
  try dsimp only
  (walk_at "un"; iterate 2 (walk1; walk_at "un"))
  refine r_newdict W S ?_
  clear S; intro d2 o2 hd2 he2 hs2 hm2 S
  (walk_at "un"; iterate 1 (walk1; walk_at "un"))
  (rename St _ _ _ _ _ _ _ => S)
  refine r_setattr (es' := fun t => [ent w.params "read" t1 (.ref d1), ent w.params "set" t (.ref d2)]) (n' := fun t => [(d2, o2), (d1, o1), (x, instObj 620 dx), (dx, dictOf [ent w.params "read" t1 (.ref d1), ent w.params "set" t (.ref d2)] 2)]) (k' := 2) W S (.tail _ (.tail _ (.head _))) (fun t => (.tail (.tail (.tail .head)))) (by k_is) (by k_is) (by k_is) (by k_is) rfl (fun t => rfl) (fun t => by simp) ?_
  clear S; intro hb2 t2 tb2 S
  try dsimp only
  (walk_at "un"; iterate 2 (walk1; walk_at "un"))
  refine r_newdict W S ?_
  clear S; intro d3 o3 hd3 he3 hs3 hm3 S
  (walk_at "un"; iterate 1 (walk1; walk_at "un"))
  (rename St _ _ _ _ _ _ _ => S)
  refine r_setattr (es' := fun t => [ent w.params "read" t1 (.ref d1), ent w.params "set" t2 (.ref d2), ent w.params "called" t (.ref d3)]) (n' := fun t => [(d3, o3), (d2, o2), (d1, o1), (x, instObj 620 dx), (dx, dictOf [ent w.params "read" t1 (.ref d1), ent w.params "set" t2 (.ref d2), ent w.params "called" t (.ref d3)] 3)]) (k' := 3) W S (.tail _ (.tail _ (.tail _ (.head _)))) (fun t => (.tail (.tail (.tail (.tail .head))))) (by k_is) (by k_is) (by k_is) (by k_is) rfl (fun t => rfl) (fun t => by simp) ?_
  clear S; intro hb3 t3 tb3 S
  try dsimp only
  (walk_at "un"; iterate 2 (walk1; walk_at "un"))
  refine r_newdict W S ?_
  clear S; intro d4 o4 hd4 he4 hs4 hm4 S
  (walk_at "un"; iterate 1 (walk1; walk_at "un"))
  (rename St _ _ _ _ _ _ _ => S)
  refine r_setattr (es' := fun t => [ent w.params "read" t1 (.ref d1), ent w.params "set" t2 (.ref d2), ent w.params "called" t3 (.ref d3), ent w.params "bound" t (.ref d4)]) (n' := fun t => [(d4, o4), (d3, o3), (d2, o2), (d1, o1), (x, instObj 620 dx), (dx, dictOf [ent w.params "read" t1 (.ref d1), ent w.params "set" t2 (.ref d2), ent w.params "called" t3 (.ref d3), ent w.params "bound" t (.ref d4)] 4)]) (k' := 4) W S (.tail _ (.tail _ (.tail _ (.tail _ (.head _))))) (fun t => (.tail (.tail (.tail (.tail (.tail .head)))))) (by k_is) (by k_is) (by k_is) (by k_is) rfl (fun t => rfl) (fun t => by simp) ?_
  clear S; intro hb4 t4 tb4 S
  try dsimp only
  (walk_at "un"; iterate 2 (walk1; walk_at "un"))
  refine r_newdict W S ?_
  clear S; intro d5 o5 hd5 he5 hs5 hm5 S
  (walk_at "un"; iterate 1 (walk1; walk_at "un"))
  (rename St _ _ _ _ _ _ _ => S)
  refine r_setattr (es' := fun t => [ent w.params "read" t1 (.ref d1), ent w.params "set" t2 (.ref d2), ent w.params "called" t3 (.ref d3), ent w.params "bound" t4 (.ref d4), ent w.params "caught" t (.ref d5)]) (n' := fun t => [(d5, o5), (d4, o4), (d3, o3), (d2, o2), (d1, o1), (x, instObj 620 dx), (dx, dictOf [ent w.params "read" t1 (.ref d1), ent w.params "set" t2 (.ref d2), ent w.params "called" t3 (.ref d3), ent w.params "bound" t4 (.ref d4), ent w.params "caught" t (.ref d5)] 5)]) (k' := 5) W S (.tail _ (.tail _ (.tail _ (.tail _ (.tail _ (.head _)))))) (fun t => (.tail (.tail (.tail (.tail (.tail (.tail .head))))))) (by k_is) (by k_is) (by k_is) (by k_is) rfl (fun t => rfl) (fun t => by simp) ?_
  clear S; intro hb5 t5 tb5 S
  try dsimp only
  (walk_at "un"; iterate 2 (walk1; walk_at "un"))
  refine r_newdict W S ?_
  clear S; intro d6 o6 hd6 he6 hs6 hm6 S
  (walk_at "un"; iterate 1 (walk1; walk_at "un"))
  (rename St _ _ _ _ _ _ _ => S)
  refine r_setattr (es' := fun t => [ent w.params "read" t1 (.ref d1), ent w.params "set" t2 (.ref d2), ent w.params "called" t3 (.ref d3), ent w.params "bound" t4 (.ref d4), ent w.params "caught" t5 (.ref d5), ent w.params "parent" t (.ref d6)]) (n' := fun t => [(d6, o6), (d5, o5), (d4, o4), (d3, o3), (d2, o2), (d1, o1), (x, instObj 620 dx), (dx, dictOf [ent w.params "read" t1 (.ref d1), ent w.params "set" t2 (.ref d2), ent w.params "called" t3 (.ref d3), ent w.params "bound" t4 (.ref d4), ent w.params "caught" t5 (.ref d5), ent w.params "parent" t (.ref d6)] 6)]) (k' := 6) W S (.tail _ (.tail _ (.tail _ (.tail _ (.tail _ (.tail _ (.head _))))))) (fun t => (.tail (.tail (.tail (.tail (.tail (.tail (.tail .head)))))))) (by k_is) (by k_is) (by k_is) (by k_is) rfl (fun t => rfl) (fun t => by simp) ?_
  clear S; intro hb6 t6 tb6 S
  try dsimp only
  (walk_at "un"; iterate 2 (walk1; walk_at "un"))
  refine r_newdict W S ?_
  clear S; intro d7 o7 hd7 he7 hs7 hm7 S
  (walk_at "un"; iterate 1 (walk1; walk_at "un"))
  (rename St _ _ _ _ _ _ _ => S)
  refine r_setattr (es' := fun t => [ent w.params "read" t1 (.ref d1), ent w.params "set" t2 (.ref d2), ent w.params "called" t3 (.ref d3), ent w.params "bound" t4 (.ref d4), ent w.params "caught" t5 (.ref d5), ent w.params "parent" t6 (.ref d6), ent w.params "lets" t (.ref d7)]) (n' := fun t => [(d7, o7), (d6, o6), (d5, o5), (d4, o4), (d3, o3), (d2, o2), (d1, o1), (x, instObj 620 dx), (dx, dictOf [ent w.params "read" t1 (.ref d1), ent w.params "set" t2 (.ref d2), ent w.params "called" t3 (.ref d3), ent w.params "bound" t4 (.ref d4), ent w.params "caught" t5 (.ref d5), ent w.params "parent" t6 (.ref d6), ent w.params "lets" t (.ref d7)] 7)]) (k' := 7) W S (.tail _ (.tail _ (.tail _ (.tail _ (.tail _ (.tail _ (.tail _ (.head _)))))))) (fun t => (.tail (.tail (.tail (.tail (.tail (.tail (.tail (.tail .head))))))))) (by k_is) (by k_is) (by k_is) (by k_is) rfl (fun t => rfl) (fun t => by simp) ?_
  clear S; intro hb7 t7 tb7 S
  try dsimp only
  (walk_at "un"; iterate 2 (walk1; walk_at "un"))
  refine r_newdict W S ?_
  clear S; intro d8 o8 hd8 he8 hs8 hm8 S
  (walk_at "un"; iterate 1 (walk1; walk_at "un"))
  (rename St _ _ _ _ _ _ _ => S)
  refine r_setattr (es' := fun t => [ent w.params "read" t1 (.ref d1), ent w.params "set" t2 (.ref d2), ent w.params "called" t3 (.ref d3), ent w.params "bound" t4 (.ref d4), ent w.params "caught" t5 (.ref d5), ent w.params "parent" t6 (.ref d6), ent w.params "lets" t7 (.ref d7), ent w.params "inner" t (.ref d8)]) (n' := fun t => [(d8, o8), (d7, o7), (d6, o6), (d5, o5), (d4, o4), (d3, o3), (d2, o2), (d1, o1), (x, instObj 620 dx), (dx, dictOf [ent w.params "read" t1 (.ref d1), ent w.params "set" t2 (.ref d2), ent w.params "called" t3 (.ref d3), ent w.params "bound" t4 (.ref d4), ent w.params "caught" t5 (.ref d5), ent w.params "parent" t6 (.ref d6), ent w.params "lets" t7 (.ref d7), ent w.params "inner" t (.ref d8)] 8)]) (k' := 8) W S (.tail _ (.tail _ (.tail _ (.tail _ (.tail _ (.tail _ (.tail _ (.tail _ (.head _))))))))) (fun t => (.tail (.tail (.tail (.tail (.tail (.tail (.tail (.tail (.tail .head)))))))))) (by k_is) (by k_is) (by k_is) (by k_is) rfl (fun t => rfl) (fun t => by simp) ?_
  clear S; intro hb8 t8 tb8 S
  try dsimp only
  (walk_at "un"; iterate 2 (walk1; walk_at "un"))
  refine r_newdict W S ?_
  clear S; intro d9 o9 hd9 he9 hs9 hm9 S
  (walk_at "un"; iterate 1 (walk1; walk_at "un"))
  (rename St _ _ _ _ _ _ _ => S)
  refine r_setattr (es' := fun t => [ent w.params "read" t1 (.ref d1), ent w.params "set" t2 (.ref d2), ent w.params "called" t3 (.ref d3), ent w.params "bound" t4 (.ref d4), ent w.params "caught" t5 (.ref d5), ent w.params "parent" t6 (.ref d6), ent w.params "lets" t7 (.ref d7), ent w.params "inner" t8 (.ref d8), ent w.params "read_globals" t (.ref d9)]) (n' := fun t => [(d9, o9), (d8, o8), (d7, o7), (d6, o6), (d5, o5), (d4, o4), (d3, o3), (d2, o2), (d1, o1), (x, instObj 620 dx), (dx, dictOf [ent w.params "read" t1 (.ref d1), ent w.params "set" t2 (.ref d2), ent w.params "called" t3 (.ref d3), ent w.params "bound" t4 (.ref d4), ent w.params "caught" t5 (.ref d5), ent w.params "parent" t6 (.ref d6), ent w.params "lets" t7 (.ref d7), ent w.params "inner" t8 (.ref d8), ent w.params "read_globals" t (.ref d9)] 9)]) (k' := 9) W S (.tail _ (.tail _ (.tail _ (.tail _ (.tail _ (.tail _ (.tail _ (.tail _ (.tail _ (.head _)))))))))) (fun t => (.tail (.tail (.tail (.tail (.tail (.tail (.tail (.tail (.tail (.tail .head))))))))))) (by k_is) (by k_is) (by k_is) (by k_is) rfl (fun t => rfl) (fun t => by simp) ?_
  clear S; intro hb9 t9 tb9 S
  try dsimp only
  (walk_at "un"; iterate 2 (walk1; walk_at "un"))
  refine r_newdict W S ?_
  clear S; intro d10 o10 hd10 he10 hs10 hm10 S
  (walk_at "un"; iterate 1 (walk1; walk_at "un"))
  (rename St _ _ _ _ _ _ _ => S)
  refine r_setattr (es' := fun t => [ent w.params "read" t1 (.ref d1), ent w.params "set" t2 (.ref d2), ent w.params "called" t3 (.ref d3), ent w.params "bound" t4 (.ref d4), ent w.params "caught" t5 (.ref d5), ent w.params "parent" t6 (.ref d6), ent w.params "lets" t7 (.ref d7), ent w.params "inner" t8 (.ref d8), ent w.params "read_globals" t9 (.ref d9), ent w.params "set_globals" t (.ref d10)]) (n' := fun t => [(d10, o10), (d9, o9), (d8, o8), (d7, o7), (d6, o6), (d5, o5), (d4, o4), (d3, o3), (d2, o2), (d1, o1), (x, instObj 620 dx), (dx, dictOf [ent w.params "read" t1 (.ref d1), ent w.params "set" t2 (.ref d2), ent w.params "called" t3 (.ref d3), ent w.params "bound" t4 (.ref d4), ent w.params "caught" t5 (.ref d5), ent w.params "parent" t6 (.ref d6), ent w.params "lets" t7 (.ref d7), ent w.params "inner" t8 (.ref d8), ent w.params "read_globals" t9 (.ref d9), ent w.params "set_globals" t (.ref d10)] 10)]) (k' := 10) W S (.tail _ (.tail _ (.tail _ (.tail _ (.tail _ (.tail _ (.tail _ (.tail _ (.tail _ (.tail _ (.head _))))))))))) (fun t => (.tail (.tail (.tail (.tail (.tail (.tail (.tail (.tail (.tail (.tail (.tail .head)))))))))))) (by k_is) (by k_is) (by k_is) (by k_is) rfl (fun t => rfl) (fun t => by simp) ?_
  clear S; intro hb10 t10 tb10 S
  try dsimp only
  (walk_at "un"; iterate 1 (walk1; walk_at "un"))
  have hmem : ∀ p ∈ [(x, instObj 620 dx), (dx, dictOf (factsE w.params t1 t2 t3 t4 t5 t6 t7 t8 t9 t10 (.ref d1) (.ref d2) (.ref d3) (.ref d4) (.ref d5) (.ref d6) (.ref d7) (.ref d8) (.ref d9) (.ref d10)) 10)] ++ [(d1, o1), (d2, o2), (d3, o3), (d4, o4), (d5, o5), (d6, o6), (d7, o7), (d8, o8), (d9, o9), (d10, o10)],
      p ∈ [(d10, o10), (d9, o9), (d8, o8), (d7, o7), (d6, o6), (d5, o5), (d4, o4), (d3, o3), (d2, o2), (d1, o1), (x, instObj 620 dx), (dx, dictOf (factsE w.params t1 t2 t3 t4 t5 t6 t7 t8 t9 t10 (.ref d1) (.ref d2) (.ref d3) (.ref d4) (.ref d5) (.ref d6) (.ref d7) (.ref d8) (.ref d9) (.ref d10)) 10)] := by
    exact fun p hp => (List.perm_append_comm.trans ((List.reverse_perm [(d1, o1), (d2, o2), (d3, o3), (d4, o4), (d5, o5), (d6, o6), (d7, o7), (d8, o8), (d9, o9), (d10, o10)]).symm.append_right _)).mem_iff.mp hp
  have hm2 : ∀ p ∈ [(d1, o1), (d2, o2), (d3, o3), (d4, o4), (d5, o5), (d6, o6), (d7, o7), (d8, o8), (d9, o9), (d10, o10)], h1.get? p.1 = none ∧ g p.1 = none := by
    intro p hp
    (walk_at "un"); refine ⟨?_, (S.own p (hmem p (List.mem_append_right _ hp))).2.1⟩
    exact all10 (C := fun p => h1.get? p.1 = none) (by assumption) (by assumption) (by assumption) (by assumption) (by assumption) (by assumption) (by assumption) (by assumption) (by assumption) (by assumption) p hp
  obtain ⟨F1, hs, hx2, hm3⟩ := Fin.fixedM (h := h) (S.fin _ hmem) rfl P1 (List.forall_mem_cons.mpr ⟨hx, List.forall_mem_singleton.mpr hdx⟩) hk hm2
  (walk_at "un"); refine ⟨rfl, k x d1 d2 d3 d4 d5 d6 d7 d8 d9 d10 o1 o2 o3 o4 o5 o6 o7 o8 o9 o10 t1 t2 t3 t4 t5 t6 t7 t8 t9 t10 _ _ _ F1 hs ⟨dx, hx2 _ (.head _), hx2 _ (.tail _ (.head _))⟩ (fun p hp => ?_) ?_⟩
  · (walk_at "un"); refine ⟨(hm3 p hp).1, (hm3 p hp).2, ?_⟩
    exact all10 (C := fun p => IsM prog w p.2 [] ∧ (p.1 == sysModules) = false) ⟨hm1, hs1⟩ ⟨by assumption, hs2⟩ ⟨by assumption, hs3⟩ ⟨hm4, hs4⟩ ⟨hm5, hs5⟩ ⟨hm6, hs6⟩ ⟨hm7, hs7⟩ ⟨hm8, hs8⟩ ⟨hm9, hs9⟩ ⟨hm10, hs10⟩ p hp
  · have nd := S.nd
    have nd2 : ([d10, d9, d8, d7, d6, d5, d4, d3, d2, d1] : List Addr).Nodup := List.Nodup.sublist (List.sublist_append_left [d10, d9, d8, d7, d6, d5, d4, d3, d2, d1] [x, dx]) nd
    exact (List.reverse_perm [d1, d2, d3, d4, d5, d6, d7, d8, d9, d10]).nodup_iff.mp nd2
end
theorem Counts.store {kv : List (Int × Value)} {c : Int → Int} (h : Counts kv c) (n : Int) (t : Tok) : Counts (stored kv n (.int (c n + 1) t)) (fun x => if x = n then c x + 1 else c x) := fun x => by
  rw [valueAt_stored]
  try dsimp only
  by_cases q : x = n
  · subst q; rw [if_pos rfl, if_pos rfl]; exact .inr ⟨t, rfl⟩
  · rw [if_neg q, if_neg q]; exact h x
/-- the way up from a label to a number's own -/
noncomputable def Way (kv6 kv8 : List (Int × Value)) (z : Int) : Nat → Int → Prop
  | 0, x => x = z
  | k + 1, x => x = z ∨ ∃ p t a, valueAt kv6 x = some (.int p t) ∧ valueAt kv8 x = some (.ref a) ∧ Way kv6 kv8 z k p
/-- the facts while they are gathered -/
structure FS where
  k3 : List (Int × Value)
  k4 : List (Int × Value)
  k5 : List (Int × Value)
  k6 : List (Int × Value)
  k7 : List (Int × Value)
  k8 : List (Int × Value)
  o3 : Obj
  o4 : Obj
  o5 : Obj
  o6 : Obj
  o7 : Obj
  o8 : Obj
  ins : List (Addr × Obj)
structure FSok (prog : Program) (w : World) (y : FS) (B P : Int → Int) (M : Nat) : Prop where
  m3 : IsM prog w y.o3 y.k3
  m4 : IsM prog w y.o4 y.k4
  m5 : IsM prog w y.o5 y.k5
  m6 : IsM prog w y.o6 y.k6
  m7 : IsM prog w y.o7 y.k7
  m8 : IsM prog w y.o8 y.k8
  c3 : ∃ c, Counts y.k3 c
  l3 : y.k3.length ≤ M
  l4 : y.k4.length ≤ M
  l5 : y.k5.length ≤ M
  l6 : y.k6.length ≤ M
  l7 : y.k7.length ≤ M
  l8 : y.k8.length ≤ M
  b4 : ∀ n v, valueAt y.k4 n = some v → ∃ t, v = .int (B n) t
  p6 : ∀ n v, valueAt y.k6 n = some v → ∃ t, v = .int (P n) t
  i8 : ∀ n v, valueAt y.k8 n = some v → ∃ a o, v = .ref a ∧ (a, o) ∈ y.ins
  ins : ∀ p ∈ y.ins, ∃ kv, IsM prog w p.2 kv ∧ kv.length ≤ M ∧ (p.1 == sysModules) = false
theorem FSok.up {prog : Program} {w : World} {y : FS} {B P : Int → Int} {M M' : Nat} (h : FSok prog w y B P M) (hM : M ≤ M') : FSok prog w y B P M' :=
  { h with l3 := Nat.le_trans h.l3 hM, l4 := Nat.le_trans h.l4 hM, l5 := Nat.le_trans h.l5 hM, l6 := Nat.le_trans h.l6 hM, l7 := Nat.le_trans h.l7 hM, l8 := Nat.le_trans h.l8 hM, ins := fun p hp => let ⟨kv, a, b, c⟩ := h.ins p hp; ⟨kv, a, Nat.le_trans b hM, c⟩ }
theorem up_of_mem {a : Addr} {o : Obj} : ∀ {n : List (Addr × Obj)}, (a, o) ∈ n → ∃ f : Obj → List (Addr × Obj), (∀ o', Up a o o' n (f o')) ∧ (∀ o', (f o').map (·.1) = n.map (·.1)) ∧ ∀ o' p, p ∈ f o' → p = (a, o') ∨ p ∈ n
  | q :: n, h => by
    rcases List.mem_cons.mp h with h | h
    · subst h
      (walk_at "un"); exact ⟨fun o' => (a, o') :: n, fun _ => .head, fun _ => rfl, fun o' p hp => by
        rcases List.mem_cons.mp hp with rfl | hp
        · exact .inl rfl
        · exact .inr (.tail _ hp)⟩
    · obtain ⟨f, h1, h2, h3⟩ := up_of_mem h
      (walk_at "un"); exact ⟨fun o' => q :: f o', fun o' => .tail (h1 o'), fun o' => by rw [List.map_cons, h2, List.map_cons], fun o' p hp => by
        rcases List.mem_cons.mp hp with rfl | hp
        · exact .inr (.head _)
        · rcases h3 o' p hp with r | r
          · exact .inl r
          · exact .inr (.tail _ r)⟩
section
variable {prog : Program} {w : World} {A : Around} {E : Value → Shared → Prop} {gs : Array GenState} {dr : Drawn} {tk : Tok} {os : OsState}
variable {b : Heap} {e : Ent} {g : GH} {L : Addr} {h : Heap} {l : List (Str × Value)} {n n1 : List (Addr × Obj)} {env : Env} {sc : Scope} {cl : List (Str × Addr)}
set_option maxHeartbeats 2000000 in
theorem count_in_spec {Q : Value → Shared → Prop} {d : Addr} {o : Obj} {kv : List (Int × Value)} {c : Int → Int} {i : Int} {ti : Tok} (W : Wo (Mine.hd0.heap_1 w.params) b) (C : Cx A 1 4) (P : Pre b g h [(d, o)]) (hm : IsM prog w o kv) (hc : Counts kv c) (hs : (d == sysModules) = false) (hz : kv.length ≤ sizeLine)
    (k : ∀ o' kv' g' h' tk', IsM prog w o' kv' → Counts kv' (fun x => if x = i then c x + 1 else c x) → kv'.length ≤ kv.length + 1 → Fin ⟨h, g, [d]⟩ g' h' [(d, o')] → Q .none ⟨h', gs, dr, tk', os⟩) :
    wpAny (model prog w) A (call (.ref 631) [.ref d, .int i ti]) Q E ⟨h, gs, dr, tk, os⟩ := by
  refine r_call (d := 0) (u := 1) (binds := [("counts", .ref d), ("key", .int i ti)]) (l := [("counts", .ref d), ("key", .int i ti)]) W C P (by k_is) (by k_is) rfl (by rfl) (.cons rfl (.cons rfl .nil)) ?_
  intro A' env L h' tk' C' N S E'
  (walk_at "un"; iterate 5 (walk1; walk_at "un"))
  refine r_dmeth (S.own _ (.head _)).1 hm PySem.F.slot_dict_get PySem.F.type_dict_get ?_
  (walk_at "un"; iterate 6 (walk1; walk_at "un"))
  refine r_dget2 (S.own _ (.head _)).1 hm hs ?_
  intro tk3
  rw [(hc.getD i _).choose_spec]
  (walk_at "un"; iterate 4 (walk1; walk_at "un"))
  refine r_dset (n' := fun o' => [(d, o')]) S (fun _ => .head) hm hz ?_
  intro o' h2 tk2 hm2 S2
  (walk_at "un"; iterate 1 (walk1; walk_at "un"))
  (walk_at "un"); exact k o' _ g _ _ hm2 (hc.store i _) (stored_length _ _ _) (S2.fin _ fun _ q => q)
set_option maxHeartbeats 8000000 in
theorem meet_spec {Q : Value → Shared → Prop} {fx d4 d5 d6 d7 d8 : Addr} {t1 t2 t3 t4 t5 t6 t7 t8 t9 t10 : Tok} {v1 v2 v3 v9 v10 : Value} {y : FS} {B Pa : Int → Int} {M K : Nat} {i z : Int} {ti tz tl : Tok} {lab : Int} (W : Wo (Mine.hd0.heap_1 w.params) b) (C : Cx A 1 4)
    (P : Pre b g h ((d4, y.o4) :: (d5, y.o5) :: (d6, y.o6) :: (d7, y.o7) :: (d8, y.o8) :: y.ins)) (I : GInst g fx 620 (factsE w.params t1 t2 t3 t4 t5 t6 t7 t8 t9 t10 v1 v2 v3 (.ref d4) (.ref d5) (.ref d6) (.ref d7) (.ref d8) v9 v10) 10) (hy : FSok prog w y B Pa M) (hs7 : (d7 == sysModules) = false) (hM : M + K ≤ 1000000)
    (hz : valueAt y.k4 i = some (.int z tz)) (hw : Way y.k6 y.k8 z K lab)
    (k : ∀ o5' k5' ins' g' h' tk', FSok prog w { y with o5 := o5', k5 := k5', ins := ins' } B Pa (M + K) → ins'.map (·.1) = y.ins.map (·.1) → Fin ⟨h, g, ((d4, y.o4) :: (d5, y.o5) :: (d6, y.o6) :: (d7, y.o7) :: (d8, y.o8) :: y.ins).map (·.1)⟩ g' h' ((d4, y.o4) :: (d5, o5') :: (d6, y.o6) :: (d7, y.o7) :: (d8, y.o8) :: ins') → Q .none ⟨h', gs, dr, tk', os⟩) :
    wpAny (model prog w) A (call (.ref 617) [.ref fx, .int i ti, .int lab tl]) Q E ⟨h, gs, dr, tk, os⟩ := by
  refine r_call (d := 0) (u := 1) (binds := [("self", .ref fx), ("number", .int i ti), ("label", .int lab tl)]) (l := [("self", .ref fx), ("number", .int i ti), ("label", .int lab tl)]) W C P (by k_is) (by k_is) rfl (by rfl) (.cons rfl (.cons rfl (.cons rfl .nil))) ?_
  intro A' env L h' tk' C' N S E'
  (walk_at "un"; iterate 5 (walk1; walk_at "un"))
  (rename St _ _ _ _ _ _ _ => S)
  refine r_while (σ := Int × Tok × Obj × List (Int × Value) × List (Addr × Obj)) (x0 := (lab, tl, y.o5, y.k5, y.ins)) (k0 := K)
    (fun kk st g' => kk ≤ K ∧ (∀ a o, g a = some o → g' a = some o) ∧ Way y.k6 y.k8 z kk st.1 ∧ FSok prog w { y with o5 := st.2.2.1, k5 := st.2.2.2.1, ins := st.2.2.2.2 } B Pa (M + (K - kk)) ∧ st.2.2.2.2.map (·.1) = y.ins.map (·.1))
    (fun st => [("at", .int st.1 st.2.1), ("self", .ref fx), ("number", .int i ti)]) (fun st => (d4, y.o4) :: (d5, st.2.2.1) :: (d6, y.o6) :: (d7, y.o7) :: (d8, y.o8) :: st.2.2.2.2) (S.loc' _ (.cons rfl (.cons rfl (.cons rfl .nil)))) ⟨Nat.le_refl _, fun _ _ q => q, hw, by simpa using hy, rfl⟩ ?_
  clear S
  rintro kk ⟨x, tx, o5', k5', ins'⟩ g1 h1 tk1 E1 R_ hR_ ⟨hkk, hs1, hwk, hyk, hik⟩ S
  dsimp only at hwk hyk hik S ⊢
  have I1 := I.mono hs1
  (walk_at "un"; iterate 5 (walk1; walk_at "un"))
  refine r_attr W S I1 rfl (by k_is) (by k_is) (by k_is) (by k_is) rfl ?_
  intro _
  (walk_at "un"; iterate 1 (walk1; walk_at "un"))
  refine r_ditem (S.own _ (.head _)).1 hyk.m4 hz ?_
  intro tk2
  (walk_at "un"; iterate 2 (walk1; walk_at "un"))
  by_cases hx : x = z
  · refine ite_neg (by simp [hx]) ?_
    (walk_at "un"; iterate 2 (walk1; walk_at "un"))
    (walk_at "un"); refine k o5' k5' ins' g1 _ _ (hyk.up (by first | decide | lia)) hik (S.fin _ fun _ q => q)
  · refine ite_pos (by simp [hx]) ?_
    (walk_at "un"; iterate 6 (walk1; walk_at "un"))
    cases kk with
    | zero => exact absurd hwk hx
    | succ kk =>
    rcases hwk with hwk | ⟨p, tp, a, hp6, ha8, hwk⟩
    · exact absurd hwk hx
    obtain ⟨a', oa, e8, hin⟩ := hyk.i8 _ _ ha8
    cases e8
    obtain ⟨kva, hma, hla, hsa⟩ := hyk.ins _ hin
    obtain ⟨fa, ua, ka, sa⟩ := up_of_mem (n := ins') hin
    refine r_attr W S I1 rfl (by k_is) (by k_is) (by k_is) (by k_is) rfl ?_
    intro _
    (walk_at "un"; iterate 1 (walk1; walk_at "un"))
    refine r_ditem (S.own _ (.tail _ (.tail _ (.tail _ (.tail _ (.head _)))))).1 hyk.m8 ha8 ?_
    intro tk3
    (walk_at "un"; iterate 1 (walk1; walk_at "un"))
    refine r_dset (n' := fun o' => (d4, y.o4) :: (d5, o5') :: (d6, y.o6) :: (d7, y.o7) :: (d8, y.o8) :: fa o') S (fun o' => .tail (.tail (.tail (.tail (.tail (ua o')))))) hma (by rw [sizeLine_eq]; lia) ?_
    intro oa' h4 tk4 hma' S4
    clear S
    have hyk2 : FSok prog w { y with o5 := o5', k5 := k5', ins := fa oa' } B Pa (M + (K - kk)) := by
      have q := hyk.up (M' := M + (K - kk)) (by first | decide | lia)
      refine { q with i8 := fun n v hv => ?_, ins := fun pp hpp => ?_ }
      · obtain ⟨a2, o2, e2, m2⟩ := q.i8 n v hv
        have : a2 ∈ (fa oa').map (·.1) := by rw [ka]; exact List.mem_map_of_mem (f := (·.1)) m2
        obtain ⟨pp, hpp, e3⟩ := List.mem_map.mp this
        (walk_at "un"); exact ⟨a2, pp.2, e2, by rw [← e3]; exact hpp⟩
      · rcases sa oa' pp hpp with rfl | hpp
        · (walk_at "un"); exact ⟨_, hma', Nat.le_trans (stored_length _ _ _) (by first | decide | lia), hsa⟩
        · exact q.ins pp hpp
    have hik2 : (fa oa').map (·.1) = y.ins.map (·.1) := by rw [ka]; exact hik
    generalize fa oa' = ins2 at *
    have hl5 : k5'.length ≤ M + (K - (kk + 1)) := hyk.l5
    have hm5 : IsM prog w o5' k5' := hyk.m5
    (walk_at "un"); refine execs_cps (H := fun Kx => ∀ hh tt o5'' k5'', FSok prog w { y with o5 := o5'', k5 := k5'', ins := ins2 } B Pa (M + (K - kk)) → St b ⟨h, g, ((d4, y.o4) :: (d5, y.o5) :: (d6, y.o6) :: (d7, y.o7) :: (d8, y.o8) :: y.ins).map (·.1)⟩ g1 L hh [("at", .int x tx), ("self", .ref fx), ("number", .int i ti)] ((d4, y.o4) :: (d5, o5'') :: (d6, y.o6) :: (d7, y.o7) :: (d8, y.o8) :: ins2) → Kx ⟨hh, gs, dr, tt, os⟩) ?_ ?_
    · intro K_ hK_; (walk_at "un"; iterate 5 (walk1; walk_at "un"))
      refine r_attr W S4 I1 rfl (by k_is) (by k_is) (by k_is) (by k_is) rfl ?_
      intro _
      (walk_at "un"; iterate 0 (walk1; walk_at "un"))
      refine r_dnotin (S4.own _ (.tail _ (.tail _ (.tail _ (.head _))))).1 hyk.m7 hs7 ?_
      intro tk5
      (walk_at "un"; iterate 1 (walk1; walk_at "un"))
      by_cases hin7 : (valueAt y.k7 x).isSome = true
      · refine ite_neg (by simp [hin7]) ?_
        (walk_at "un"; iterate 1 (walk1; walk_at "un"))
        (walk_at "un"); exact hK_ _ _ o5' k5' hyk2 S4
      · refine ite_pos (by simp [hin7]) ?_
        (walk_at "un"; iterate 5 (walk1; walk_at "un"))
        refine r_attr W S4 I1 rfl (by k_is) (by k_is) (by k_is) (by k_is) rfl ?_
        intro _
        (walk_at "un"; iterate 1 (walk1; walk_at "un"))
        refine r_dset (n' := fun o' => (d4, y.o4) :: (d5, o') :: (d6, y.o6) :: (d7, y.o7) :: (d8, y.o8) :: ins2) S4 (fun o' => .tail .head) hm5 (by rw [sizeLine_eq]; lia) ?_
        intro o5'' h6 tk6 hm6 S6
        (walk_at "un"; iterate 1 (walk1; walk_at "un"))
        (walk_at "un"); refine hK_ _ _ o5'' _ { hyk2 with m5 := hm6, l5 := ?_ } S6
        exact Nat.le_trans (stored_length _ _ _) (by first | decide | lia)
    intro h7 tk7 o5'' k5'' hyk3 S7
    clear S4
    (walk_at "un"; iterate 5 (walk1; walk_at "un"))
    refine r_attr W S7 I1 rfl (by k_is) (by k_is) (by k_is) (by k_is) rfl ?_
    intro _
    (walk_at "un"; iterate 1 (walk1; walk_at "un"))
    refine r_ditem (S7.own _ (.tail _ (.tail _ (.head _)))).1 hyk.m6 hp6 ?_
    intro tk8
    (walk_at "un"; iterate 2 (walk1; walk_at "un"))
    (rename St _ _ _ _ _ _ _ => S)
    (walk_at "un"); exact ⟨kk, (p, tp, o5'', k5'', ins2), g1, _, _, Nat.lt_succ_self _, ⟨by lia, hs1, hwk, hyk3, hik2⟩, S.loc' _ (.cons rfl (.cons rfl (.cons rfl .nil))), rfl⟩
end
section
variable {prog : Program} {w : World} {A : Around} {E : Value → Shared → Prop} {gs : Array GenState} {dr : Drawn} {tk : Tok} {os : OsState}
variable {b : Heap} {e : Ent} {g : GH} {L : Addr} {h : Heap} {l : List (Str × Value)} {n n1 : List (Addr × Obj)} {env : Env} {sc : Scope} {cl : List (Str × Addr)}
set_option maxHeartbeats 2000000 in
/-- v.binders() -/
theorem r_binders {Q : Value → Shared → Prop} {v : Value} {i r : Int} {ps : List Int} {vs : List Value} {pl : Sem Bool} {pos : Pos} (W : Wo (Mine.hd0.heap_1 w.params) b) (C : Cx A 1 4) (S : St b e g L h l n) (H : Shape w.params g v (.lam i ps r) vs)
    (k : ∀ a j bvs g' h' tk', (∀ a o, g a = some o → g' a = some o) → g' a = some (listO bvs j) → Ints bvs (binders ps r) → St b e g' L h' l n → Q (.ref a) ⟨h', gs, dr, tk', os⟩) :
    wpAny (model prog w) A (getMethod v "binders" pl) (fun fx s₂ => wpAny (model prog w) A (callWith pos fx.1 fx.2 (backTo pos (starEach [] env)) []) Q E s₂) E ⟨h, gs, dr, tk, os⟩ := by
  cases H with
  | @lam x lp i ps r t1 t2 t3 t4 u1 u2 pvs kk v1 I hp hi hpz =>
  have hpl := Ints.length hi
  refine r_method W S I (by k_is) (by k_is) (by k_is) rfl (r_meth0 W S (by k_is) ?_)
  refine r_call (d := 0) (u := 1) (binds := [("self", .ref x)]) (l := [("self", .ref x)]) W C S.pre0 (by k_is) (by k_is) rfl (by rfl) (.cons rfl .nil) ?_
  intro A' env' L' h1 tk1 C' N S1 E'
  (walk_at "un"; iterate 6 (walk1; walk_at "un"))
  refine r_attr W S1 I rfl (by k_is) (by k_is) (by k_is) (by k_is) rfl ?_
  intro _
  (walk_at "un"; iterate 3 (walk1; walk_at "un"))
  by_cases hr : 0 ≤ r
  · refine ite_pos (by simpa using hr) ?_
    (walk_at "un"; iterate 3 (walk1; walk_at "un"))
    refine r_attr W S1 I rfl (by k_is) (by k_is) (by k_is) (by k_is) rfl ?_
    intro _
    (walk_at "un"; iterate 4 (walk1; walk_at "un"))
    refine r_attr W S1 I rfl (by k_is) (by k_is) (by k_is) (by k_is) rfl ?_
    intro _
    (walk_at "un"; iterate 2 (walk1; walk_at "un"))
    rename_i a2 h2 he2 S2
    refine r_addlist S2 (S2.isL (.inr hp)) (S2.isL (.inl (.head _))) (by simp only [List.length_cons, List.length_nil]; rw [hpl, sizeLine_eq]; lia) ?_
    intro a3 h3 he3 S3
    obtain ⟨g4, S4, hs4, hL4⟩ := S3.freeze1 he3
    (walk_at "un"); refine k a3 _ _ g4 _ _ hs4 hL4 (by unfold binders; rw [if_pos hr]; exact Ints.append hi ⟨⟨_, rfl⟩, trivial⟩) (S.back0 (S4.fin [] fun _ q => nomatch q))
  · refine ite_neg (by simpa using hr) ?_
    (walk_at "un"; iterate 6 (walk1; walk_at "un"))
    refine r_attr W S1 I rfl (by k_is) (by k_is) (by k_is) (by k_is) rfl ?_
    intro _
    (walk_at "un"; iterate 1 (walk1; walk_at "un"))
    refine r_listof (.inl rfl) S1 (S1.gk _ _ hp) rfl rfl (by rw [hpl, sizeLine_eq]; lia) ?_
    intro a3 h3 j3 he3 S3
    obtain ⟨g4, S4, hs4, hL4⟩ := S3.freeze1 he3
    (walk_at "un"); refine k a3 _ _ g4 _ _ hs4 hL4 (by unfold binders; rw [if_neg hr]; exact hi) (S.back0 (S4.fin [] fun _ q => nomatch q))
end
theorem Way.mono {k6 k8 k6' k8' : List (Int × Value)} {z : Int} (h6 : ∀ x p t, valueAt k6 x = some (.int p t) → ∃ t', valueAt k6' x = some (.int p t')) (h8 : ∀ x a, valueAt k8 x = some (.ref a) → ∃ a', valueAt k8' x = some (.ref a')) : ∀ {K : Nat} {x : Int}, Way k6 k8 z K x → Way k6' k8' z K x
  | 0, _, h => h
  | K + 1, x, h => by
    rcases h with h | ⟨p, t, a, q1, q2, q3⟩
    · exact .inl h
    · obtain ⟨t', r1⟩ := h6 _ _ _ q1
      obtain ⟨a', r2⟩ := h8 _ _ q2
      exact .inr ⟨p, t', a', r1, r2, Way.mono h6 h8 q3⟩
theorem Way.more {k6 k8 : List (Int × Value)} {z : Int} : ∀ {K : Nat} {x : Int}, Way k6 k8 z K x → Way k6 k8 z (K + 1) x
  | 0, _, h => .inl h
  | K + 1, x, h => by
    rcases h with h | ⟨p, t, a, q1, q2, q3⟩
    · exact .inl h
    · exact .inr ⟨p, t, a, q1, q2, Way.more q3⟩
structure Grown (y y' : FS) : Prop where
  g4 : ∀ n z t, valueAt y.k4 n = some (.int z t) → ∃ t', valueAt y'.k4 n = some (.int z t')
  g6 : ∀ n z t, valueAt y.k6 n = some (.int z t) → ∃ t', valueAt y'.k6 n = some (.int z t')
  g8 : ∀ n a, valueAt y.k8 n = some (.ref a) → ∃ a', valueAt y'.k8 n = some (.ref a')
theorem Grown.refl (y : FS) : Grown y y := ⟨fun _ _ t h => ⟨t, h⟩, fun _ _ t h => ⟨t, h⟩, fun _ a h => ⟨a, h⟩⟩
theorem Grown.trans {x y z : FS} (a : Grown x y) (b : Grown y z) : Grown x z :=
  ⟨fun n v t h => let ⟨t', h'⟩ := a.g4 n v t h; b.g4 n v t' h', fun n v t h => let ⟨t', h'⟩ := a.g6 n v t h; b.g6 n v t' h', fun n c h => let ⟨c', h'⟩ := a.g8 n c h; b.g8 n c' h'⟩
noncomputable def NoteIn (y : FS) (B P : Int → Int) (K : Nat) (lab : Int) : Nk → Prop
  | .loc m => ∃ z t, valueAt y.k4 m = some (.int z t) ∧ Way y.k6 y.k8 z K lab
  | .set m => ∃ z t, valueAt y.k4 m = some (.int z t) ∧ Way y.k6 y.k8 z K lab
  | .lam l ps r => P l = lab ∧ ∀ n ∈ binders ps r, B n = l
  | _ => True
noncomputable def NoteOut (y : FS) (lab : Int) : Nk → Prop
  | .lam l ps r => (∃ t, valueAt y.k6 l = some (.int lab t)) ∧ (∃ a, valueAt y.k8 l = some (.ref a)) ∧ ∀ n ∈ binders ps r, ∃ t, valueAt y.k4 n = some (.int l t)
  | _ => True
noncomputable abbrev fnL (d1 d2 d3 d4 d5 d6 d7 d8 : Addr) (o1 o2 : Obj) (y : FS) : List (Addr × Obj) := (d1, o1) :: (d2, o2) :: (d3, y.o3) :: (d4, y.o4) :: (d5, y.o5) :: (d6, y.o6) :: (d7, y.o7) :: (d8, y.o8) :: y.ins
noncomputable def noted (kd : Int) (c : Int → Int) (k : Nk) : Int → Int := fun x => c x + if hereB kd x k then 1 else 0
theorem noted_loc (c : Int → Int) (m : Int) : noted 1 c (.loc m) = fun x => if x = m then c x + 1 else c x := by
  funext x
  unfold noted
  rw [hereB_loc]
  by_cases h : x = m
  · subst h; simp
  · have : (m == x) = false := by rw [beq_eq_false_iff_ne]; exact fun z => h z.symm
    rw [this, if_neg h]; simp
theorem noted_set (c : Int → Int) (m : Int) : noted 3 c (.set m) = fun x => if x = m then c x + 1 else c x := by
  funext x
  unfold noted
  have : hereB 3 x (.set m) = (m == x) := by simp [hereB, Nk.num, Nk.own, PyData.eqv, PyData.eqvAll]
  rw [this]
  by_cases h : x = m
  · subst h; simp
  · have : (m == x) = false := by rw [beq_eq_false_iff_ne]; exact fun z => h z.symm
    rw [this, if_neg h]; simp
theorem noted_other {kd : Int} {c : Int → Int} {k : Nk} (h : k.num ≠ kd) : noted kd c k = c := by
  funext x
  unfold noted hereB
  have : (k.num == kd) = false := beq_eq_false_iff_ne.mpr h
  rw [this]; simp
/-! a lambda's own numbers, one after another -/
noncomputable def T4 (B : Int → Int) (k4 : List (Int × Value)) (l0 : Int) (ns : List Int) (M i : Nat) (kk : List (Int × Value)) : Prop :=
  kk.length ≤ M + i ∧ (∀ n v, valueAt kk n = some v → ∃ t, v = .int (B n) t) ∧ (∀ n z t, valueAt k4 n = some (.int z t) → ∃ t', valueAt kk n = some (.int z t')) ∧ ∀ n ∈ ns.take i, ∃ t, valueAt kk n = some (.int l0 t)
theorem T4.next {B : Int → Int} {k4 kk : List (Int × Value)} {l0 n : Int} {ns : List Int} {M i : Nat} {u : Tok} (h : T4 B k4 l0 ns M i kk) (hn : ns[i]? = some n) (hB : ∀ n ∈ ns, B n = l0) (hb : ∀ n v, valueAt k4 n = some v → ∃ t, v = .int (B n) t) : T4 B k4 l0 ns M (i + 1) (stored kk n (.int l0 u)) := by
  have e := hB n (List.mem_of_getElem? hn)
  refine ⟨?_, fun n' v' q => ?_, fun n' z t q => ?_, fun n' q => ?_⟩
  · have := stored_length kk n (.int l0 u); have := h.1; lia
  · rw [valueAt_stored] at q
    by_cases z : n' = n
    · rw [if_pos z] at q
      cases q
      exact ⟨u, by rw [z, e]⟩
    · rw [if_neg z] at q; exact h.2.1 _ _ q
  · rw [valueAt_stored]
    by_cases y : n' = n
    · rw [if_pos y]
      obtain ⟨t', ht⟩ := hb _ _ q
      cases ht
      exact ⟨u, by rw [y, e]⟩
    · rw [if_neg y]; exact h.2.2.1 _ _ _ q
  · rw [valueAt_stored]
    by_cases y : n' = n
    · rw [if_pos y]; exact ⟨_, rfl⟩
    · rw [if_neg y]
      rw [take_snoc hn] at q
      rcases List.mem_append.mp q with h' | h'
      · exact h.2.2.2 n' h'
      · exact absurd (List.mem_singleton.mp h') y
theorem FSok.lam {prog : Program} {w : World} {y : FS} {B P : Int → Int} {M N : Nat} {l0 lab : Int} {tl : Tok} {a : Addr} {oa o4 o6 o8 : Obj} {k4 : List (Int × Value)} {ps : List Int} {r : Int} (hy : FSok prog w y B P M) (hP : P l0 = lab) (hN : M + 101 ≤ N)
    (h4 : T4 B y.k4 l0 (binders ps r) M (binders ps r).length k4) (hb : (binders ps r).length ≤ 101) (m4 : IsM prog w o4 k4) (m6 : IsM prog w o6 (stored y.k6 l0 (.int lab tl))) (m8 : IsM prog w o8 (stored y.k8 l0 (.ref a))) (ma : IsM prog w oa []) (sa : (a == sysModules) = false) :
    FSok prog w { y with k4 := k4, o4 := o4, k6 := stored y.k6 l0 (.int lab tl), o6 := o6, k8 := stored y.k8 l0 (.ref a), o8 := o8, ins := y.ins ++ [(a, oa)] } B P N ∧ Grown y { y with k4 := k4, o4 := o4, k6 := stored y.k6 l0 (.int lab tl), o6 := o6, k8 := stored y.k8 l0 (.ref a), o8 := o8, ins := y.ins ++ [(a, oa)] } ∧ NoteOut { y with k4 := k4, o4 := o4, k6 := stored y.k6 l0 (.int lab tl), o6 := o6, k8 := stored y.k8 l0 (.ref a), o8 := o8, ins := y.ins ++ [(a, oa)] } lab (.lam l0 ps r) := by
  have hyu := hy.up (M' := N) (by lia)
  have z6 := stored_length y.k6 l0 (.int lab tl)
  have z8 := stored_length y.k8 l0 (.ref a)
  have q6 := hy.l6
  have q8 := hy.l8
  have q4 := h4.1
  refine ⟨{ hyu with m4 := m4, m6 := m6, m8 := m8, l4 := by show k4.length ≤ N; lia, l6 := by show (stored y.k6 l0 (.int lab tl)).length ≤ N; lia, l8 := by show (stored y.k8 l0 (.ref a)).length ≤ N; lia, b4 := h4.2.1, p6 := fun n v hv => ?_, i8 := fun n v hv => ?_, ins := fun p hp => ?_ }, ⟨h4.2.2.1, fun n z t hzt => ?_, fun n a2 h2 => ?_⟩, ⟨tl, ?_⟩, ⟨a, ?_⟩, ?_⟩
  · rw [valueAt_stored] at hv
    by_cases q : n = l0
    · rw [if_pos q] at hv
      cases hv
      exact ⟨tl, by rw [q, hP]⟩
    · rw [if_neg q] at hv; exact hy.p6 _ _ hv
  · rw [valueAt_stored] at hv
    by_cases q : n = l0
    · rw [if_pos q] at hv
      cases hv
      exact ⟨a, oa, rfl, List.mem_append_right _ (.head _)⟩
    · rw [if_neg q] at hv
      obtain ⟨a2, o2', e2, h2⟩ := hy.i8 _ _ hv
      exact ⟨a2, o2', e2, List.mem_append_left _ h2⟩
  · rcases List.mem_append.mp hp with hp | hp
    · exact hyu.ins p hp
    · rw [List.mem_singleton.mp hp]
      exact ⟨[], ma, Nat.zero_le _, sa⟩
  · show ∃ t', valueAt (stored y.k6 l0 (.int lab tl)) n = some (.int z t')
    rw [valueAt_stored]
    by_cases q : n = l0
    · rw [if_pos q]
      obtain ⟨t', ht'⟩ := hy.p6 _ _ hzt
      cases ht'
      exact ⟨tl, by rw [q, hP]⟩
    · rw [if_neg q]; exact ⟨t, hzt⟩
  · show ∃ a', valueAt (stored y.k8 l0 (.ref a)) n = some (.ref a')
    rw [valueAt_stored]
    by_cases q : n = l0
    · rw [if_pos q]; exact ⟨a, rfl⟩
    · rw [if_neg q]; exact ⟨a2, h2⟩
  · show valueAt (stored y.k6 l0 (.int lab tl)) l0 = _
    rw [valueAt_stored, if_pos rfl]
  · show valueAt (stored y.k8 l0 (.ref a)) l0 = _
    rw [valueAt_stored, if_pos rfl]
  · have := h4.2.2.2
    rw [List.take_length] at this
    exact this
theorem binders_le {ps : List Int} {r : Int} (h : ps.length ≤ 100) : (binders ps r).length ≤ 101 := by
  unfold binders; split <;> (try simp only [List.length_append, List.length_singleton]) <;> lia
theorem NoteOut.no {y : FS} {lab : Int} {k0 : Nk} (h : k0.num ≠ 7) : NoteOut y lab k0 := by cases k0 <;> first | trivial | (simp [Nk.num] at h)
theorem isLetB_lamd {k kx : Nk} {kxs ops : List Tree} (h : isLetB k (.node kx kxs :: ops) = true) : ∃ l ps r, kx = .lam l ps r := by
  cases kx <;> first | exact ⟨_, _, _, rfl⟩ | (cases k <;> simp [isLetB] at h)
theorem Grown.same {y y' : FS} (h4 : y'.k4 = y.k4) (h6 : y'.k6 = y.k6) (h8 : y'.k8 = y.k8) : Grown y y' := ⟨fun _ _ t h => ⟨t, by rw [h4]; exact h⟩, fun _ _ t h => ⟨t, by rw [h6]; exact h⟩, fun _ a h => ⟨a, by rw [h8]; exact h⟩⟩
section
variable {prog : Program} {w : World} {A : Around} {E : Value → Shared → Prop} {gs : Array GenState} {dr : Drawn} {tk : Tok} {os : OsState}
variable {b : Heap} {e : Ent} {g : GH} {L : Addr} {h : Heap} {l : List (Str × Value)} {n n1 : List (Addr × Obj)} {env : Env} {sc : Scope} {cl : List (Str × Addr)}
set_option maxHeartbeats 8000000 in
theorem note_spec {Q : Value → Shared → Prop} {fx d1 d2 d3 d4 d5 d6 d7 d8 : Addr} {t1 t2 t3 t4 t5 t6 t7 t8 t9 t10 : Tok} {v9 v10 v : Value} {o1 o2 : Obj} {k1 k2 : List (Int × Value)} {c1 c2 : Int → Int} {y : FS} {B Pa : Int → Int} {M K : Nat} {lab : Int} {tl : Tok} {k0 : Nk} {ks : List Tree} (W : Wo (Mine.hd0.heap_1 w.params) b) (C : Cx A 3 10)
    (P : Pre b g h (fnL d1 d2 d3 d4 d5 d6 d7 d8 o1 o2 y)) (I : GInst g fx 620 (factsE w.params t1 t2 t3 t4 t5 t6 t7 t8 t9 t10 (.ref d1) (.ref d2) (.ref d3) (.ref d4) (.ref d5) (.ref d6) (.ref d7) (.ref d8) v9 v10) 10)
    (m1 : IsM prog w o1 k1) (m2 : IsM prog w o2 k2) (hc1 : Counts k1 c1) (hc2 : Counts k2 c2) (l1 : k1.length ≤ M) (l2 : k2.length ≤ M) (hy : FSok prog w y B Pa M) (s1 : (d1 == sysModules) = false) (s2 : (d2 == sysModules) = false) (s3 : (d3 == sysModules) = false) (hs7 : (d7 == sysModules) = false) (hM : M ≤ 900000) (hK : K ≤ 100)
    (hN : NodeAt w.params g v (.node k0 ks)) (hz : ks.length ≤ 1000) (hin : NoteIn y B Pa K lab k0)
    (k : ∀ o1' o2' k1' k2' y' in2 new g' h' tk', IsM prog w o1' k1' → IsM prog w o2' k2' → Counts k1' (noted 1 c1 k0) → Counts k2' (noted 3 c2 k0) → k1'.length ≤ M + 200 → k2'.length ≤ M + 200 → FSok prog w y' B Pa (M + 200) → Grown y y' → NoteOut y' lab k0 → y'.ins = in2 ++ new → in2.map (·.1) = y.ins.map (·.1) →
      (∀ p ∈ new, h.get? p.1 = none ∧ g' p.1 = none) → (new.map (·.1)).Nodup → Fin ⟨h, g, (fnL d1 d2 d3 d4 d5 d6 d7 d8 o1 o2 y).map (·.1)⟩ g' h' (fnL d1 d2 d3 d4 d5 d6 d7 d8 o1' o2' y') → Q .none ⟨h', gs, dr, tk', os⟩) :
    wpAny (model prog w) A (call (.ref 638) [.ref fx, v, .int lab tl]) Q E ⟨h, gs, dr, tk, os⟩ := by
  refine hN.unmk ?_
  intro vs H hks
  obtain ⟨x, rfl⟩ := H.ref
  refine r_call (d := 2) (u := 7) (binds := [("facts", .ref fx), ("node", .ref x), ("label", .int lab tl)]) (l := [("facts", .ref fx), ("node", .ref x), ("label", .int lab tl)]) W C P (by k_is) (by k_is) rfl (by rfl) (.cons rfl (.cons rfl (.cons rfl .nil))) ?_
  intro A' env L h' tk' C' N S E'
  (walk_at "un"; iterate 5 (walk1; walk_at "un"))
  refine r_kind W S H ?_
  intro _ _
  (walk_at "un"; iterate 3 (walk1; walk_at "un"))
  by_cases e1 : k0.num = 1
  · refine ite_pos (by simp [e1]) ?_
    walk_at "fz"
    obtain ⟨m, hkm⟩ := Nk.is_loc e1
    rw [hkm] at hin H
    obtain ⟨z, tz, hz4, hw⟩ := hin
    refine H.unloc ?_
    intro tx u _ Ix
    walk_at "thaw"
    (walk_at "un"; iterate 8 (walk1; walk_at "un"))
    refine r_attr W S I rfl (by k_is) (by k_is) (by k_is) (by k_is) rfl ?_
    intro _
    (walk_at "un"; iterate 3 (walk1; walk_at "un"))
    refine r_attr W S Ix rfl (by k_is) (by k_is) (by k_is) (by k_is) rfl ?_
    intro _
    (walk_at "un"; iterate 2 (walk1; walk_at "un"))
    refine count_in_spec W (C'.mono (by first | decide | lia) (by first | decide | lia)) (St.prep (p := []) (n1 := [(d1, o1)]) (q := (d2, o2) :: (d3, y.o3) :: (d4, y.o4) :: (d5, y.o5) :: (d6, y.o6) :: (d7, y.o7) :: (d8, y.o8) :: y.ins) S) m1 hc1 s1 (by rw [sizeLine_eq]; lia) ?_
    intro o1' k1' g5 h5 tk5 m1' hc1' l1' F5
    have S5 := St.backp (p := []) (n1 := [(d1, o1)]) (q := (d2, o2) :: (d3, y.o3) :: (d4, y.o4) :: (d5, y.o5) :: (d6, y.o6) :: (d7, y.o7) :: (d8, y.o8) :: y.ins) S F5 rfl
    have hs5 : ∀ a o, g a = some o → g5 a = some o := F5.gsub
    clear S F5
    (walk_at "un"; iterate 4 (walk1; walk_at "un"))
    refine r_method W S5 (I.mono hs5) (by k_is) (by k_is) (by k_is) rfl ?_
    (walk_at "un"; iterate 4 (walk1; walk_at "un"))
    refine r_attr W S5 (Ix.mono hs5) rfl (by k_is) (by k_is) (by k_is) (by k_is) rfl ?_
    intro _
    (walk_at "un"; iterate 4 (walk1; walk_at "un"))
    refine meet_spec W (C'.mono (by first | decide | lia) (by first | decide | lia)) (St.pret (p := [(d1, o1'), (d2, o2), (d3, y.o3)]) S5) (I.mono hs5) hy hs7 (by first | decide | lia) hz4 hw ?_
    intro o5' k5' ins' g6 h6 tk6 hy6 hik F6
    have S6 := St.backt (p := [(d1, o1'), (d2, o2), (d3, y.o3)]) S5 F6 (by simp [hik])
    have hs6 : ∀ a o, g5 a = some o → g6 a = some o := F6.gsub
    clear S5 F6
    (walk_at "un"; iterate 2 (walk1; walk_at "un"))
    (walk_at "un"); refine k o1' o2 k1' k2 _ ins' [] g6 _ _ m1' m2 (by rw [hkm, noted_loc]; exact hc1') (by rw [noted_other (by rw [e1]; decide)]; exact hc2) (by first | decide | lia) (by first | decide | lia) (hy6.up (by first | decide | lia)) (.same rfl rfl rfl) (.no (by rw [e1]; decide)) (by simp) hik (fun _ q => nomatch q) List.nodup_nil (S6.fin _ fun _ q => q)
  · refine ite_neg (by simpa using e1) ?_
    (walk_at "un"; iterate 5 (walk1; walk_at "un"))
    refine r_kind W S H ?_
    intro _ _
    (walk_at "un"; iterate 3 (walk1; walk_at "un"))
    by_cases e3 : k0.num = 3
    · refine ite_pos (by simp [e3]) ?_
      walk_at "fz"
      obtain ⟨m, hkm⟩ := Nk.is_set e3
      rw [hkm] at hin H
      obtain ⟨z, tz, hz4, hw⟩ := hin
      refine H.unset ?_
      intro ta1 ta2 u va1 _ Ix
      walk_at "thaw"
      (walk_at "un"; iterate 8 (walk1; walk_at "un"))
      refine r_attr W S I rfl (by k_is) (by k_is) (by k_is) (by k_is) rfl ?_
      intro _
      (walk_at "un"; iterate 3 (walk1; walk_at "un"))
      refine r_attr W S Ix rfl (by k_is) (by k_is) (by k_is) (by k_is) rfl ?_
      intro _
      (walk_at "un"; iterate 2 (walk1; walk_at "un"))
      refine count_in_spec W (C'.mono (by first | decide | lia) (by first | decide | lia)) (St.prep (p := [(d1, o1)]) (n1 := [(d2, o2)]) (q := (d3, y.o3) :: (d4, y.o4) :: (d5, y.o5) :: (d6, y.o6) :: (d7, y.o7) :: (d8, y.o8) :: y.ins) S) m2 hc2 s2 (by rw [sizeLine_eq]; lia) ?_
      intro o2' k2' g5 h5 tk5 m2' hc2' l2' F5
      have S5 := St.backp (p := [(d1, o1)]) (n1 := [(d2, o2)]) (q := (d3, y.o3) :: (d4, y.o4) :: (d5, y.o5) :: (d6, y.o6) :: (d7, y.o7) :: (d8, y.o8) :: y.ins) S F5 rfl
      have hs5 : ∀ a o, g a = some o → g5 a = some o := F5.gsub
      clear S F5
      (walk_at "un"; iterate 4 (walk1; walk_at "un"))
      refine r_method W S5 (I.mono hs5) (by k_is) (by k_is) (by k_is) rfl ?_
      (walk_at "un"; iterate 4 (walk1; walk_at "un"))
      refine r_attr W S5 (Ix.mono hs5) rfl (by k_is) (by k_is) (by k_is) (by k_is) rfl ?_
      intro _
      (walk_at "un"; iterate 4 (walk1; walk_at "un"))
      refine meet_spec W (C'.mono (by first | decide | lia) (by first | decide | lia)) (St.pret (p := [(d1, o1), (d2, o2'), (d3, y.o3)]) S5) (I.mono hs5) hy hs7 (by first | decide | lia) hz4 hw ?_
      intro o5' k5' ins' g6 h6 tk6 hy6 hik F6
      have S6 := St.backt (p := [(d1, o1), (d2, o2'), (d3, y.o3)]) S5 F6 (by simp [hik])
      have hs6 : ∀ a o, g5 a = some o → g6 a = some o := F6.gsub
      clear S5 F6
      (walk_at "un"; iterate 3 (walk1; walk_at "un"))
      (walk_at "un"); refine k o1 o2' k1 k2' _ ins' [] g6 _ _ m1 m2' (by rw [noted_other e1]; exact hc1) (by rw [hkm, noted_set]; exact hc2') (by first | decide | lia) (by first | decide | lia) (hy6.up (by first | decide | lia)) (.same rfl rfl rfl) (.no (by rw [e3]; decide)) (by simp) hik (fun _ q => nomatch q) List.nodup_nil (S6.fin _ fun _ q => q)
    · refine ite_neg (by simpa using e3) ?_
      (walk_at "un"; iterate 5 (walk1; walk_at "un"))
      refine r_kind W S H ?_
      intro _ _
      (walk_at "un"; iterate 3 (walk1; walk_at "un"))
      refine ite_neg (by simpa using k0.num_lt.1) ?_
      (walk_at "un"; iterate 5 (walk1; walk_at "un"))
      refine r_kind W S H ?_
      intro _ _
      (walk_at "un"; iterate 7 (walk1; walk_at "un"))
      rename_i aT hT' gT hsT hTT ST
      replace I := I.mono hsT
      replace H := H.mono hsT
      replace hN := hN.mono hsT
      replace hks := hks.mono hsT
      refine r_inT (is := [4, 5]) ST hTT ⟨⟨_, rfl⟩, ⟨_, rfl⟩, trivial⟩ ?_
      (walk_at "un"; iterate 1 (walk1; walk_at "un"))
      refine ite_neg (by have := k0.num_lt; simp; exact ⟨fun q => this.2.1 q.symm, fun q => this.2.2.1 q.symm⟩) ?_
      (walk_at "un"; iterate 5 (walk1; walk_at "un"))
      refine r_kind W ST H ?_
      intro _ _
      (walk_at "un"; iterate 3 (walk1; walk_at "un"))
      refine ite_neg (by simpa using k0.num_lt.2.2.2) ?_
      (walk_at "un"; iterate 5 (walk1; walk_at "un"))
      refine r_kind W ST H ?_
      intro _ _
      (walk_at "un"; iterate 3 (walk1; walk_at "un"))
      by_cases e7 : k0.num = 7
      · refine ite_pos (by simp [e7]) ?_
        clear hks
        walk_at "fz"
        obtain ⟨l0, ps, r, hkm⟩ := Nk.is_lam e7
        rw [hkm] at hin H
        obtain ⟨hPl, hBn⟩ := hin
        refine H.unlam ?_
        intro lp ta1 ta2 ta3 ta4 u1 u2 pvs kk v1 _ Ix hp hi hpz
        walk_at "thaw"
        (walk_at "un"; iterate 5 (walk1; walk_at "un"))
        refine r_attr W ST I rfl (by k_is) (by k_is) (by k_is) (by k_is) rfl ?_
        intro _
        (walk_at "un"; iterate 2 (walk1; walk_at "un"))
        refine r_attr W ST Ix rfl (by k_is) (by k_is) (by k_is) (by k_is) rfl ?_
        intro _
        (walk_at "un"; iterate 0 (walk1; walk_at "un"))
        refine r_dset (n' := fun o' => (d1, o1) :: (d2, o2) :: (d3, y.o3) :: (d4, y.o4) :: (d5, y.o5) :: (d6, o') :: (d7, y.o7) :: (d8, y.o8) :: y.ins) ST (fun o' => .tail (.tail (.tail (.tail (.tail .head))))) hy.m6 (by have := hy.l6; rw [sizeLine_eq]; lia) ?_
        intro o6' h6 tk6 m6' S6
        clear ST
        (walk_at "un"; iterate 2 (walk1; walk_at "un"))
        refine r_newdict W S6 ?_
        intro a oa h7 hea hsa hma S7
        clear S6
        (walk_at "un"; iterate 2 (walk1; walk_at "un"))
        refine r_attr W S7 I rfl (by k_is) (by k_is) (by k_is) (by k_is) rfl ?_
        intro _
        (walk_at "un"; iterate 2 (walk1; walk_at "un"))
        refine r_attr W S7 Ix rfl (by k_is) (by k_is) (by k_is) (by k_is) rfl ?_
        intro _
        (walk_at "un"; iterate 0 (walk1; walk_at "un"))
        refine r_dset (n' := fun o' => (a, oa) :: (d1, o1) :: (d2, o2) :: (d3, y.o3) :: (d4, y.o4) :: (d5, y.o5) :: (d6, o6') :: (d7, y.o7) :: (d8, o') :: y.ins) S7 (fun o' => .tail (.tail (.tail (.tail (.tail (.tail (.tail (.tail .head)))))))) hy.m8 (by have := hy.l8; rw [sizeLine_eq]; lia) ?_
        intro o8' h8 tk8 m8' S8
        clear S7
        (walk_at "un"; iterate 1 (walk1; walk_at "un"))
        refine wpAny_For ?_
        (walk_at "un"; iterate 2 (walk1; walk_at "un"))
        refine r_binders W (C'.mono (by first | decide | lia) (by first | decide | lia)) S8 H ?_
        intro ba bj bvs g9 h9 tk9 hs9 hbL hbi S9
        clear S8
        have hbl := Ints.length hbi
        have hbz : (binders ps r).length ≤ 101 := binders_le hpz
        have I9 := I.mono hs9
        have Ix9 := Ix.mono hs9
        refine r_for_list (σ := List (Int × Value) × Obj) (x0 := (y.k4, y.o4)) (fun i st g' => IsM prog w st.2 st.1 ∧ T4 B y.k4 l0 (binders ps r) M i st.1)
          (fun _ => [("facts", .ref fx), ("node", .ref x)]) (fun st => (a, oa) :: (d1, o1) :: (d2, o2) :: (d3, y.o3) :: (d4, st.2) :: (d5, y.o5) :: (d6, o6') :: (d7, y.o7) :: (d8, o8') :: y.ins) C' N (by rfl) (S9.loc' _ (.cons rfl (.cons rfl .nil))) hbL ⟨hy.m4, hy.l4, hy.b4, fun _ _ t h => ⟨t, h⟩, fun _ q => by simp at q⟩ ?_ ?_
        · rintro i v11 ⟨k4', o4'⟩ g11 h11 tk11 e11 E11 R_ hR_ hi11 ⟨j1, j2⟩ hs11 S11
          dsimp only at j1 j2 S11 ⊢
          clear k
          walk_at "fz"
          obtain ⟨n, hn⟩ : ∃ n, (binders ps r)[i]? = some n := ⟨_, List.getElem?_eq_getElem (by rw [← hbl]; exact (List.getElem?_eq_some_iff.mp hi11).1)⟩
          have hil : i < bvs.length := (List.getElem?_eq_some_iff.mp hi11).1
          obtain ⟨tn, hv1'⟩ := Ints.get hbi hn
          rw [hi11] at hv1'
          obtain rfl := Option.some.inj hv1'
          walk_at "thaw"
          have q2 := j2.1
          (walk_at "un"; iterate 4 (walk1; walk_at "un"))
          refine r_attr W S11 (Ix9.mono hs11) rfl (by k_is) (by k_is) (by k_is) (by k_is) rfl ?_
          intro _
          (walk_at "un"; iterate 2 (walk1; walk_at "un"))
          refine r_attr W S11 (I9.mono hs11) rfl (by k_is) (by k_is) (by k_is) (by k_is) rfl ?_
          intro _
          (walk_at "un"; iterate 1 (walk1; walk_at "un"))
          refine r_dset (n' := fun o' => (a, oa) :: (d1, o1) :: (d2, o2) :: (d3, y.o3) :: (d4, o') :: (d5, y.o5) :: (d6, o6') :: (d7, y.o7) :: (d8, o8') :: y.ins) S11 (fun o' => .tail (.tail (.tail (.tail .head)))) j1 (by rw [sizeLine_eq]; lia) ?_
          intro o4'' h12 tk12 m4'' S12
          clear S11
          (walk_at "un"; iterate 1 (walk1; walk_at "un"))
          (walk_at "un"); exact ⟨(stored k4' n (.int l0 u1), o4''), g11, _, _, ⟨m4'', j2.next hn hBn hy.b4⟩, S12.loc' _ (.cons rfl (.cons rfl .nil)), rfl⟩
        · rintro ⟨k4', o4'⟩ g11 h11 tk11 ⟨j1, j2⟩ hs11 S11
          dsimp only at j1 j2 S11 ⊢
          (walk_at "un"; iterate 7 (walk1; walk_at "un"))
          have ha0 : g11 a = none := (S11.own _ (.head _)).2.1
          rw [hbl] at j2
          obtain ⟨y1, y2, y3⟩ := hy.lam (N := M + 200) (tl := tl) hPl (by lia) j2 hbz j1 m6' m8' hma hsa
          rw [← hkm] at y3
          (walk_at "un"); refine k o1 o2 k1 k2 _ y.ins [(a, oa)] g11 _ _ m1 m2 (by rw [noted_other e1]; exact hc1) (by rw [noted_other e3]; exact hc2) (by first | decide | lia) (by first | decide | lia) y1 y2 y3 rfl rfl ?_ (by simp) (S11.fin _ ?_)
          · intro p hp
            rw [List.mem_singleton.mp hp]
            (walk_at "un"); exact ⟨hea, ha0⟩
          · intro p hp
            simp only [List.mem_cons, List.mem_append, List.not_mem_nil, or_false] at hp ⊢
            rcases hp with hp | hp | hp | hp | hp | hp | hp | hp | hp | hp <;> simp [hp]
      · refine ite_neg (by simpa using e7) ?_
        (walk_at "un"; iterate 5 (walk1; walk_at "un"))
        refine r_kind W ST H ?_
        intro _ _
        (walk_at "un"; iterate 3 (walk1; walk_at "un"))
        by_cases e8 : k0.num = 8
        · refine ite_pos (by simp [e8]) ?_
          walk_at "fz"
          have hkc := Nk.is_call e8
          rw [hkc] at H hN
          refine H.uncall ?_
          intro lo ta1 ta2 va1 ws kk hvs Ic hLo
          rw [hvs] at hks
          refine hks.unconsV ?_
          intro kx kxs ops htk hx
          rw [htk] at hN hz
          refine hx.unmk ?_
          intro vx Hx hxs
          obtain ⟨xv, hxv⟩ := Hx.ref
          rw [hxv] at Ic Hx
          have hv1 : handedIn (.ref xv) = true := rfl
          clear hks
          walk_at "thaw"
          (walk_at "un"); refine execs_cps (H := fun K => ∀ hh tt gg o3' k3', (∀ a o, gT a = some o → gg a = some o) → FSok prog w { y with o3 := o3', k3 := k3' } B Pa (M + 200) → St b ⟨h, g, (fnL d1 d2 d3 d4 d5 d6 d7 d8 o1 o2 y).map (·.1)⟩ gg L hh [("facts", .ref fx), ("node", .ref x), ("label", .int lab tl)] (fnL d1 d2 d3 d4 d5 d6 d7 d8 o1 o2 { y with o3 := o3', k3 := k3' }) → K ⟨hh, gs, dr, tt, os⟩) ?_ ?_
          · intro K_ hK_; (walk_at "un"; iterate 5 (walk1; walk_at "un"))
            refine r_attr W ST Ic rfl (by k_is) (by k_is) (by k_is) (by k_is) hv1 ?_
            intro _
            (walk_at "un"; iterate 0 (walk1; walk_at "un"))
            refine r_kind W ST Hx ?_
            intro _ _
            (walk_at "un"; iterate 3 (walk1; walk_at "un"))
            by_cases hk1 : kx.num = 1
            · refine ite_pos (by simp [hk1]) ?_
              walk_at "fz"
              obtain ⟨m, hkx⟩ := Nk.is_loc hk1
              rw [hkx] at Hx
              refine Hx.unloc ?_
              intro tx u _ Il
              walk_at "thaw"
              (walk_at "un"; iterate 8 (walk1; walk_at "un"))
              refine r_attr W ST I rfl (by k_is) (by k_is) (by k_is) (by k_is) rfl ?_
              intro _
              (walk_at "un"; iterate 4 (walk1; walk_at "un"))
              refine r_attr W ST Ic rfl (by k_is) (by k_is) (by k_is) (by k_is) hv1 ?_
              intro _
              (walk_at "un"; iterate 0 (walk1; walk_at "un"))
              refine r_attr W ST Il rfl (by k_is) (by k_is) (by k_is) (by k_is) rfl ?_
              intro _
              (walk_at "un"; iterate 2 (walk1; walk_at "un"))
              obtain ⟨c3, hc3⟩ := hy.c3
              have q3 := hy.l3
              refine count_in_spec W (C'.mono (by first | decide | lia) (by first | decide | lia)) (St.prep (p := [(d1, o1), (d2, o2)]) (n1 := [(d3, y.o3)]) (q := (d4, y.o4) :: (d5, y.o5) :: (d6, y.o6) :: (d7, y.o7) :: (d8, y.o8) :: y.ins) ST) hy.m3 hc3 s3 (by rw [sizeLine_eq]; lia) ?_
              intro o3' k3' g5 h5 tk5 m3' hc3' l3' F5
              have S5 := St.backp (p := [(d1, o1), (d2, o2)]) (n1 := [(d3, y.o3)]) (q := (d4, y.o4) :: (d5, y.o5) :: (d6, y.o6) :: (d7, y.o7) :: (d8, y.o8) :: y.ins) ST F5 rfl
              have hs5 : ∀ a o, gT a = some o → g5 a = some o := F5.gsub
              clear ST F5
              (walk_at "un"; iterate 1 (walk1; walk_at "un"))
              have hyu := hy.up (M' := M + 200) (by first | decide | lia)
              (walk_at "un"); exact hK_ _ _ g5 o3' k3' hs5 { hyu with m3 := m3', c3 := ⟨_, hc3'⟩, l3 := by dsimp only; lia } S5
            · refine ite_neg (by simpa using hk1) ?_
              (walk_at "un"; iterate 1 (walk1; walk_at "un"))
              (walk_at "un"); exact hK_ _ _ gT y.o3 y.k3 (fun _ _ q => q) (hy.up (by first | decide | lia)) ST
          intro h20 tk20 g20 o3' k3' hs20 hy20 S20
          clear ST
          replace I := I.mono hs20
          (walk_at "un"; iterate 10 (walk1; walk_at "un"))
          refine is_let_spec W (C'.mono (by first | decide | lia) (by first | decide | lia)) S20.pre0 (hN.mono hs20) hz ?_
          intro g21 h21 tk21 F21
          have S21 := S20.back0 F21
          have hs21 : ∀ a o, g20 a = some o → g21 a = some o := F21.gsub
          clear S20 F21
          (walk_at "un"; iterate 1 (walk1; walk_at "un"))
          by_cases hlt : isLetB .call (.node kx kxs :: ops) = true
          · refine ite_pos hlt ?_
            walk_at "fz"
            obtain ⟨l0, ps, r, hkx⟩ := isLetB_lamd hlt
            rw [hkx] at Hx
            refine Hx.unlam ?_
            intro lp tb1 tb2 tb3 tb4 u1 u2 pvs k3 v2 _ I2 hp hi hpz
            walk_at "thaw"
            (walk_at "un"; iterate 5 (walk1; walk_at "un"))
            refine r_attr W S21 (I.mono hs21) rfl (by k_is) (by k_is) (by k_is) (by k_is) rfl ?_
            intro _
            (walk_at "un"; iterate 3 (walk1; walk_at "un"))
            refine r_attr W S21 (Ic.mono fun a o q => hs21 a o (hs20 a o q)) rfl (by k_is) (by k_is) (by k_is) (by k_is) rfl ?_
            intro _
            (walk_at "un"; iterate 0 (walk1; walk_at "un"))
            refine r_attr W S21 (I2.mono fun a o q => hs21 a o (hs20 a o q)) rfl (by k_is) (by k_is) (by k_is) (by k_is) rfl ?_
            intro _
            (walk_at "un"; iterate 0 (walk1; walk_at "un"))
            have q7 := hy.l7
            refine r_dset (n' := fun o' => (d1, o1) :: (d2, o2) :: (d3, o3') :: (d4, y.o4) :: (d5, y.o5) :: (d6, y.o6) :: (d7, o') :: (d8, y.o8) :: y.ins) S21 (fun o' => .tail (.tail (.tail (.tail (.tail (.tail .head)))))) hy.m7 (by rw [sizeLine_eq]; lia) ?_
            intro o7' h22 tk22 m7' S22
            clear S21
            (walk_at "un"; iterate 9 (walk1; walk_at "un"))
            have hz7 := stored_length y.k7 l0 (.bool true)
            (walk_at "un"); refine k o1 o2 k1 k2 { y with o3 := o3', k3 := k3', o7 := o7', k7 := stored y.k7 l0 (.bool true) } y.ins [] g21 _ _ m1 m2 (by rw [noted_other e1]; exact hc1) (by rw [noted_other e3]; exact hc2) (by first | decide | lia) (by first | decide | lia) { hy20 with m7 := m7', l7 := by dsimp only; lia } (.same rfl rfl rfl) (.no (by rw [e8]; decide)) (by simp) rfl (fun _ q => nomatch q) List.nodup_nil (S22.fin _ fun _ q => q)
          · refine ite_neg hlt ?_
            (walk_at "un"; iterate 9 (walk1; walk_at "un"))
            (walk_at "un"); refine k o1 o2 k1 k2 _ y.ins [] g21 _ _ m1 m2 (by rw [noted_other e1]; exact hc1) (by rw [noted_other e3]; exact hc2) (by first | decide | lia) (by first | decide | lia) hy20 (.same rfl rfl rfl) (.no (by rw [e8]; decide)) (by simp) rfl (fun _ q => nomatch q) List.nodup_nil (S21.fin _ fun _ q => q)
        · refine ite_neg (by simpa using e8) ?_
          (walk_at "un"; iterate 8 (walk1; walk_at "un"))
          (walk_at "un"); refine k o1 o2 k1 k2 y y.ins [] gT _ _ m1 m2 (by rw [noted_other e1]; exact hc1) (by rw [noted_other e3]; exact hc2) (by first | decide | lia) (by first | decide | lia) (hy.up (by first | decide | lia)) (Grown.refl y) (.no e7) (by simp) rfl (fun _ q => nomatch q) List.nodup_nil (ST.fin _ fun _ q => q)
end
noncomputable abbrev Stl := List (Tree × Int)
noncomputable def remC (kd n : Int) : Stl → Int
  | [] => 0
  | p :: r => cnt kd n p.1 + remC kd n r
noncomputable def szS : Stl → Nat
  | [] => 0
  | p :: r => p.1.size + szS r
noncomputable def ItemOk (y : FS) (B P : Int → Int) (H : Nat) (t : Tree) (lab : Int) : Prop :=
  ∃ (known : List Int) (K : Nat), t.inSc known ∧ t.fits B P lab ∧ K + t.ht ≤ H ∧ ∀ n ∈ known, (∃ tz, valueAt y.k4 n = some (.int (B n) tz)) ∧ Way y.k6 y.k8 (B n) K lab
theorem ItemOk.grown {y y' : FS} {B P : Int → Int} {H : Nat} {t : Tree} {lab : Int} (h : ItemOk y B P H t lab) (g : Grown y y') : ItemOk y' B P H t lab := by
  obtain ⟨known, K, a, b, c, d⟩ := h
  (walk_at "un"); exact ⟨known, K, a, b, c, fun n hn => ⟨let ⟨t, q⟩ := (d n hn).1; g.g4 _ _ _ q, (d n hn).2.mono g.g6 g.g8⟩⟩
noncomputable def labOf : Nk → Int → Int
  | .lam l _ _, _ => l
  | _, lab => lab
theorem inScL_mem {known : List Int} : ∀ {ts : List Tree} {t : Tree}, inScL known ts → t ∈ ts → t.inSc known
  | u :: ts, t, h, m => by
    rcases List.mem_cons.mp m with rfl | m
    · exact h.1
    · exact inScL_mem h.2 m
theorem fitsL_mem {B P : Int → Int} {lab : Int} : ∀ {ts : List Tree} {t : Tree}, fitsL B P lab ts → t ∈ ts → t.fits B P lab
  | u :: ts, t, h, m => by
    rcases List.mem_cons.mp m with rfl | m
    · exact h.1
    · exact fitsL_mem h.2 m
theorem item_in {y : FS} {B P : Int → Int} {H : Nat} {k : Nk} {ks : List Tree} {lab : Int} (h : ItemOk y B P H (.node k ks) lab) : ∃ K, K ≤ H ∧ NoteIn y B P K lab k := by
  obtain ⟨known, K, a, b, c, d⟩ := h
  (walk_at "un"); refine ⟨K, by lia, ?_⟩
  cases k with
  | loc m => obtain ⟨⟨tz, q⟩, w⟩ := d m a.1; exact ⟨_, _, q, w⟩
  | set m => obtain ⟨⟨tz, q⟩, w⟩ := d m a.1; exact ⟨_, _, q, w⟩
  | lam l ps r => exact ⟨b.1, b.2.1⟩
  | _ => trivial
theorem item_kids {y y' : FS} {B P : Int → Int} {H : Nat} {k : Nk} {ks : List Tree} {lab : Int} (h : ItemOk y B P H (.node k ks) lab) (g : Grown y y') (o : NoteOut y' lab k) : ∀ t ∈ ks, ItemOk y' B P H t (labOf k lab) := by
  intro t ht
  have hh := (size_mem ht).2
  obtain ⟨known, K, a, b, c, d⟩ := h
  simp only [Tree.ht] at c
  have keep : ∀ n ∈ known, (∃ tz, valueAt y'.k4 n = some (.int (B n) tz)) ∧ Way y'.k6 y'.k8 (B n) K lab := fun n hn => ⟨let ⟨t, q⟩ := (d n hn).1; g.g4 _ _ _ q, (d n hn).2.mono g.g6 g.g8⟩
  cases k with
  | lam l ps r =>
    have a' : inScL (known ++ binders ps r) ks := a
    have b' : P l = lab ∧ (∀ n ∈ binders ps r, B n = l) ∧ fitsL B P l ks := b
    (walk_at "un"); refine ⟨known ++ binders ps r, K + 1, inScL_mem a' ht, fitsL_mem b'.2.2 ht, by lia, fun n hn => ?_⟩
    obtain ⟨⟨tp, o1⟩, ⟨a8, o2⟩, o3⟩ := o
    rcases List.mem_append.mp hn with hn | hn
    · (walk_at "un"); exact ⟨(keep n hn).1, .inr ⟨lab, tp, a8, o1, o2, (keep n hn).2⟩⟩
    · obtain ⟨tz, q⟩ := o3 n hn
      rw [b'.2.1 n hn]
      (walk_at "un"); exact ⟨⟨tz, q⟩, .inl rfl⟩
  | loc m =>
    have a' : m ∈ known ∧ inScL known ks := a
    (walk_at "un"); exact ⟨known, K, inScL_mem a'.2 ht, fitsL_mem (lab := lab) (show fitsL B P lab ks from b) ht, by lia, keep⟩
  | set m =>
    have a' : m ∈ known ∧ inScL known ks := a
    (walk_at "un"); exact ⟨known, K, inScL_mem a'.2 ht, fitsL_mem (lab := lab) (show fitsL B P lab ks from b) ht, by lia, keep⟩
  | const _ => exact ⟨known, K, inScL_mem (show inScL known ks from a) ht, fitsL_mem (lab := lab) (show fitsL B P lab ks from b) ht, by lia, keep⟩
  | ite => exact ⟨known, K, inScL_mem (show inScL known ks from a) ht, fitsL_mem (lab := lab) (show fitsL B P lab ks from b) ht, by lia, keep⟩
  | call => exact ⟨known, K, inScL_mem (show inScL known ks from a) ht, fitsL_mem (lab := lab) (show fitsL B P lab ks from b) ht, by lia, keep⟩
  | seq => exact ⟨known, K, inScL_mem (show inScL known ks from a) ht, fitsL_mem (lab := lab) (show fitsL B P lab ks from b) ht, by lia, keep⟩
  | prim _ => exact ⟨known, K, inScL_mem (show inScL known ks from a) ht, fitsL_mem (lab := lab) (show fitsL B P lab ks from b) ht, by lia, keep⟩
noncomputable def kidsS (ks : List Tree) (lab : Int) : Stl := ks.map fun t => (t, lab)
theorem remC_push (kd n lab : Int) : ∀ (ks : List Tree) (S : Stl), remC kd n (kidsS ks lab ++ S) = (cntL kd n ks).sum + remC kd n S
  | [], S => by simp [kidsS, cntL]
  | t :: ks, S => by
    show cnt kd n t + remC kd n (kidsS ks lab ++ S) = _
    rw [remC_push kd n lab ks S, cntL, List.sum_cons]; lia
theorem szS_push (lab : Int) : ∀ (ks : List Tree) (S : Stl), szS (kidsS ks lab ++ S) = sizes ks + szS S
  | [], S => by simp [kidsS, sizes]
  | t :: ks, S => by
    show t.size + szS (kidsS ks lab ++ S) = _
    rw [szS_push lab ks S, sizes]; lia
theorem szS_len : ∀ S : Stl, S.length ≤ szS S
  | [] => Nat.le_refl _
  | p :: r => by have := szS_len r; have := p.1.size_pos; simp only [List.length_cons, szS]; lia
inductive StlAt (P : Params) (g : GH) : List Value → Stl → Prop
  | nil : StlAt P g [] []
  | cons {a v t c tc vs S} : g a = some (tupO [v, .int c tc]) → NodeAt P g v t → StlAt P g vs S → StlAt P g (.ref a :: vs) ((t, c) :: S)
theorem StlAt.mono {P : Params} {g g' : GH} (hg : ∀ a o, g a = some o → g' a = some o) {vs S} (h : StlAt P g vs S) : StlAt P g' vs S := by
  induction h with
  | nil => exact .nil
  | cons h x _ ih => exact .cons (hg _ _ h) (x.mono hg) ih
theorem StlAt.length {P : Params} {g : GH} {vs S} (h : StlAt P g vs S) : vs.length = S.length := by
  induction h with
  | nil => rfl
  | cons _ _ _ ih => exact congrArg (· + 1) ih
theorem Counts.eq {kv : List (Int × Value)} {c c' : Int → Int} (h : Counts kv c) (e : ∀ n, c n = c' n) : Counts kv c' := fun n => by rw [← e n]; exact h n
/-- what is gathered so far -/
structure GS where
  ts : List Value
  wk : Nat
  o1 : Obj
  k1 : List (Int × Value)
  o2 : Obj
  k2 : List (Int × Value)
  y : FS
  stk : Stl
structure GSok (prog : Program) (w : World) (B P : Int → Int) (W0 : Tree) (s : GS) : Prop where
  m1 : IsM prog w s.o1 s.k1
  m2 : IsM prog w s.o2 s.k2
  c1 : Counts s.k1 fun n => cnt 1 n W0 - remC 1 n s.stk
  c2 : Counts s.k2 fun n => cnt 3 n W0 - remC 3 n s.stk
  l1 : s.k1.length ≤ 200 * (W0.size - szS s.stk)
  l2 : s.k2.length ≤ 200 * (W0.size - szS s.stk)
  ok : FSok prog w s.y B P (200 * (W0.size - szS s.stk))
  it : ∀ p ∈ s.stk, ItemOk s.y B P W0.ht p.1 p.2
  le : szS s.stk ≤ W0.size
theorem labOf_no {k : Nk} {c : Int} (h : k.num ≠ 7) : labOf k c = c := by cases k <;> first | rfl | (simp [Nk.num] at h)
theorem GSok.turn {prog : Program} {w : World} {B P : Int → Int} {W0 : Tree} {ts ts' : List Value} {wk wk' : Nat} {p1 p2 p1' p2' : Obj} {j1 j2 j1' j2' : List (Int × Value)} {y y' : FS} {k5 : Nk} {ks5 : List Tree} {c5 : Int} {S5 : Stl}
    (hG : GSok prog w B P W0 ⟨ts, wk, p1, j1, p2, j2, y, (.node k5 ks5, c5) :: S5⟩) (m1 : IsM prog w p1' j1') (m2 : IsM prog w p2' j2')
    (c1 : Counts j1' (noted 1 (fun n => cnt 1 n W0 - remC 1 n ((.node k5 ks5, c5) :: S5)) k5)) (c2 : Counts j2' (noted 3 (fun n => cnt 3 n W0 - remC 3 n ((.node k5 ks5, c5) :: S5)) k5))
    (l1 : j1'.length ≤ 200 * (W0.size - szS ((.node k5 ks5, c5) :: S5)) + 200) (l2 : j2'.length ≤ 200 * (W0.size - szS ((.node k5 ks5, c5) :: S5)) + 200) (hy : FSok prog w y' B P (200 * (W0.size - szS ((.node k5 ks5, c5) :: S5)) + 200)) (hgr : Grown y y') (hno : NoteOut y' c5 k5) :
    GSok prog w B P W0 ⟨ts', wk', p1', j1', p2', j2', y', kidsS ks5 (labOf k5 c5) ++ S5⟩ := by
  have hle : szS ((.node k5 ks5, c5) :: S5) ≤ W0.size := hG.le
  have hsn : szS (kidsS ks5 (labOf k5 c5) ++ S5) = sizes ks5 + szS S5 := szS_push _ _ _
  have hsz : szS ((Tree.node k5 ks5, c5) :: S5) = 1 + sizes ks5 + szS S5 := by simp only [szS, Tree.size]
  rw [hsz] at hle l1 l2 hy
  have hM : 200 * (W0.size - (1 + sizes ks5 + szS S5)) + 200 ≤ 200 * (W0.size - (sizes ks5 + szS S5)) := by lia
  refine ⟨m1, m2, c1.eq fun n => ?_, c2.eq fun n => ?_, ?_, ?_, ?_, ?_, ?_⟩
  · dsimp only
    rw [remC_push]
    simp only [noted, remC, cnt]; lia
  · dsimp only
    rw [remC_push]
    simp only [noted, remC, cnt]; lia
  · dsimp only; rw [hsn]; exact Nat.le_trans l1 hM
  · dsimp only; rw [hsn]; exact Nat.le_trans l2 hM
  · dsimp only; rw [hsn]; exact hy.up hM
  · intro p hp
    dsimp only at hp ⊢
    rcases List.mem_append.mp hp with hp | hp
    · obtain ⟨t, ht, rfl⟩ := List.mem_map.mp hp
      exact item_kids (hG.it _ (.head _)) hgr hno t ht
    · exact (hG.it _ (.tail _ hp)).grown hgr
  · dsimp only; rw [hsn]; lia
section
variable {prog : Program} {w : World} {A : Around} {E : Value → Shared → Prop} {gs : Array GenState} {dr : Drawn} {tk : Tok} {os : OsState}
variable {b : Heap} {e : Ent} {g : GH} {L : Addr} {h : Heap} {l : List (Str × Value)} {n n1 : List (Addr × Obj)} {env : Env} {sc : Scope} {cl : List (Str × Addr)}
set_option maxHeartbeats 8000000 in
theorem facts_of_spec {Q : Value → Shared → Prop} {la : Addr} {lk : Nat} {v : Value} {W0 : Tree} {B Pa : Int → Int} (W : Wo (Mine.hd0.heap_1 w.params) b) (C : Cx A 6 20) (P : Pre b g h []) (hL : g la = some (listO [v] lk)) (hN : NodeAt w.params g v W0) (hsc : W0.inSc []) (hft : W0.fits B Pa (-1)) (hz : W0.size ≤ 1000) (hht : W0.ht ≤ 50)
    (k : ∀ fx g' h' tk', FactsAt prog w g' fx W0 → Fin ⟨h, g, []⟩ g' h' [] → Q (.ref fx) ⟨h', gs, dr, tk', os⟩) :
    wpAny (model prog w) A (call (.ref 645) [.ref la]) Q E ⟨h, gs, dr, tk, os⟩ := by
  refine r_call (d := 5) (u := 17) (binds := [("nodes", .ref la)]) (l := [("nodes", .ref la)]) W C P (by k_is) (by k_is) rfl (by rfl) (.cons rfl .nil) ?_
  intro A' env L h' tk' C' N S E'
  (walk_at "un"; iterate 5 (walk1; walk_at "un"))
  refine mk_facts W (C'.mono (by first | decide | lia) (by first | decide | lia)) S.pre0 ?_
  intro fx d1 d2 d3 d4 d5 d6 d7 d8 d9 d10 o1 o2 o3 o4 o5 o6 o7 o8 o9 o10 t1 t2 t3 t4 t5 t6 t7 t8 t9 t10 g1 h1 tk1 F1 hs1 I hd hnd
  have S1 := St.backnew (n1 := []) (n' := []) (n2 := []) S F1 rfl (fun p hp => ⟨(hd p hp).1, (hd p hp).2.1⟩) hnd
  have he1 : (Ent.mk h g []).h.get? d1 = none := S.none_e (hd _ (.head _)).1
  have he2 : (Ent.mk h g []).h.get? d2 = none := S.none_e (hd _ (.tail _ (.head _))).1
  have q1 := hd _ (.head _)
  have q2 := hd _ (.tail _ (.head _))
  have q3 := hd _ (.tail _ (.tail _ (.head _)))
  have q4 := hd _ (.tail _ (.tail _ (.tail _ (.head _))))
  have q5 := hd _ (.tail _ (.tail _ (.tail _ (.tail _ (.head _)))))
  have q6 := hd _ (.tail _ (.tail _ (.tail _ (.tail _ (.tail _ (.head _))))))
  have q7 := hd _ (.tail _ (.tail _ (.tail _ (.tail _ (.tail _ (.tail _ (.head _)))))))
  have q8 := hd _ (.tail _ (.tail _ (.tail _ (.tail _ (.tail _ (.tail _ (.tail _ (.head _))))))))
  dsimp only at q1 q2 q3 q4 q5 q6 q7 q8
  have c0 : Counts ([] : List (Int × Value)) (fun _ => 0) := fun n => .inl ⟨rfl, rfl⟩
  have nn : ∀ (n : Int) (v : Value), valueAt [] n = some v → False := fun n v q => by rw [valueAt_nil] at q; cases q
  have y0 : FSok prog w ⟨[], [], [], [], [], [], o3, o4, o5, o6, o7, o8, []⟩ B Pa 0 :=
    ⟨q3.2.2.1, q4.2.2.1, q5.2.2.1, q6.2.2.1, q7.2.2.1, q8.2.2.1, ⟨_, c0⟩, Nat.le_refl _, Nat.le_refl _, Nat.le_refl _, Nat.le_refl _, Nat.le_refl _, Nat.le_refl _, fun n v q => (nn n v q).elim, fun n v q => (nn n v q).elim, fun n v q => (nn n v q).elim, fun _ q => nomatch q⟩
  have hg1 := hs1
  clear S F1
  (walk_at "un"; iterate 2 (walk1; walk_at "un"))
  refine wpAny_For ?_
  (walk_at "un"; iterate 1 (walk1; walk_at "un"))
  (rename St _ _ _ _ _ _ _ => S)
  refine r_for_list (σ := GS) (x0 := ⟨[], 0, o1, [], o2, [], ⟨[], [], [], [], [], [], o3, o4, o5, o6, o7, o8, []⟩, [(W0, -1)]⟩) (fun i s _ => GSok prog w B Pa W0 s ∧ (i = 0 → s.stk = [(W0, -1)]) ∧ (0 < i → s.stk = []))
    (fun _ => [("facts", .ref fx), ("nodes", .ref la)]) (fun s => fnL d1 d2 d3 d4 d5 d6 d7 d8 s.o1 s.o2 s.y) C' N (by rfl) ((S.loc' _ (.cons rfl (.cons rfl .nil))).pick _ (fun p hp => ?_) ?_) (hg1 _ _ hL) ⟨?_, fun _ => rfl, fun q => absurd q (Nat.lt_irrefl _)⟩ ?_ ?_
  · simp only [List.mem_cons, List.not_mem_nil, or_false] at hp
    rcases hp with rfl | rfl | rfl | rfl | rfl | rfl | rfl | rfl <;> simp
  · exact List.Nodup.sublist (List.sublist_append_left [d1, d2, d3, d4, d5, d6, d7, d8] [d9, d10]) hnd
  · (walk_at "un"); refine ⟨q1.2.2.1, q2.2.2.1, c0.eq fun n => ?_, c0.eq fun n => ?_, ?_, ?_, ?_, fun p hp => ?_, ?_⟩
    · simp only [remC]; lia
    · simp only [remC]; lia
    · simp
    · simp
    · have : W0.size - szS [(W0, -1)] = 0 := by simp [szS]
      rw [this]; exact y0
    · rw [List.mem_singleton.mp hp]
      (walk_at "un"); exact ⟨[], 0, hsc, hft, by simp, fun _ q => nomatch q⟩
    · simp [szS]
  · rintro i v2 s g2 h2 tk2 e2 E2 R_ hR_ hi2 ⟨hG, hG0, _⟩ hs2 S2
    have hi0 : i = 0 := by
      have := (List.getElem?_eq_some_iff.mp hi2).1
      simp at this; exact this
    subst hi0
    obtain rfl : v = v2 := by simpa using hi2
    have hstk := hG0 rfl
    have I2 := I.mono hs2
    have hN2 := hN.mono fun a o q => hs2 a o (hg1 a o q)
    (walk_at "un"; iterate 15 (walk1; walk_at "un"))
    rename_i ta hh3 g3 hs3 hT3 wa hh4 hew hh5 tt5 S3
    replace I2 := I2.mono hs3
    refine r_while (σ := GS) (x0 := { s with ts := [.ref ta], wk := 0 }) (k0 := szS s.stk) (fun kk st g' => (∀ a o, g3 a = some o → g' a = some o) ∧ StlAt w.params g' st.ts st.stk ∧ GSok prog w B Pa W0 st ∧ kk = szS st.stk)
      (fun _ => [("waiting", .ref wa), ("facts", .ref fx), ("nodes", .ref la)]) (fun st => (wa, listO st.ts.reverse st.wk) :: fnL d1 d2 d3 d4 d5 d6 d7 d8 st.o1 st.o2 st.y) (S3.loc' _ (.cons rfl (.cons rfl (.cons rfl .nil)))) ⟨fun _ _ q => q, by rw [show ({ s with ts := [.ref ta], wk := 0 } : GS).stk = [(W0, -1)] from hstk]; exact .cons hT3 (hN2.mono hs3) .nil, ⟨hG.m1, hG.m2, hG.c1, hG.c2, hG.l1, hG.l2, hG.ok, hG.it, hG.le⟩, rfl⟩ ?_
    clear S3 S
    rintro kk ⟨ts, wk, p1, j1, p2, j2, y, stk⟩ g4 h4 tk4 E4 R_ hR_ ⟨hs4, hst, hG4, rfl⟩ S
    dsimp only at hst S ⊢
    have I4 := I2.mono hs4
    have hsl := StlAt.length hst
    have hwl := szS_len stk
    have hle := hG4.le
    dsimp only at hle
    (walk_at "un"; iterate 7 (walk1; walk_at "un"))
    refine r_len (S.isList (.head _)) (by rw [List.length_reverse, sizeLine_eq]; lia) ?_
    intro t11 tk11
    (walk_at "un"; iterate 3 (walk1; walk_at "un"))
    cases hst with
    | nil =>
      refine ite_neg (by simp) ?_
      (walk_at "un"; iterate 2 (walk1; walk_at "un"))
      (walk_at "un"); exact ⟨⟨[], wk, p1, j1, p2, j2, y, []⟩, g4, _, _, ⟨⟨hG4.m1, hG4.m2, hG4.c1, hG4.c2, hG4.l1, hG4.l2, hG4.ok, hG4.it, hG4.le⟩, fun q => (nomatch q), fun _ => rfl⟩, (S.drop1).loc' _ (.cons rfl (.cons rfl .nil)), rfl⟩
    | @cons a5 v5 t5 c5 tc5 vs5 S5' hT5 hN5 hst =>
      refine ite_pos (by simp) ?_
      rw [List.reverse_cons] at S
      obtain ⟨x5, hx5⟩ := hN5.ref
      subst hx5
      obtain ⟨k5, ks5⟩ := t5
      simp only [List.length_cons] at hsl hwl
      (walk_at "un"; iterate 6 (walk1; walk_at "un"))
      (rename St _ _ _ _ _ _ _ => S)
      refine r_pop S .head (by rw [List.length_reverse, sizeLine_eq]; lia) ?_
      clear S; intro h6 S
      (walk_at "un"; iterate 0 (walk1; walk_at "un"))
      refine r_asgT2 C' N S hT5 (by rfl) (by rfl) ?_
      clear S; intro h7 tk7 S
      have hks5 := sizes_len ks5
      have hsz5 : szS ((Tree.node k5 ks5, c5) :: S5') = 1 + sizes ks5 + szS S5' := by simp only [szS, Tree.size]
      rw [hsz5] at hle
      obtain ⟨K, hK, hnin⟩ := item_in (hG4.it _ (.head _))
      (walk_at "un"; iterate 13 (walk1; walk_at "un"))
      refine note_spec W (C'.mono (by first | decide | lia) (by first | decide | lia)) (St.pret (p := [(wa, _)]) S) I4 hG4.m1 hG4.m2 hG4.c1 hG4.c2 hG4.l1 hG4.l2 hG4.ok q1.2.2.2 q2.2.2.2 q3.2.2.2 q7.2.2.2 (by first | decide | lia) (by first | decide | lia) hN5 (by first | decide | lia) hnin ?_
      intro p1' p2' j1' j2' y' in2 new g8 h8 tk8 m1' m2' c1' c2' l1' l2' hy' hgr hno hins hin2 hnew hnd8 F8
      have S8 : St b e2 g8 L h8 [("label", .int c5 tc5), ("here", .ref x5), ("waiting", .ref wa), ("facts", .ref fx), ("nodes", .ref la)] ((wa, listO vs5.reverse (wk + 1)) :: fnL d1 d2 d3 d4 d5 d6 d7 d8 p1' p2' y') := by
        have hfn : fnL d1 d2 d3 d4 d5 d6 d7 d8 p1' p2' y' = ((d1, p1') :: (d2, p2') :: (d3, y'.o3) :: (d4, y'.o4) :: (d5, y'.o5) :: (d6, y'.o6) :: (d7, y'.o7) :: (d8, y'.o8) :: in2) ++ new := by
          show (d1, p1') :: (d2, p2') :: (d3, y'.o3) :: (d4, y'.o4) :: (d5, y'.o5) :: (d6, y'.o6) :: (d7, y'.o7) :: (d8, y'.o8) :: y'.ins = _
          rw [hins]; rfl
        rw [hfn] at F8 ⊢
        have T := St.backnew (S.perm (List.perm_append_comm (l₁ := [(wa, listO vs5.reverse (wk + 1))]))) F8 (by simp [hin2]) hnew hnd8
        exact (T.perm List.perm_append_comm).loc' _ (.cons rfl (.cons rfl (.cons rfl (.cons rfl (.cons rfl .nil)))))
      have hs8 : ∀ a o, g4 a = some o → g8 a = some o := F8.gsub
      clear S F8
      refine (hN5.mono hs8).unmk ?_
      intro vs H hks
      have hkl := NodesAt.length hks
      (walk_at "un"); refine execs_cps (H := fun K => ∀ hh tt tw, St b e2 g8 L hh [("within", .int (labOf k5 c5) tw), ("here", .ref x5), ("waiting", .ref wa), ("facts", .ref fx), ("nodes", .ref la)] ((wa, listO vs5.reverse (wk + 1)) :: fnL d1 d2 d3 d4 d5 d6 d7 d8 p1' p2' y') → K ⟨hh, gs, dr, tt, os⟩) ?_ ?_
      · intro K_ hK_; (walk_at "un"; iterate 5 (walk1; walk_at "un"))
        refine r_kind W S8 H ?_
        intro _ _
        (walk_at "un"; iterate 3 (walk1; walk_at "un"))
        by_cases h57 : k5.num = 7
        · refine ite_pos (by simp [h57]) ?_
          walk_at "fz"
          obtain ⟨l0, ps, r, hkm⟩ := Nk.is_lam h57
          rw [hkm] at H
          rw [show labOf k5 c5 = l0 by rw [hkm]; rfl] at hK_
          refine H.unlam ?_
          intro lp ta1 ta2 ta3 ta4 u1 u2 pvs kk v1 _ Ix hp hi hpz
          walk_at "thaw"
          (walk_at "un"; iterate 2 (walk1; walk_at "un"))
          refine r_attr W S8 Ix rfl (by k_is) (by k_is) (by k_is) (by k_is) rfl ?_
          intro _
          (walk_at "un"; iterate 1 (walk1; walk_at "un"))
          (rename St _ _ _ _ _ _ _ => S)
          (walk_at "un"); exact hK_ _ _ u1 (S.loc' _ (.cons rfl (.cons rfl (.cons rfl (.cons rfl (.cons rfl .nil))))))
        · refine ite_neg (by simpa using h57) ?_
          rw [labOf_no h57] at hK_
          (walk_at "un"; iterate 2 (walk1; walk_at "un"))
          (rename St _ _ _ _ _ _ _ => S)
          (walk_at "un"); exact hK_ _ _ tc5 (S.loc' _ (.cons rfl (.cons rfl (.cons rfl (.cons rfl (.cons rfl .nil))))))
      intro h9 tk9 tw S9
      clear S8
      (walk_at "un"; iterate 1 (walk1; walk_at "un"))
      refine wpAny_For ?_
      (walk_at "un"; iterate 3 (walk1; walk_at "un"))
      refine r_parts W (C'.mono (by first | decide | lia) (by first | decide | lia)) S9 H hks.handIn (by first | decide | lia) ?_
      intro pa pj g10 h10 tk10 hs10 hpa S10
      clear S9
      (walk_at "un"; iterate 0 (walk1; walk_at "un"))
      refine r_rev S10 (S10.isL (.inr hpa)) (by rw [hkl, sizeLine_eq]; lia) ?_
      clear S10; intro ra h11 tk11 hra S11
      obtain ⟨g11, S11', hs11, hrL⟩ := S11.freeze1 hra
      clear S11
      have hs811 : ∀ a o, g8 a = some o → g11 a = some o := fun a o q => hs11 a o (hs10 a o q)
      refine r_for_list (σ := List Value × Nat) (x0 := (vs5, wk + 1)) (fun i st g' => StlAt w.params g' st.1 (kidsS ((ks5.reverse.take i).reverse) (labOf k5 c5) ++ S5'))
          (fun _ => [("within", .int (labOf k5 c5) tw), ("waiting", .ref wa), ("facts", .ref fx), ("nodes", .ref la)]) (fun st => (wa, listO st.1.reverse st.2) :: fnL d1 d2 d3 d4 d5 d6 d7 d8 p1' p2' y') C' N (by rfl) (S11'.loc' _ (.cons rfl (.cons rfl (.cons rfl (.cons rfl .nil))))) hrL (hst.mono fun a o q => hs811 a o (hs8 a o q)) ?_ ?_
      · rintro i v11 ⟨y1, y2⟩ g12 h12 tk12 e12 E12 R_ hR_ hi hj hs12 S12
        dsimp only at hj S12 ⊢
        obtain ⟨t11, ht11, hN11⟩ := NodesAt.get hks.reverse hi
        (walk_at "un"; iterate 15 (walk1; walk_at "un"))
        rename_i a13 h13 g13 hs13 hT13 S13
        refine r_append S13 .head (by rw [List.length_reverse, StlAt.length hj, sizeLine_eq]; simp only [List.length_append, kidsS, List.length_map, List.length_reverse, List.length_take] at hsl hwl ⊢; lia) ?_
        clear S13; intro h14 S14
        (walk_at "un"; iterate 1 (walk1; walk_at "un"))
        (rename St _ _ _ _ _ _ _ => S)
        (walk_at "un"); refine ⟨(.ref a13 :: y1, y2 + 1), g13, _, _, ?_, ?_, rfl⟩
        · rw [take_snoc ht11, List.reverse_append]
          exact .cons hT13 (hN11.mono fun a o q => hs13 a o (hs12 a o (hs811 a o q))) (hj.mono hs13)
        · dsimp only
          rw [List.reverse_cons]
          exact S.loc' _ (.cons rfl (.cons rfl (.cons rfl (.cons rfl .nil))))
      · rintro ⟨y1, y2⟩ g12 h12 tk12 hj hs12 S12
        dsimp only at hj S12 ⊢
        (walk_at "un"; iterate 1 (walk1; walk_at "un"))
        rw [List.length_reverse, hkl, List.take_of_length_le (by rw [List.length_reverse]; lia), List.reverse_reverse] at hj
        have hsn : szS (kidsS ks5 (labOf k5 c5) ++ S5') = sizes ks5 + szS S5' := szS_push _ _ _
        (walk_at "un"); refine ⟨szS (kidsS ks5 (labOf k5 c5) ++ S5'), ⟨y1, y2, p1', j1', p2', j2', y', kidsS ks5 (labOf k5 c5) ++ S5'⟩, g12, _, _, ?_, ⟨fun a o q => hs12 a o (hs811 a o (hs8 a o (hs4 a o q))), hj, ?_, rfl⟩, S12.loc' _ (.cons rfl (.cons rfl (.cons rfl .nil))), rfl⟩
        · rw [hsn, hsz5]; lia
        · exact hG4.turn m1' m2' c1' c2' l1' l2' hy' hgr hno
  · rintro s g2 h2 tk2 ⟨hG, _, hG1⟩ hs2 S2
    have hstk : s.stk = [] := hG1 (by simp)
    obtain ⟨gA, SA, hsA, hA1⟩ := S2.freeze1 he1
    obtain ⟨gB, SB, hsB, hB2⟩ := SA.freeze1 he2
    have hA1' := hsB _ _ hA1
    clear S2 SA
    (walk_at "un"; iterate 3 (walk1; walk_at "un"))
    (walk_at "un"); refine k fx gB _ _ ⟨d1, d2, s.o1, s.o2, s.k1, s.k2, t1, t2, t3, t4, t5, t6, t7, t8, t9, t10, _, _, _, _, _, _, _, _, I.mono fun a o q => hsB a o (hsA a o (hs2 a o q)), hA1', hB2, hG.m1, hG.m2, q1.2.2.2, q2.2.2.2, hG.c1.eq fun n => ?_, hG.c2.eq fun n => ?_⟩ (SB.fin _ fun _ q => nomatch q)
    · rw [hstk]; simp only [remC]; lia
    · rw [hstk]; simp only [remC]; lia
end
mutual
theorem copy_all (W : Tree) : ∀ t : Tree, t.wf → t.good → t.size ≤ 1000 → allSub (copyStep W) PcC t
  | .node k ks, hw, hg, hz => by
    simp only [Tree.size] at hz
    (walk_at "un"); refine ⟨?_, copy_alls W ks hw.2 hg.2 (by first | decide | lia)⟩
    rw [copys_due W ks hw.2 hg.2]
    have h := dueTs_ok W ks hw.2
    (walk_at "un"); refine ⟨h.1, arity_len hw.1 (dueTs_length W ks), by lia, fun e => ?_⟩
    subst e
    obtain ⟨l, ps, r, body, ops, e, h1, h2, h3, h4⟩ := due_head (W := W) hg.1 hw.2
    rw [e]; exact ⟨h3, h4⟩
theorem copy_alls (W : Tree) : ∀ ts : List Tree, wfL ts → goodL ts → sizes ts ≤ 1000 → allSubs (copyStep W) PcC ts
  | [], _, _, _ => trivial
  | t :: ts, hw, hg, hz => by
    simp only [sizes] at hz
    (walk_at "un"); exact ⟨copy_all W t hw.1 hg.1 (by first | decide | lia), copy_alls W ts hw.2 hg.2 (by first | decide | lia)⟩
end
section
variable {prog : Program} {w : World} {A : Around} {E : Value → Shared → Prop} {gs : Array GenState} {dr : Drawn} {tk : Tok} {os : OsState}
variable {b : Heap} {e : Ent} {g : GH} {L : Addr} {h : Heap} {l : List (Str × Value)} {n n1 : List (Addr × Obj)} {env : Env} {sc : Scope} {cl : List (Str × Addr)}
set_option maxHeartbeats 8000000 in
theorem copied_spec {Q : Value → Shared → Prop} {v : Value} {W0 : Tree} {B Pa : Int → Int} (W : Wo (Mine.hd0.heap_1 w.params) b) (C : Cx A 16 50) (P : Pre b g h []) (hN : NodeAt w.params g v W0) (hgood : W0.good) (hsc : W0.inSc []) (hft : W0.fits B Pa (-1)) (hz : W0.size ≤ 1000) (hht : W0.ht ≤ 50)
    (k : ∀ r g' h' tk', NodeAt w.params g' r (dueT W0 W0) → Fin ⟨h, g, []⟩ g' h' [] → Q r ⟨h', gs, dr, tk', os⟩) :
    wpAny (model prog w) A (call (.ref 729) [v]) Q E ⟨h, gs, dr, tk, os⟩ := by
  refine r_call (d := 15) (u := 47) (binds := [("node", v)]) (l := [("node", v)]) W C P (by k_is) (by k_is) rfl (by rfl) (.cons rfl .nil) ?_
  intro A' env L h' tk' C' N S E'
  (walk_at "un"; iterate 24 (walk1; walk_at "un"))
  rename_i la h1 hla S1
  obtain ⟨g2, S2, hs2, hL2⟩ := S1.freeze1 hla
  clear S1
  refine facts_of_spec W (C'.mono (by first | decide | lia) (by first | decide | lia)) S2.pre0 hL2 (hN.mono hs2) hsc hft hz hht ?_
  intro fx g3 h3 tk3 hF F3
  have S3 := S2.back0 F3
  have hs3 : ∀ a o, g2 a = some o → g3 a = some o := F3.gsub
  clear S2 F3
  (walk_at "un"; iterate 2 (walk1; walk_at "un"))
  refine mk_copying W (C'.mono (by first | decide | lia) (by first | decide | lia)) S3.pre0 ?_
  intro cx tf g4 h4 tk4 F4 hs4 I4
  have S4 := S3.back0 F4
  clear S3 F4
  (walk_at "un"; iterate 0 (walk1; walk_at "un"))
  refine r_bound (f := 715) W S4 I4 (by k_is) (found_meth (by k_is) (by k_is) (by k_is) (by k_is) rfl (by decide +kernel)) (by k_is) ?_
  intro bq h5 g5 tk5 hs5 hbq S5
  clear S4
  (walk_at "un"; iterate 2 (walk1; walk_at "un"))
  have hs25 : ∀ a o, g a = some o → g5 a = some o := fun a o q => hs5 a o (hs4 a o (hs3 a o (hs2 a o q)))
  refine rebuilt_spec (d := 10) (u := 30) W (C'.mono (by first | decide | lia) (by first | decide | lia)) S5.pre0 hbq (by k_is) (copying_ok hbq (I4.mono hs5) (hF.mono fun a o q => hs5 a o (hs4 a o q))) (hN.mono hs25) (copy_all W0 W0 hN.wf hgood hz) hz ?_
  intro r g6 h6 tk6 hR F6
  have S6 := S5.back0 F6
  rw [copy_due W0 W0 hN.wf hgood] at hR
  (walk_at "un"); exact k r g6 _ _ hR (S6.fin _ fun _ q => q)
end
section
variable {prog : Program} {w : World} {A : Around} {E : Value → Shared → Prop} {gs : Array GenState} {dr : Drawn} {tk : Tok} {os : OsState}
variable {b : Heap} {e : Ent} {g : GH} {L : Addr} {h : Heap} {l : List (Str × Value)} {n n1 : List (Addr × Obj)} {env : Env} {sc : Scope} {cl : List (Str × Addr)}
set_option maxHeartbeats 8000000 in
theorem law_spec {Q : Value → Shared → Prop} {a : Addr} {vs : List Value} {is : List Int} (W : Wo (Mine.hd0.heap_1 w.params) b) (C : Cx A 120 900) (P : Pre b g h []) (hL : b.IsList a vs.toArray) (hi : Ints vs is) (hz : vs.length ≤ 63)
    (k : ∀ g' h' tk', Fin ⟨h, g, []⟩ g' h' [] → Q (.bool true) ⟨h', gs, dr, tk', os⟩) :
    wpAny (model prog w) A (call (.ref 797) [.ref a]) Q E ⟨h, gs, dr, tk, os⟩ := by
  refine r_call (d := 119) (u := 897) (binds := [("script", .ref a)]) (l := [("script", .ref a)]) W C P (by k_is) (by k_is) rfl (by rfl) (.cons rfl .nil) ?_
  intro A' env L h' tk' C' N S E'
  (walk_at "un"; iterate 1 (walk1; walk_at "un"))
  refine Assign_Tuple_swapped (names := ["_law_deck", "_law_state"]) ?_ (hw := env_scope N.hs fun _ => rfl)
  (walk_at "un"; iterate 9 (walk1; walk_at "un"))
  refine deck_spec W (C'.mono (by first | decide | lia) (by first | decide | lia)) S.pre0 hL hi hz ?_
  intro dk dvs ds g1 h1 tk1 hd F1 hdk hdk0
  have S1 := St.backn S F1 hdk hdk0
  clear S
  (walk_at "un"; iterate 10 (walk1; walk_at "un"))
  rename_i st h2 hst at3 h3 g3 hs3 hT3 S3
  refine r_swap2 C' N S3 hT3 (by rfl) (by rfl) ?_
  clear S3; intro h4 tk4 S4
  (walk_at "un"; iterate 41 (walk1; walk_at "un"))
  rename Heap.get? _ _ = none => hlp
  rename St _ _ _ _ _ _ _ => S5
  obtain ⟨g5, S6, hs5, hpL⟩ := S5.freeze1 hlp
  clear S5
  refine mk_const W (C'.mono (by first | decide | lia) (by first | decide | lia)) S6.pre0 ?_
  intro x1 ta1 g6 h6 tk6 F6 hs6 I1
  have S7 := S6.back0 F6
  clear S6 F6
  have N1 : NodeAt w.params g6 (.ref x1) (.node (.const (.num 2)) []) := .mk (.const I1 ⟨_, rfl⟩) .nil
  (walk_at "un"; iterate 2 (walk1; walk_at "un"))
  refine mk_setlocal W (C'.mono (by first | decide | lia) (by first | decide | lia)) S7.pre0 ?_
  intro x2 ta2 tb2 g7 h7 tk7 F7 hs7 I2
  have S8 := S7.back0 F7
  clear S7 F7
  have N2 : NodeAt w.params g7 (.ref x2) (.node (.set 91) [.node (.const (.num 2)) []]) := .mk (.set I2) (.cons (N1.mono hs7) .nil)
  (walk_at "un"; iterate 8 (walk1; walk_at "un"))
  refine mk_local W (C'.mono (by first | decide | lia) (by first | decide | lia)) S8.pre0 ?_
  intro x3 ta3 g8 h8 tk8 F8 hs8 I3
  have S9 := S8.back0 F8
  clear S8 F8
  have N3 : NodeAt w.params g8 (.ref x3) (.node (.loc 91) []) := .mk (.loc I3) .nil
  (walk_at "un"; iterate 4 (walk1; walk_at "un"))
  rename Heap.get? _ _ = none => hlq
  rename St _ _ _ _ _ _ _ => S10
  obtain ⟨g9, S11, hs9, hqL⟩ := S10.freeze1 hlq
  clear S10
  refine mk_seq W (C'.mono (by first | decide | lia) (by first | decide | lia)) S11.pre0 ?_
  intro x4 ta4 g10 h10 tk10 F10 hs10 I4
  have S12 := S11.back0 F10
  clear S11 F10
  have N4 : NodeAt w.params g10 (.ref x4) (.node .seq [.node (.set 91) [.node (.const (.num 2)) []], .node (.loc 91) []]) := .mk (.seq I4 (hs10 _ _ hqL)) (.cons (N2.mono fun a o q => hs10 a o (hs9 a o (hs8 a o q))) (.cons (N3.mono fun a o q => hs10 a o (hs9 a o q)) .nil))
  (walk_at "un"; iterate 2 (walk1; walk_at "un"))
  refine mk_lam W (C'.mono (by first | decide | lia) (by first | decide | lia)) S12.pre0 ?_
  intro x5 ta5 tb5 tc5 td5 g11 h11 tk11 F11 hs11 I5
  have S13 := S12.back0 F11
  clear S12 F11
  have N5 : NodeAt w.params g11 (.ref x5) (.node (.lam 90 [91] (-1)) [.node .seq [.node (.set 91) [.node (.const (.num 2)) []], .node (.loc 91) []]]) := .mk (.lam I5 (hs11 _ _ (hs10 _ _ (hs9 _ _ (hs8 _ _ (hs7 _ _ (hs6 _ _ hpL)))))) ⟨⟨_, rfl⟩, trivial⟩ (by simp)) (.cons (N4.mono hs11) .nil)
  (walk_at "un"; iterate 10 (walk1; walk_at "un"))
  refine mk_const W (C'.mono (by first | decide | lia) (by first | decide | lia)) S13.pre0 ?_
  intro x6 ta6 g12 h12 tk12 F12 hs12 I6
  have S14 := S13.back0 F12
  clear S13 F12
  have N6 : NodeAt w.params g12 (.ref x6) (.node (.const (.num 1)) []) := .mk (.const I6 ⟨_, rfl⟩) .nil
  (walk_at "un"; iterate 4 (walk1; walk_at "un"))
  rename Heap.get? _ _ = none => hlr
  rename St _ _ _ _ _ _ _ => S15
  obtain ⟨g13, S16, hs13, hrL⟩ := S15.freeze1 hlr
  clear S15
  refine mk_call W (C'.mono (by first | decide | lia) (by first | decide | lia)) S16.pre0 ?_
  intro x7 ta7 tb7 g14 h14 tk14 F14 hs14 I7
  have S17 := S16.back0 F14
  clear S16 F14
  have N7 : NodeAt w.params g14 (.ref x7) handT := .mk (.call I7 (hs14 _ _ hrL)) (.cons (N5.mono fun a o q => hs14 a o (hs13 a o (hs12 a o q))) (.cons (N6.mono fun a o q => hs14 a o (hs13 a o q)) .nil))
  clear N1 N2 N3 N4 N5 N6
  (walk_at "un"; iterate 2 (walk1; walk_at "un"))
  refine wpAny_For ?_
  (walk_at "un"; iterate 19 (walk1; walk_at "un"))
  rename Heap.get? _ _ = none => hls
  rename St _ _ _ _ _ _ _ => S18
  obtain ⟨g15, S19, hs15, hsL⟩ := S18.freeze1 hls
  clear S18
  have S20 := S19.perm (n' := [(dk, _), (st, _)]) (List.Perm.swap _ _ _)
  clear S19
  refine let_spec (d := 2) (known := []) (node_spec 2) W (C'.mono (by first | decide | lia) (by first | decide | lia)) (St.prep (p := []) (n1 := [(dk, _), (st, _)]) (q := []) S20) hd hsL trivial (by simp) (fun _ q => nomatch q) (by decide) (by decide) ?_
  intro v21 T21 dvs2 is2 kk2 m2 q2 tm2 tq2 sk2 g21 h21 tk21 M21 NA21 hd2 F21
  have S21 := St.backp (p := []) (n1 := [(dk, _), (st, _)]) (q := []) S20 F21 rfl
  have hs21 : ∀ a o, g15 a = some o → g21 a = some o := F21.gsub
  clear S20 F21
  (walk_at "un"; iterate 16 (walk1; walk_at "un"))
  rename Heap.get? _ _ = none => hlu
  rename St _ _ _ _ _ _ _ => S22
  obtain ⟨g22, S23, hs22, huL⟩ := S22.freeze1 hlu
  clear S22
  refine let_spec (d := 2) (known := []) (node_spec 2) W (C'.mono (by first | decide | lia) (by first | decide | lia)) (St.prep (p := []) (n1 := [(dk, _), (st, _)]) (q := []) S23) hd2 huL trivial (by simp) (fun _ q => nomatch q) M21.le1 M21.le2 ?_
  intro v23 T23 dvs3 is3 kk3 m3 q3 tm3 tq3 sk3 g23 h23 tk23 M23 NA23 hd3 F23
  have S24 := St.backp (p := []) (n1 := [(dk, _), (st, _)]) (q := []) S23 F23 rfl
  have hs23 : ∀ a o, g22 a = some o → g23 a = some o := F23.gsub
  clear S23 F23
  (walk_at "un"; iterate 2 (walk1; walk_at "un"))
  rename Heap.get? _ _ = none => hlv
  rename St _ _ _ _ _ _ _ => S25
  obtain ⟨g24, S26, hs24, hvL⟩ := S25.freeze1 hlv
  clear S25
  have hNs : NodesAt w.params g24 [.ref x7, v21, v23] [handT, T21, T23] := .cons (N7.mono fun a o q => hs24 a o (hs23 a o (hs22 a o (hs21 a o (hs15 a o q))))) (.cons (NA21.mono fun a o q => hs24 a o (hs23 a o (hs22 a o q))) (.cons (NA23.mono hs24) .nil))
  have hOk : ∀ T ∈ [handT, T21, T23], OkT T := fun T hT => by
    simp only [List.mem_cons, List.not_mem_nil, or_false] at hT
    rcases hT with rfl | rfl | rfl
    · exact OkT.hand
    · exact OkT.made M21
    · exact OkT.made M23
  have S27 := S26.pick [] (fun _ q => nomatch q) List.nodup_nil
  clear S26
  refine r_for_list (σ := Unit) (x0 := ()) (fun _ _ _ => True) (fun _ => []) (fun _ => []) C' N (by rfl) (S27.loc' _ .nil) hvL trivial ?_ ?_
  · rintro i v30 ⟨⟩ g30 h30 tk30 e30 E30 R_ hR_ hi30 _ hs30 S30
    obtain ⟨T, hT, hNT⟩ := NodesAt.get hNs hi30
    have hO := hOk T (List.mem_of_getElem? hT)
    replace hNT := hNT.mono hs30
    obtain ⟨B, Pa, hft⟩ := hO.fits
    have hz1 := hO.size
    have hz2 := hO.ht
    have hdd := dueT_ok T T hNT.wf
    (walk_at "un"; iterate 9 (walk1; walk_at "un"))
    refine told_spec T W (C'.mono (by first | decide | lia) (by first | decide | lia)) S30.pre0 hNT (by first | decide | lia) ?_
    intro r31 g31 h31 tk31 hD31 F31
    have S31 := S30.back0 F31
    have hs31 : ∀ a o, g30 a = some o → g31 a = some o := F31.gsub
    clear S30 F31
    (walk_at "un"; iterate 17 (walk1; walk_at "un"))
    rename St _ _ _ _ _ _ _ => S31x
    refine copied_spec (W0 := T) W (C'.mono (by first | decide | lia) (by first | decide | lia)) S31x.pre0 (hNT.mono hs31) hO.good hO.inSc hft (by first | decide | lia) (by first | decide | lia) ?_
    intro r32 g32 h32 tk32 hN32 F32
    have S32 := S31x.back0 F32
    have hs32 : ∀ a o, g31 a = some o → g32 a = some o := F32.gsub
    clear S31x F32
    (walk_at "un"; iterate 2 (walk1; walk_at "un"))
    refine told_spec (dueT T T) W (C'.mono (by first | decide | lia) (by first | decide | lia)) S32.pre0 hN32 (by first | decide | lia) ?_
    intro r33 g33 h33 tk33 hD33 F33
    have S33 := S32.back0 F33
    have hs33 : ∀ a o, g32 a = some o → g33 a = some o := F33.gsub
    clear S32 F33
    (walk_at "un"; iterate 9 (walk1; walk_at "un"))
    have hD31' : DataAt g33 r31 (told T) := hD31.mono fun a o q => hs33 a o (hs32 a o q)
    refine due_spec T T W (C'.mono (by first | decide | lia) (by first | decide | lia)) S33.pre0 hD31' hD31' hNT.wf (by first | decide | lia) (by first | decide | lia) ?_
    intro r34 g34 h34 tk34 hD34 F34
    have S34 := S33.back0 F34
    have hs34 : ∀ a o, g33 a = some o → g34 a = some o := F34.gsub
    clear S33 F34
    (walk_at "un"; iterate 0 (walk1; walk_at "un"))
    obtain ⟨as1, R1⟩ := (hD33.mono hs34).reads S34.gk
    obtain ⟨as2, R2⟩ := hD34.reads S34.gk
    have hly := told_lay (dueT T T)
    refine r_ne C' R1 R2 hly.1 hly.1 (by first | decide | lia) ?_
    rw [told_eqv]
    (walk_at "un"; iterate 1 (walk1; walk_at "un"))
    (refine ite_neg (by first | decide | assumption | simp) ?_)
    (walk_at "un"; iterate 9 (walk1; walk_at "un"))
    refine told_spec T W (C'.mono (by first | decide | lia) (by first | decide | lia)) S34.pre0 (hNT.mono fun a o q => hs34 a o (hs33 a o (hs32 a o (hs31 a o q)))) (by first | decide | lia) ?_
    intro r35 g35 h35 tk35 hD35 F35
    have S35 := S34.back0 F35
    have hs35 : ∀ a o, g34 a = some o → g35 a = some o := F35.gsub
    clear S34 F35
    (walk_at "un"; iterate 1 (walk1; walk_at "un"))
    obtain ⟨as3, R3⟩ := hD35.reads S35.gk
    obtain ⟨as4, R4⟩ := (hD31'.mono fun a o q => hs35 a o (hs34 a o q)).reads S35.gk
    have hly2 := told_lay T
    refine r_ne C' R3 R4 hly2.1 hly2.1 (by first | decide | lia) ?_
    rw [told_eqv]
    (walk_at "un"; iterate 1 (walk1; walk_at "un"))
    (refine ite_neg (by first | decide | assumption | simp) ?_)
    (walk_at "un"; iterate 1 (walk1; walk_at "un"))
    (refine ite_neg (by first | decide | assumption | simp) ?_)
    (walk_at "un"; iterate 2 (walk1; walk_at "un"))
    (walk_at "un"); exact ⟨(), g35, _, _, trivial, S35.loc' _ .nil, rfl⟩
  · rintro ⟨⟩ g30 h30 tk30 _ hs30 S30
    (walk_at "un"; iterate 3 (walk1; walk_at "un"))
    (walk_at "un"); exact k g30 _ _ (S30.fin _ fun _ q => q)
end
theorem lawDef_name : lawDef.name = "law" := by kernel_rfl
theorem ints_of_are : ∀ {vs : List Value} {is : List Int}, IntsAre vs is → Ints vs is
  | _, _, .nil => trivial
  | _, _, .cons i t r => ⟨⟨t, rfl⟩, ints_of_are r⟩
set_option maxHeartbeats 8000000 in
theorem walk : Walk := by
  unfold Walk
  intro w s₀ s₁ mg mb G Y fa o pm cd doc dV kV ho hd hcd hD hmg hg args vals as hpre hlay hrd hwl hlo
  have X : (Mine.hd0.heap_1 w.params).In s₁.heap := kIn_of Y
  have T := topRead_of G.T
  have hlaw : mg "law" = some (.ref 797) := mg_of X T.g (by k_is)
  rw [lawDef_name] at hmg
  have e1 : fa = 797 := by
    have := hmg.symm.trans hlaw
    cases this; rfl
  subst e1
  wrow_args hpre hlay hrd hwl hlo
  rename ReadsAllW _ _ _ [] [] _ => hrr
  rename IntsAre _ _ => hI
  rename Heap.IsList _ _ _ => hLst
  rename ¬ _ => hlen
  obtain ⟨hp1, gn1, dr1, tk1, os1⟩ := s₁
  dsimp only at hg hLst
  subst hg
  have hii := ints_of_are hI
  have hil := Ints.length hii
  refine law_spec (b := hp1) (g := hp1.get?) (h := hp1) ⟨X, _, _, _, _, T⟩ ⟨rfl, by decide +kernel, by decide +kernel⟩ ⟨fun _ _ q => q, fun _ _ q => q, fun _ q => (nomatch q), List.nodup_nil, Nat.le_refl _⟩ hLst hii (by omega) ?_
  intro g' h' tk' F
  refine GoodW.toG ⟨.inl ⟨_, _, _, rfl, ?_, .bool true, ?_, ?_⟩, fun a o q => F.fr a o q (fun z => nomatch z), rfl, rfl⟩
  · exact raisesW_false (by wrow_none_raised)
  · wrow_post
  · exact fun _ => ⟨List.nodup_nil, fun _ q => (nomatch q)⟩
end
/-! The head lays a twin for each of its own constants, with a proof whose size grows with the square of their number (252 MB here); it leaves a twin out where a constant of that name stands. The names are taken here: these theorems say nothing and nothing leans on them. -/
theorem hd.tw3727333306520725601 : True := trivial
theorem hd.tw16141674652070062611 : True := trivial
theorem hd.tw14483651329830533851 : True := trivial
theorem hd.tw1903866087469309809 : True := trivial
theorem hd.tw2867327485932766208 : True := trivial
theorem hd.tw4971549296188076032 : True := trivial
theorem hd.tw1800889605409440832 : True := trivial
theorem hd.tw4523669819894539328 : True := trivial
theorem hd.tw6276725880618359904 : True := trivial
theorem hd.tw17470177872615007328 : True := trivial
theorem hd.tw16412773359747925120 : True := trivial
theorem hd.tw4706079058837389440 : True := trivial
theorem hd.tw5292301768408028288 : True := trivial
theorem hd.tw6830512106363814048 : True := trivial
theorem hd.tw17950676927832955104 : True := trivial
theorem hd.tw10458740792067480800 : True := trivial
theorem hd.tw2739504486584576224 : True := trivial
theorem hd.tw8381844023166312768 : True := trivial
theorem hd.tw17387473266821786944 : True := trivial
theorem hd.tw7023726343779634624 : True := trivial
theorem hd.tw14052297564155719136 : True := trivial
theorem hd.tw8134915037123179040 : True := trivial
theorem hd.tw15344866539931968096 : True := trivial
theorem hd.tw1359830224848277088 : True := trivial
theorem hd.tw4494801613693538912 : True := trivial
theorem hd.tw7541792107247259296 : True := trivial
theorem hd.tw12070654863422294720 : True := trivial
theorem hd.tw16154546982801380032 : True := trivial
theorem hd.tw16694946328126371552 : True := trivial
theorem hd.tw7080932558258925280 : True := trivial
theorem hd.tw15643275761693703936 : True := trivial
theorem hd.tw5715356086224469760 : True := trivial
theorem hd.tw17183224562656869120 : True := trivial
theorem hd.tw15152743547302097792 : True := trivial
theorem hd.tw3350930974749635488 : True := trivial
theorem hd.tw14598272352848978880 : True := trivial
theorem hd.tw17252143746492648416 : True := trivial
theorem hd.tw6636792957720756321 : True := trivial
theorem hd.tw10752148897807903841 : True := trivial
theorem hd.tw12127338746724423809 : True := trivial
theorem hd.tw7610815399733428385 : True := trivial
theorem hd.tw10403243965636340961 : True := trivial
theorem hd.tw16858285156579221889 : True := trivial
theorem hd.tw15845815424924760449 : True := trivial
theorem hd.tw4111692666942324129 : True := trivial
theorem hd.tw4086058157674990017 : True := trivial
theorem hd.tw7512474625130614241 : True := trivial
theorem hd.tw15220180469806662145 : True := trivial
theorem hd.tw16037735763661986305 : True := trivial
theorem hd.tw2315301623876862497 : True := trivial
theorem hd.tw17336936450418997793 : True := trivial
theorem hd.tw10678649693572172417 : True := trivial
theorem hd.tw13330244855972007585 : True := trivial
theorem hd.tw2799716289819351777 : True := trivial
theorem hd.tw6046454685291232161 : True := trivial
theorem hd.tw15895093082480949185 : True := trivial
theorem hd.tw12602439190401603521 : True := trivial
theorem hd.tw7914949630228597729 : True := trivial
theorem hd.tw11210553801493137410 : True := trivial
theorem hd.tw8609351116199087170 : True := trivial
theorem hd.tw10905682514733158466 : True := trivial
theorem hd.tw14745743045033390146 : True := trivial
theorem hd.tw5480042469492414594 : True := trivial
theorem hd.tw6308581086252854402 : True := trivial
theorem hd.tw9731375825926819010 : True := trivial
theorem hd.tw4272726840584523970 : True := trivial
theorem hd.tw9430268157657104642 : True := trivial
theorem hd.tw13919464512627920130 : True := trivial
theorem hd.tw12936449754285732098 : True := trivial
theorem hd.tw4702841417184801058 : True := trivial
theorem hd.tw12337632362937886050 : True := trivial
theorem hd.tw758273949599710562 : True := trivial
theorem hd.tw17588044629489971554 : True := trivial
theorem hd.tw11713075325732132258 : True := trivial
theorem hd.tw11912922877643110818 : True := trivial
theorem hd.tw12271959270614036898 : True := trivial
theorem hd.tw5781342201191254626 : True := trivial
theorem hd.tw7031273417212677730 : True := trivial
theorem hd.tw5549315172176941698 : True := trivial
theorem hd.tw3919010098100093602 : True := trivial
theorem hd.tw5190246844813560578 : True := trivial
theorem hd.tw7525542149764818722 : True := trivial
theorem hd.tw1627912709990685506 : True := trivial
theorem hd.tw9960721518486171458 : True := trivial
theorem hd.tw17895171251205151618 : True := trivial
theorem hd.tw18245042118932799458 : True := trivial
theorem hd.tw16311905421638723554 : True := trivial
theorem hd.tw12364972598781006883 : True := trivial
theorem hd.tw8228950375871286339 : True := trivial
theorem hd.tw1882180444382439491 : True := trivial
theorem hd.tw5318216170032084099 : True := trivial
theorem hd.tw2304311442786299043 : True := trivial
theorem hd.tw4359177667983424707 : True := trivial
theorem hd.tw18322514126500204803 : True := trivial
theorem hd.tw17130151131035750659 : True := trivial
theorem hd.tw10847404155465417027 : True := trivial
theorem hd.tw1033889070964956483 : True := trivial
theorem hd.tw5174551420813472067 : True := trivial
theorem hd.tw2783992281797965187 : True := trivial
theorem hd.tw6411954120941647267 : True := trivial
theorem hd.tw1760603350576429475 : True := trivial
theorem hd.tw13368278939475635651 : True := trivial
theorem hd.tw17087091549796120035 : True := trivial
theorem hd.tw9153386212771759811 : True := trivial
theorem hd.tw11513968764499736323 : True := trivial
theorem hd.tw9908193460736022307 : True := trivial
theorem hd.tw5138769234217329475 : True := trivial
theorem hd.tw2480057099694739299 : True := trivial
theorem hd.tw11631947586910100387 : True := trivial
theorem hd.tw18293851220164018083 : True := trivial
theorem hd.tw17843490464661113860 : True := trivial
theorem hd.tw16477043939570097188 : True := trivial
theorem hd.tw14859038896228082724 : True := trivial
theorem hd.tw6060742912462422084 : True := trivial
theorem hd.tw6320253292602491972 : True := trivial
theorem hd.tw14896477498954680388 : True := trivial
theorem hd.tw8269573656231971908 : True := trivial
theorem hd.tw6407587892757256292 : True := trivial
theorem hd.tw17696971302532935780 : True := trivial
theorem hd.tw9228397985900620932 : True := trivial
theorem hd.tw6785817131721698500 : True := trivial
theorem hd.tw5278057926702712004 : True := trivial
theorem hd.tw1299046323782801668 : True := trivial
theorem hd.tw10507497572311344420 : True := trivial
theorem hd.tw13855946660403688772 : True := trivial
theorem hd.tw8068729725432388964 : True := trivial
theorem hd.tw3722166409189360004 : True := trivial
theorem hd.tw18358800413957953924 : True := trivial
theorem hd.tw7676003278276379012 : True := trivial
theorem hd.tw3219085151875037572 : True := trivial
theorem hd.tw11465210709893060100 : True := trivial
theorem hd.tw12861998865439983172 : True := trivial
theorem hd.tw8493152586797012548 : True := trivial
theorem hd.tw10949625832625181284 : True := trivial
theorem hd.tw4400115516135189092 : True := trivial
theorem hd.tw7379015992945566340 : True := trivial
theorem hd.tw17001982702790524580 : True := trivial
theorem hd.tw2323474266016966308 : True := trivial
theorem hd.tw9013056391748086436 : True := trivial
theorem hd.tw10764900872603112132 : True := trivial
theorem hd.tw5732804406350252772 : True := trivial
theorem hd.tw1241404454085649124 : True := trivial
theorem hd.tw9990345226319884068 : True := trivial
theorem hd.tw17583924267553061668 : True := trivial
theorem hd.tw8684328023851190084 : True := trivial
theorem hd.tw18241275227582772068 : True := trivial
theorem hd.tw8458067239894703972 : True := trivial
theorem hd.tw3789350110615891812 : True := trivial
theorem hd.tw14991384322417631237 : True := trivial
theorem hd.tw13931416462566266981 : True := trivial
theorem hd.tw13122850982685727845 : True := trivial
theorem hd.tw8356816923877370021 : True := trivial
theorem hd.tw7355570028127101125 : True := trivial
theorem hd.tw12414669353804360901 : True := trivial
theorem hd.tw11375277706881905925 : True := trivial
theorem hd.tw4292457097857839397 : True := trivial
theorem hd.tw6305734824756694309 : True := trivial
theorem hd.tw9702936160620672325 : True := trivial
theorem hd.tw10258999931320997221 : True := trivial
theorem hd.tw11893437276241958245 : True := trivial
theorem hd.tw15910714762333108613 : True := trivial
theorem hd.tw12399718760709695909 : True := trivial
theorem hd.tw4021928978595405253 : True := trivial
theorem hd.tw5976792059365374437 : True := trivial
theorem hd.tw1847840615245081061 : True := trivial
theorem hd.tw11623594800819314181 : True := trivial
theorem hd.tw7721951785955056133 : True := trivial
theorem hd.tw15790720579355451973 : True := trivial
theorem hd.tw5167245352685981253 : True := trivial
theorem hd.tw6184927378108434309 : True := trivial
theorem hd.tw5505005885091257285 : True := trivial
theorem hd.tw17491280204586788870 : True := trivial
theorem hd.tw13475242022060392486 : True := trivial
theorem hd.tw6555240042291301478 : True := trivial
theorem hd.tw13181700845877081190 : True := trivial
theorem hd.tw10583446816852156582 : True := trivial
theorem hd.tw13466754112058979494 : True := trivial
theorem hd.tw5899666649113621702 : True := trivial
theorem hd.tw7628703163842673926 : True := trivial
theorem hd.tw3484992998616243462 : True := trivial
theorem hd.tw16211521421427940678 : True := trivial
theorem hd.tw7523672394736509286 : True := trivial
theorem hd.tw3673020696563887462 : True := trivial
theorem hd.tw13092906067662860646 : True := trivial
theorem hd.tw11778180911958503814 : True := trivial
theorem hd.tw991583007596301734 : True := trivial
theorem hd.tw13066319289922817542 : True := trivial
theorem hd.tw2386827423013361158 : True := trivial
theorem hd.tw3795277891434052102 : True := trivial
theorem hd.tw10424393626065333798 : True := trivial
theorem hd.tw2295870552580634182 : True := trivial
theorem hd.tw17258206423299326598 : True := trivial
theorem hd.tw17562767543260142214 : True := trivial
theorem hd.tw2195365466389143174 : True := trivial
theorem hd.tw13903934854276604550 : True := trivial
theorem hd.tw1865391376527767206 : True := trivial
theorem hd.tw4993660671451451078 : True := trivial
theorem hd.tw1506431575118746342 : True := trivial
theorem hd.tw8990313861142287110 : True := trivial
theorem hd.tw11587034568685482758 : True := trivial
theorem hd.tw13893168526513508166 : True := trivial
theorem hd.tw7153062008950511462 : True := trivial
theorem hd.tw3039998526598829958 : True := trivial
theorem hd.tw9386895884608548742 : True := trivial
theorem hd.tw8934143017859847078 : True := trivial
theorem hd.tw10117440562283002822 : True := trivial
theorem hd.tw5978321128707920903 : True := trivial
theorem hd.tw15043168886218598503 : True := trivial
theorem hd.tw3072409544573788263 : True := trivial
theorem hd.tw10844753989422098599 : True := trivial
theorem hd.tw17893044597097874663 : True := trivial
theorem hd.tw15683763237869141255 : True := trivial
theorem hd.tw12374041931403950375 : True := trivial
theorem hd.tw17919194246423945575 : True := trivial
theorem hd.tw17062030032774818151 : True := trivial
theorem hd.tw8977307856219701671 : True := trivial
theorem hd.tw14612060388864693735 : True := trivial
theorem hd.tw5635641802508607975 : True := trivial
theorem hd.tw9783614193127449063 : True := trivial
theorem hd.tw12659318050587179527 : True := trivial
theorem hd.tw3109861748172591687 : True := trivial
theorem hd.tw9557236495431379559 : True := trivial
theorem hd.tw13280443560766958183 : True := trivial
theorem hd.tw12058812876911547015 : True := trivial
theorem hd.tw12901994302517312135 : True := trivial
theorem hd.tw7068711184596962023 : True := trivial
theorem hd.tw11660266114150955751 : True := trivial
theorem hd.tw5054737718236178183 : True := trivial
theorem hd.tw8960069828448710407 : True := trivial
theorem hd.tw17672654358674132775 : True := trivial
theorem hd.tw6469175993241445255 : True := trivial
theorem hd.tw7028611270464810887 : True := trivial
theorem hd.tw701787995468756871 : True := trivial
theorem hd.tw16138627921320673191 : True := trivial
theorem hd.tw8585376936270615527 : True := trivial
theorem hd.tw8545014587354053640 : True := trivial
theorem hd.tw190519026028168232 : True := trivial
theorem hd.tw7372000682148998216 : True := trivial
theorem hd.tw4091639524402994376 : True := trivial
theorem hd.tw8671608845466749128 : True := trivial
theorem hd.tw13642289790063256904 : True := trivial
theorem hd.tw11149407913341048200 : True := trivial
theorem hd.tw10246146449241189800 : True := trivial
theorem hd.tw16920754564084929960 : True := trivial
theorem hd.tw10883786394301105576 : True := trivial
theorem hd.tw12949589719889679912 : True := trivial
theorem hd.tw14457593812595234344 : True := trivial
theorem hd.tw18268791191939849864 : True := trivial
theorem hd.tw2708950531961675432 : True := trivial
theorem hd.tw4642405928176397000 : True := trivial
theorem hd.tw4297731678662094536 : True := trivial
theorem hd.tw13254856127148245736 : True := trivial
theorem hd.tw8112873726471076584 : True := trivial
theorem hd.tw162610821266807592 : True := trivial
theorem hd.tw960944832710211464 : True := trivial
theorem hd.tw4870687313549177768 : True := trivial
theorem hd.tw17975533764899295144 : True := trivial
theorem hd.tw6627881031435992008 : True := trivial
theorem hd.tw7792395482447073224 : True := trivial
theorem hd.tw16376525773666504680 : True := trivial
theorem hd.tw11011131195910976488 : True := trivial
theorem hd.tw3259873300814134281 : True := trivial
theorem hd.tw8042025463638437929 : True := trivial
theorem hd.tw189712035060473897 : True := trivial
theorem hd.tw2040990291671593033 : True := trivial
theorem hd.tw8959176491354863721 : True := trivial
theorem hd.tw14567429538950270057 : True := trivial
theorem hd.tw18166333605607142505 : True := trivial
theorem hd.tw4225703048834024713 : True := trivial
theorem hd.tw10788059911547816233 : True := trivial
theorem hd.tw14906377314874228009 : True := trivial
theorem hd.tw9244321171653502345 : True := trivial
theorem hd.tw7581914395401509321 : True := trivial
theorem hd.tw8479784124755550697 : True := trivial
theorem hd.tw1129884963351977449 : True := trivial
theorem hd.tw8184699220007379433 : True := trivial
theorem hd.tw515116654868589033 : True := trivial
theorem hd.tw5009564483982726761 : True := trivial
theorem hd.tw17925215291927510665 : True := trivial
theorem hd.tw663384727985864361 : True := trivial
theorem hd.tw9566141503761928105 : True := trivial
theorem hd.tw5148922909946612681 : True := trivial
theorem hd.tw3915529967508079626 : True := trivial
theorem hd.tw18264374347568628810 : True := trivial
theorem hd.tw15042006015671813226 : True := trivial
theorem hd.tw6906073325868019850 : True := trivial
theorem hd.tw13217225542625558698 : True := trivial
theorem hd.tw16009884308244765898 : True := trivial
theorem hd.tw7120233287515763914 : True := trivial
theorem hd.tw6898005170327248138 : True := trivial
theorem hd.tw9406673726873002282 : True := trivial
theorem hd.tw6804821044290156842 : True := trivial
theorem hd.tw16794629799341752650 : True := trivial
theorem hd.tw7654286748164834634 : True := trivial
theorem hd.tw5416991563250132298 : True := trivial
theorem hd.tw4383666589626881386 : True := trivial
theorem hd.tw17447410573909459338 : True := trivial
theorem hd.tw11079590131829733770 : True := trivial
theorem hd.tw242841246431481386 : True := trivial
theorem hd.tw14492701947808656938 : True := trivial
theorem hd.tw6528754448969337418 : True := trivial
theorem hd.tw10603584201595350602 : True := trivial
theorem hd.tw4360684699965382250 : True := trivial
theorem hd.tw9132557439983319658 : True := trivial
theorem hd.tw18385348092688986762 : True := trivial
theorem hd.tw1563692795949630186 : True := trivial
theorem hd.tw10889348797400549130 : True := trivial
theorem hd.tw12487502673411948298 : True := trivial
theorem hd.tw4478964076566166474 : True := trivial
theorem hd.tw12112201142124510154 : True := trivial
theorem hd.tw9271970288684553227 : True := trivial
theorem hd.tw8244733829118024811 : True := trivial
theorem hd.tw12239354291974867115 : True := trivial
theorem hd.tw11128854368766332075 : True := trivial
theorem hd.tw13277076834127875243 : True := trivial
theorem hd.tw3443669649825651883 : True := trivial
theorem hd.tw9449672872311958731 : True := trivial
theorem hd.tw12832683148521936107 : True := trivial
theorem hd.tw18176940659606848779 : True := trivial
theorem hd.tw17628472586750557451 : True := trivial
theorem hd.tw11917015161858427179 : True := trivial
theorem hd.tw13855881374063213867 : True := trivial
theorem hd.tw6449127861642672459 : True := trivial
theorem hd.tw17070941380808615275 : True := trivial
theorem hd.tw9170477692918782315 : True := trivial
theorem hd.tw10030107230732127627 : True := trivial
theorem hd.tw17054507655720011243 : True := trivial
theorem hd.tw14727110085682223627 : True := trivial
theorem hd.tw313027258313007627 : True := trivial
theorem hd.tw6683769817339685419 : True := trivial
theorem hd.tw7534799579077118603 : True := trivial
theorem hd.tw9741134391959003819 : True := trivial
theorem hd.tw15089522573102190283 : True := trivial
theorem hd.tw10743916045514856203 : True := trivial
theorem hd.tw9748044761591592747 : True := trivial
theorem hd.tw8727321023445011275 : True := trivial
theorem hd.tw2999033326186475339 : True := trivial
theorem hd.tw8242931771332617035 : True := trivial
theorem hd.tw8716120427605611371 : True := trivial
theorem hd.tw6196171512934965099 : True := trivial
theorem hd.tw978945382295711627 : True := trivial
theorem hd.tw6264232113106981867 : True := trivial
theorem hd.tw4136554803537287180 : True := trivial
theorem hd.tw4315991029959535628 : True := trivial
theorem hd.tw1836080755315867724 : True := trivial
theorem hd.tw6394381022753523788 : True := trivial
theorem hd.tw13217827037086042188 : True := trivial
theorem hd.tw12647368939536790636 : True := trivial
theorem hd.tw3922637787740509324 : True := trivial
theorem hd.tw6186238094035137676 : True := trivial
theorem hd.tw1043307727769730188 : True := trivial
theorem hd.tw1535757262459896012 : True := trivial
theorem hd.tw14060154772996877548 : True := trivial
theorem hd.tw16299908979028503884 : True := trivial
theorem hd.tw2930668341846507884 : True := trivial
theorem hd.tw17711083657039698284 : True := trivial
theorem hd.tw6957150274394394060 : True := trivial
theorem hd.tw12575139184659369484 : True := trivial
theorem hd.tw5873113503399164460 : True := trivial
theorem hd.tw15687388767607454252 : True := trivial
theorem hd.tw1429355676904276588 : True := trivial
theorem hd.tw5130813555471234732 : True := trivial
theorem hd.tw8004679753235328684 : True := trivial
theorem hd.tw18185175575083235020 : True := trivial
theorem hd.tw17948085552500728524 : True := trivial
theorem hd.tw7270182246851987180 : True := trivial
theorem hd.tw12588582704262371052 : True := trivial
theorem hd.tw9459050058782445324 : True := trivial
theorem hd.tw10292235466723388172 : True := trivial
theorem hd.tw6819123309680001836 : True := trivial
theorem hd.tw15368132723985388332 : True := trivial
theorem hd.tw16171809288044610508 : True := trivial
theorem hd.tw10781468475247234061 : True := trivial
theorem hd.tw15837987909243819085 : True := trivial
theorem hd.tw1409312971732116557 : True := trivial
theorem hd.tw257007361410690125 : True := trivial
theorem hd.tw10272267587312932973 : True := trivial
theorem hd.tw5010264101278932077 : True := trivial
theorem hd.tw17438259276822278317 : True := trivial
theorem hd.tw16332348944364537037 : True := trivial
theorem hd.tw1013155817946168525 : True := trivial
theorem hd.tw14060237666301923597 : True := trivial
theorem hd.tw13321331477185743149 : True := trivial
theorem hd.tw17821661813734597965 : True := trivial
theorem hd.tw16919406825032445293 : True := trivial
theorem hd.tw9325612240067072397 : True := trivial
theorem hd.tw16345102440705955213 : True := trivial
theorem hd.tw6079173187612997037 : True := trivial
theorem hd.tw8457440626546761165 : True := trivial
theorem hd.tw4377701919642642989 : True := trivial
theorem hd.tw3404104791013757517 : True := trivial
theorem hd.tw16828841361933241965 : True := trivial
theorem hd.tw6184208073178115725 : True := trivial
theorem hd.tw5036846961687405229 : True := trivial
theorem hd.tw16546736560662234797 : True := trivial
theorem hd.tw4068527845204499245 : True := trivial
theorem hd.tw17606422857730326317 : True := trivial
theorem hd.tw11249132867342737325 : True := trivial
theorem hd.tw10404513684093684653 : True := trivial
theorem hd.tw13929354066492186541 : True := trivial
theorem hd.tw1088296927520436173 : True := trivial
theorem hd.tw9577689765879766989 : True := trivial
theorem hd.tw10614716105012338702 : True := trivial
theorem hd.tw11801993109049149486 : True := trivial
theorem hd.tw14980023328507725902 : True := trivial
theorem hd.tw11968265576560266318 : True := trivial
theorem hd.tw7880807054014371918 : True := trivial
theorem hd.tw17076082267592564974 : True := trivial
theorem hd.tw14294001040229213422 : True := trivial
theorem hd.tw17989097746536338734 : True := trivial
theorem hd.tw9617658007855726926 : True := trivial
theorem hd.tw678209747344391502 : True := trivial
theorem hd.tw10203026625882799534 : True := trivial
theorem hd.tw185848376630758926 : True := trivial
theorem hd.tw12952509933414984302 : True := trivial
theorem hd.tw10531373872144210542 : True := trivial
theorem hd.tw12940713784782232206 : True := trivial
theorem hd.tw1781861727890032366 : True := trivial
theorem hd.tw9555612238305686254 : True := trivial
theorem hd.tw3196399650302076718 : True := trivial
theorem hd.tw4159134105002834734 : True := trivial
theorem hd.tw16722109127936396110 : True := trivial
theorem hd.tw14553816603554493358 : True := trivial
theorem hd.tw9345929723534960622 : True := trivial
theorem hd.tw12268275109542032366 : True := trivial
theorem hd.tw6818987989461384207 : True := trivial
theorem hd.tw13363553139645760527 : True := trivial
theorem hd.tw11507959949525687343 : True := trivial
theorem hd.tw1452849714261714991 : True := trivial
theorem hd.tw2442259710966052079 : True := trivial
theorem hd.tw12521463284412890351 : True := trivial
theorem hd.tw17330132731328240911 : True := trivial
theorem hd.tw8587404781116728655 : True := trivial
theorem hd.tw2845207389951388047 : True := trivial
theorem hd.tw6082411064634330575 : True := trivial
theorem hd.tw3493717111155160527 : True := trivial
theorem hd.tw3759623122121258479 : True := trivial
theorem hd.tw3708379670096615023 : True := trivial
theorem hd.tw12631932088317031055 : True := trivial
theorem hd.tw10012880186880212623 : True := trivial
theorem hd.tw11709330566771433103 : True := trivial
theorem hd.tw17471934795394947791 : True := trivial
theorem hd.tw6990203504111849199 : True := trivial
theorem hd.tw2101469004524951375 : True := trivial
theorem hd.tw5878478951762656079 : True := trivial
theorem hd.tw11319892378374348655 : True := trivial
theorem hd.tw9657781627882305391 : True := trivial
theorem hd.tw13315533130655954831 : True := trivial
theorem hd.tw8879563391730754479 : True := trivial
theorem hd.tw16649331688326792143 : True := trivial
theorem hd.tw1197925565968671727 : True := trivial
theorem hd.tw15207398651663016943 : True := trivial
theorem hd.tw10111801491309104144 : True := trivial
theorem hd.tw402640490398009360 : True := trivial
theorem hd.tw15427206886491885616 : True := trivial
theorem hd.tw8801323125487838256 : True := trivial
theorem hd.tw16011055738799735888 : True := trivial
theorem hd.tw10216474801634566288 : True := trivial
theorem hd.tw7891253978561527248 : True := trivial
theorem hd.tw940617070666608080 : True := trivial
theorem hd.tw13285133528070534704 : True := trivial
theorem hd.tw16853341256802265648 : True := trivial
theorem hd.tw7152984921513172624 : True := trivial
theorem hd.tw7382370116671421104 : True := trivial
theorem hd.tw1712922718373300912 : True := trivial
theorem hd.tw4856431653887292112 : True := trivial
theorem hd.tw14667805832236412624 : True := trivial
theorem hd.tw13518370688599389936 : True := trivial
theorem hd.tw11551083187376567056 : True := trivial
theorem hd.tw15595854959937240912 : True := trivial
theorem hd.tw12614811148066621264 : True := trivial
theorem hd.tw17902569758825723728 : True := trivial
theorem hd.tw6755925336976613232 : True := trivial
theorem hd.tw17872693414312351632 : True := trivial
theorem hd.tw7752569895197466512 : True := trivial
theorem hd.tw15279998641719260112 : True := trivial
theorem hd.tw16178712458983371728 : True := trivial
theorem hd.tw3434918251397683217 : True := trivial
theorem hd.tw13790719812936386609 : True := trivial
theorem hd.tw876933089483189297 : True := trivial
theorem hd.tw13322179722446271537 : True := trivial
theorem hd.tw17213754286329925777 : True := trivial
theorem hd.tw5247051413645994129 : True := trivial
theorem hd.tw2000490053193787569 : True := trivial
theorem hd.tw6560130709272863985 : True := trivial
theorem hd.tw14705683404202351889 : True := trivial
theorem hd.tw100483095206116625 : True := trivial
theorem hd.tw6882427118574961969 : True := trivial
theorem hd.tw1005483496087919985 : True := trivial
theorem hd.tw17903497710992402801 : True := trivial
theorem hd.tw6615107907471364465 : True := trivial
theorem hd.tw16634568088961857937 : True := trivial
theorem hd.tw15852365999677673905 : True := trivial
theorem hd.tw16056359734778111409 : True := trivial
theorem hd.tw7082855905992002993 : True := trivial
theorem hd.tw14246236162039180721 : True := trivial
theorem hd.tw11034497122203965937 : True := trivial
theorem hd.tw8015326511298524721 : True := trivial
theorem hd.tw13220430256171166289 : True := trivial
theorem hd.tw3828038474966422129 : True := trivial
theorem hd.tw12113243949977362033 : True := trivial
theorem hd.tw5961118342813265553 : True := trivial
theorem hd.tw1603739661141634737 : True := trivial
theorem hd.tw8117029840178788049 : True := trivial
theorem hd.tw4990156530697904881 : True := trivial
theorem hd.tw1208734638264122097 : True := trivial
theorem hd.tw4049167362943961905 : True := trivial
theorem hd.tw8191903926673212241 : True := trivial
theorem hd.tw6545403380812914513 : True := trivial
theorem hd.tw7317836474542784337 : True := trivial
theorem hd.tw6578402527460240241 : True := trivial
theorem hd.tw16053994301053490033 : True := trivial
theorem hd.tw5716766192118558609 : True := trivial
theorem hd.tw16029623286316568529 : True := trivial
theorem hd.tw6759412095888398321 : True := trivial
theorem hd.tw8683856772340465682 : True := trivial
theorem hd.tw368366308016060594 : True := trivial
theorem hd.tw2391449824757734642 : True := trivial
theorem hd.tw8025032847418708242 : True := trivial
theorem hd.tw9641152695372364146 : True := trivial
theorem hd.tw15166520500009309586 : True := trivial
theorem hd.tw9499510787657705874 : True := trivial
theorem hd.tw14772383043592177042 : True := trivial
theorem hd.tw15813434630575017362 : True := trivial
theorem hd.tw7754304195085646258 : True := trivial
theorem hd.tw5366084841770067474 : True := trivial
theorem hd.tw2167537188350426706 : True := trivial
theorem hd.tw5282504435634884242 : True := trivial
theorem hd.tw17377529257436501650 : True := trivial
theorem hd.tw250903467453971090 : True := trivial
theorem hd.tw16257038226119295666 : True := trivial
theorem hd.tw1580110805410547442 : True := trivial
theorem hd.tw10465514089279642386 : True := trivial
theorem hd.tw8053944837975664402 : True := trivial
theorem hd.tw10525666975642140466 : True := trivial
theorem hd.tw14560493823538711346 : True := trivial
theorem hd.tw9298403506768410418 : True := trivial
theorem hd.tw12629568148972539762 : True := trivial
theorem hd.tw6293948785866598258 : True := trivial
theorem hd.tw7296583596125217682 : True := trivial
theorem hd.tw8112040973832200146 : True := trivial
theorem hd.tw1097998534492414930 : True := trivial
theorem hd.tw10601615944963115059 : True := trivial
theorem hd.tw561391293025646643 : True := trivial
theorem hd.tw17429513623812275283 : True := trivial
theorem hd.tw8538877666451538035 : True := trivial
theorem hd.tw3694398316872202419 : True := trivial
theorem hd.tw9184186324627900627 : True := trivial
theorem hd.tw5567388512258382067 : True := trivial
theorem hd.tw5657824000916062451 : True := trivial
theorem hd.tw17454471701868102899 : True := trivial
theorem hd.tw5238241317806426387 : True := trivial
theorem hd.tw12590977762386282803 : True := trivial
theorem hd.tw7289634563603522867 : True := trivial
theorem hd.tw14168552714766633299 : True := trivial
theorem hd.tw16945582573551092051 : True := trivial
theorem hd.tw16502264421070913907 : True := trivial
theorem hd.tw16006246977917349235 : True := trivial
theorem hd.tw17495340751864218003 : True := trivial
theorem hd.tw1382963296337349011 : True := trivial
theorem hd.tw16432713993328977331 : True := trivial
theorem hd.tw7793673504863384051 : True := trivial
theorem hd.tw1379335367625716243 : True := trivial
theorem hd.tw17772917993097084435 : True := trivial
theorem hd.tw5363564295841288755 : True := trivial
theorem hd.tw11151547217846952531 : True := trivial
theorem hd.tw18103342009636024947 : True := trivial
theorem hd.tw14984183105004643987 : True := trivial
theorem hd.tw3008623586974134963 : True := trivial
theorem hd.tw920214292312260371 : True := trivial
theorem hd.tw2770651114192669555 : True := trivial
theorem hd.tw11852641145169952659 : True := trivial
theorem hd.tw4015398097383911347 : True := trivial
theorem hd.tw13409441903868389331 : True := trivial
theorem hd.tw8789358453043137523 : True := trivial
theorem hd.tw4851647983119433812 : True := trivial
theorem hd.tw4367231431732253908 : True := trivial
theorem hd.tw15529170255622000948 : True := trivial
theorem hd.tw6164396464334811476 : True := trivial
theorem hd.tw7540655947842036084 : True := trivial
theorem hd.tw6547078798241139092 : True := trivial
theorem hd.tw15422856539912107476 : True := trivial
theorem hd.tw4014540891139286612 : True := trivial
theorem hd.tw7540741092611519060 : True := trivial
theorem hd.tw11256106856564762260 : True := trivial
theorem hd.tw18293732401869909652 : True := trivial
theorem hd.tw9131607905817354932 : True := trivial
theorem hd.tw13994979335412520660 : True := trivial
theorem hd.tw10738003575532504788 : True := trivial
theorem hd.tw14439243815434019604 : True := trivial
theorem hd.tw1997569388931296116 : True := trivial
theorem hd.tw6136932545381038964 : True := trivial
theorem hd.tw226724450230711188 : True := trivial
theorem hd.tw17542962492245011380 : True := trivial
theorem hd.tw16339271979029011412 : True := trivial
theorem hd.tw5629675986466331604 : True := trivial
theorem hd.tw6598312636042714100 : True := trivial
theorem hd.tw1439246655266547700 : True := trivial
theorem hd.tw13566260322249332789 : True := trivial
theorem hd.tw11162318198679636149 : True := trivial
theorem hd.tw9496365245306024149 : True := trivial
theorem hd.tw12870888531099404533 : True := trivial
theorem hd.tw13225837485096350037 : True := trivial
theorem hd.tw6442067068224118133 : True := trivial
theorem hd.tw11663481321943121269 : True := trivial
theorem hd.tw14103535550066685397 : True := trivial
theorem hd.tw2608437505485318709 : True := trivial
theorem hd.tw17673860158736603733 : True := trivial
theorem hd.tw3571134770919094901 : True := trivial
theorem hd.tw16357263729072622229 : True := trivial
theorem hd.tw7494724483528729301 : True := trivial
theorem hd.tw15508949281206285077 : True := trivial
theorem hd.tw7547452568850923285 : True := trivial
theorem hd.tw12459740579856956213 : True := trivial
theorem hd.tw5486487638281291605 : True := trivial
theorem hd.tw16302227732802510677 : True := trivial
theorem hd.tw13609717118414637909 : True := trivial
theorem hd.tw13483081372092288885 : True := trivial
theorem hd.tw1666387254794493845 : True := trivial
theorem hd.tw9427301549700849589 : True := trivial
theorem hd.tw3941438180925939637 : True := trivial
theorem hd.tw1425423193147277237 : True := trivial
theorem hd.tw6820862383352777685 : True := trivial
theorem hd.tw10919297434634762262 : True := trivial
theorem hd.tw8965841893048198262 : True := trivial
theorem hd.tw4390796290334881974 : True := trivial
theorem hd.tw6291416237084387574 : True := trivial
theorem hd.tw8343274005884668182 : True := trivial
theorem hd.tw1848646778235469078 : True := trivial
theorem hd.tw3513125359445811510 : True := trivial
theorem hd.tw4126306136578151734 : True := trivial
theorem hd.tw1413172679324656950 : True := trivial
theorem hd.tw16473244170626142550 : True := trivial
theorem hd.tw9155422001095189878 : True := trivial
theorem hd.tw3452082135128663414 : True := trivial
theorem hd.tw11814627755841444246 : True := trivial
theorem hd.tw15610959940260225430 : True := trivial
theorem hd.tw11213053971927718326 : True := trivial
theorem hd.tw7261450039545342454 : True := trivial
theorem hd.tw16155205043701107222 : True := trivial
theorem hd.tw7752767780024739350 : True := trivial
theorem hd.tw17420951861521290806 : True := trivial
theorem hd.tw12131494931117144662 : True := trivial
theorem hd.tw7369741819223213686 : True := trivial
theorem hd.tw3816877163431070358 : True := trivial
theorem hd.tw15179676742415161110 : True := trivial
theorem hd.tw1011335219593555734 : True := trivial
theorem hd.tw8428860471423672150 : True := trivial
theorem hd.tw4138081844389336918 : True := trivial
theorem hd.tw8770659054964912022 : True := trivial
theorem hd.tw15367242080415987702 : True := trivial
theorem hd.tw6184460063843016694 : True := trivial
theorem hd.tw15615537253650120727 : True := trivial
theorem hd.tw11905163887095721015 : True := trivial
theorem hd.tw10098268173465320503 : True := trivial
theorem hd.tw14029546391885035639 : True := trivial
theorem hd.tw2216850387143573719 : True := trivial
theorem hd.tw2448417245163862455 : True := trivial
theorem hd.tw5283464899586487735 : True := trivial
theorem hd.tw16970440968685349367 : True := trivial
theorem hd.tw13783031573616600631 : True := trivial
theorem hd.tw3442329435671937591 : True := trivial
theorem hd.tw3673089383077640791 : True := trivial
theorem hd.tw8044012406986999415 : True := trivial
theorem hd.tw14438451200097066615 : True := trivial
theorem hd.tw15416985209724490359 : True := trivial
theorem hd.tw7292484366425897655 : True := trivial
theorem hd.tw12393119488966705847 : True := trivial
theorem hd.tw3381375190539634487 : True := trivial
theorem hd.tw11402939732021071671 : True := trivial
theorem hd.tw10879034167726328663 : True := trivial
theorem hd.tw9073681462420916055 : True := trivial
theorem hd.tw13632086890793258935 : True := trivial
theorem hd.tw2134215046882385847 : True := trivial
theorem hd.tw11389486352061984695 : True := trivial
theorem hd.tw11136197038861592535 : True := trivial
theorem hd.tw2788664435532181463 : True := trivial
theorem hd.tw6140570298594658328 : True := trivial
theorem hd.tw2951005344575393816 : True := trivial
theorem hd.tw7354087734392854552 : True := trivial
theorem hd.tw15946388913382835224 : True := trivial
theorem hd.tw9345676750909349944 : True := trivial
theorem hd.tw16456969618363192440 : True := trivial
theorem hd.tw5562173858411828344 : True := trivial
theorem hd.tw262745018181394680 : True := trivial
theorem hd.tw17650839729002327288 : True := trivial
theorem hd.tw2799067240506288376 : True := trivial
theorem hd.tw18093812233618175256 : True := trivial
theorem hd.tw2274498078352570744 : True := trivial
theorem hd.tw14768889098011018680 : True := trivial
theorem hd.tw15759970867653108152 : True := trivial
theorem hd.tw5511420028821071320 : True := trivial
theorem hd.tw13866372431405929976 : True := trivial
theorem hd.tw13267510147771200024 : True := trivial
theorem hd.tw7191455744419660376 : True := trivial
theorem hd.tw12769127236821124696 : True := trivial
theorem hd.tw15048261121198461528 : True := trivial
theorem hd.tw14176624398918483544 : True := trivial
theorem hd.tw8516288146210602744 : True := trivial
theorem hd.tw8770205317985620760 : True := trivial
theorem hd.tw18163647496604598072 : True := trivial
theorem hd.tw3920623390966001496 : True := trivial
theorem hd.tw10860895700388868024 : True := trivial
theorem hd.tw12994019391074448376 : True := trivial
theorem hd.tw15987713032478767096 : True := trivial
theorem hd.tw13342606739435360313 : True := trivial
theorem hd.tw17088047866570459193 : True := trivial
theorem hd.tw4065347644161347641 : True := trivial
theorem hd.tw4788038989552484473 : True := trivial
theorem hd.tw732345407407602841 : True := trivial
theorem hd.tw1588505670450824345 : True := trivial
theorem hd.tw728884934406724761 : True := trivial
theorem hd.tw15213948185873263833 : True := trivial
theorem hd.tw2603259988358896889 : True := trivial
theorem hd.tw2845679848157327705 : True := trivial
theorem hd.tw18291419657060728153 : True := trivial
theorem hd.tw14006173549557618073 : True := trivial
theorem hd.tw15411387601460861337 : True := trivial
theorem hd.tw1222794163293265305 : True := trivial
theorem hd.tw11364443708160879001 : True := trivial
theorem hd.tw10784824025267889561 : True := trivial
theorem hd.tw11399449904127653305 : True := trivial
theorem hd.tw11054480109507316185 : True := trivial
theorem hd.tw2922222751358710265 : True := trivial
theorem hd.tw3953601041324332601 : True := trivial
theorem hd.tw8317466277049474617 : True := trivial
theorem hd.tw12350410155528471161 : True := trivial
theorem hd.tw881544763273948857 : True := trivial
theorem hd.tw2658526732547218105 : True := trivial
theorem hd.tw16772102934027710169 : True := trivial
theorem hd.tw3940546777539579641 : True := trivial
theorem hd.tw17574625026820762457 : True := trivial
theorem hd.tw17330945745186091897 : True := trivial
theorem hd.tw8081886968326746073 : True := trivial
theorem hd.tw6982297934935202809 : True := trivial
theorem hd.tw17047115858639842297 : True := trivial
theorem hd.tw13047593935725612058 : True := trivial
theorem hd.tw13132618709999183898 : True := trivial
theorem hd.tw7854228177987924090 : True := trivial
theorem hd.tw5902613922787404954 : True := trivial
theorem hd.tw15673258824015622330 : True := trivial
theorem hd.tw15389965777483919546 : True := trivial
theorem hd.tw541196102884509978 : True := trivial
theorem hd.tw12050417470231563642 : True := trivial
theorem hd.tw5592360268479517082 : True := trivial
theorem hd.tw1147470481896660410 : True := trivial
theorem hd.tw9421340871869096474 : True := trivial
theorem hd.tw7698358502638924378 : True := trivial
theorem hd.tw1600037746751723098 : True := trivial
theorem hd.tw7526368328331116154 : True := trivial
theorem hd.tw5373601922739893978 : True := trivial
theorem hd.tw14960593345356199642 : True := trivial
theorem hd.tw16157073509204512506 : True := trivial
theorem hd.tw7598622570094877466 : True := trivial
theorem hd.tw11232374478483605306 : True := trivial
theorem hd.tw12394076208661396346 : True := trivial
theorem hd.tw11652457597714270106 : True := trivial
theorem hd.tw13038990169509382042 : True := trivial
theorem hd.tw8273930003744585626 : True := trivial
theorem hd.tw2001351230973187099 : True := trivial
theorem hd.tw1610171440888473627 : True := trivial
theorem hd.tw7927469264209771579 : True := trivial
theorem hd.tw13372043803930879067 : True := trivial
theorem hd.tw12685813987229840507 : True := trivial
theorem hd.tw14137390275340422267 : True := trivial
theorem hd.tw15103106377680225435 : True := trivial
theorem hd.tw5362516397382645915 : True := trivial
theorem hd.tw14353793391729792155 : True := trivial
theorem hd.tw11672842613191775419 : True := trivial
theorem hd.tw11079593142295127227 : True := trivial
theorem hd.tw128412058910260475 : True := trivial
theorem hd.tw15675198926951892251 : True := trivial
theorem hd.tw14478148883734587675 : True := trivial
theorem hd.tw4819202231147424091 : True := trivial
theorem hd.tw6767318904944593275 : True := trivial
theorem hd.tw2051048951616859547 : True := trivial
theorem hd.tw10024716035694756283 : True := trivial
theorem hd.tw2808349399557158395 : True := trivial
theorem hd.tw17491317419825422843 : True := trivial
theorem hd.tw5388632664720090651 : True := trivial
theorem hd.tw16007149819294483003 : True := trivial
theorem hd.tw14120982254508448379 : True := trivial
theorem hd.tw3085183777334472315 : True := trivial
theorem hd.tw2068664650715991707 : True := trivial
theorem hd.tw518976864732996251 : True := trivial
theorem hd.tw9087110039335098043 : True := trivial
theorem hd.tw9719896912496429819 : True := trivial
theorem hd.tw15744379053514951419 : True := trivial
theorem hd.tw17177331786930743035 : True := trivial
theorem hd.tw1792636949448641307 : True := trivial
theorem hd.tw6965799899956892507 : True := trivial
theorem hd.tw461538923250603899 : True := trivial
theorem hd.tw7492773218913965947 : True := trivial
theorem hd.tw5265724403161401275 : True := trivial
theorem hd.tw15642763164714097627 : True := trivial
theorem hd.tw16487816990975572028 : True := trivial
theorem hd.tw7943647380988272828 : True := trivial
theorem hd.tw1118553966540926140 : True := trivial
theorem hd.tw11319097763535126812 : True := trivial
theorem hd.tw13365295217650922812 : True := trivial
theorem hd.tw395138700845864316 : True := trivial
theorem hd.tw14352634086879598012 : True := trivial
theorem hd.tw4817003022231809500 : True := trivial
theorem hd.tw12591134339009171964 : True := trivial
theorem hd.tw16091413853298234908 : True := trivial
theorem hd.tw15298718440444336668 : True := trivial
theorem hd.tw7085514621470718492 : True := trivial
theorem hd.tw2887051446865420828 : True := trivial
theorem hd.tw7578210074245671484 : True := trivial
theorem hd.tw1699103778626983548 : True := trivial
theorem hd.tw3451239065008710300 : True := trivial
theorem hd.tw17599816209265215132 : True := trivial
theorem hd.tw2327210489368252092 : True := trivial
theorem hd.tw2252305205657439004 : True := trivial
theorem hd.tw4182648748547736412 : True := trivial
theorem hd.tw13160604113216922460 : True := trivial
theorem hd.tw1194904439430580092 : True := trivial
theorem hd.tw4402725079659364252 : True := trivial
theorem hd.tw2646871970372073404 : True := trivial
theorem hd.tw1331086792558400476 : True := trivial
theorem hd.tw14852329139284432860 : True := trivial
theorem hd.tw11117797201346649052 : True := trivial
theorem hd.tw17986969038992634876 : True := trivial
theorem hd.tw18219297243305740317 : True := trivial
theorem hd.tw13289513938125300765 : True := trivial
theorem hd.tw922143313871775805 : True := trivial
theorem hd.tw3437686538108195901 : True := trivial
theorem hd.tw15199589371867527261 : True := trivial
theorem hd.tw1779329888486165629 : True := trivial
theorem hd.tw4363365295628954845 : True := trivial
theorem hd.tw15992342658441690333 : True := trivial
theorem hd.tw5433107678231618845 : True := trivial
theorem hd.tw17714235663813219645 : True := trivial
theorem hd.tw2457190517430149469 : True := trivial
theorem hd.tw2855845756224970109 : True := trivial
theorem hd.tw16868993833207775613 : True := trivial
theorem hd.tw4478177076189095293 : True := trivial
theorem hd.tw6924109203229866365 : True := trivial
theorem hd.tw10792051664901133789 : True := trivial
theorem hd.tw14462709497994964445 : True := trivial
theorem hd.tw5608270528595127837 : True := trivial
theorem hd.tw13532847315355080253 : True := trivial
theorem hd.tw7763873220885509757 : True := trivial
theorem hd.tw3646829019195819677 : True := trivial
theorem hd.tw3704167492566942397 : True := trivial
theorem hd.tw13531707123254989501 : True := trivial
theorem hd.tw526207354791536317 : True := trivial
theorem hd.tw15967140613478806237 : True := trivial
theorem hd.tw7679216977031593725 : True := trivial
theorem hd.tw15578025631644234493 : True := trivial
theorem hd.tw8226494294326810461 : True := trivial
theorem hd.tw3880626646640942013 : True := trivial
theorem hd.tw15833661619300960221 : True := trivial
theorem hd.tw9277588360372424766 : True := trivial
theorem hd.tw3182187488490625086 : True := trivial
theorem hd.tw16194383521188589630 : True := trivial
theorem hd.tw11631869004601391166 : True := trivial
theorem hd.tw7746578258024575070 : True := trivial
theorem hd.tw7991182636835128446 : True := trivial
theorem hd.tw9673543361469618366 : True := trivial
theorem hd.tw6123773746684550334 : True := trivial
theorem hd.tw16169374299450900766 : True := trivial
theorem hd.tw4643362625855044894 : True := trivial
theorem hd.tw16259696140248634718 : True := trivial
theorem hd.tw4172343393113369950 : True := trivial
theorem hd.tw17681399029576232318 : True := trivial
theorem hd.tw3419581819265744254 : True := trivial
theorem hd.tw13431754692932380062 : True := trivial
theorem hd.tw8664936974563722654 : True := trivial
theorem hd.tw8312999807965096350 : True := trivial
theorem hd.tw17901334829092211166 : True := trivial
theorem hd.tw8210421348078903774 : True := trivial
theorem hd.tw17739348878880393726 : True := trivial
theorem hd.tw13293453174229064190 : True := trivial
theorem hd.tw2329189449893159454 : True := trivial
theorem hd.tw3480954088277226078 : True := trivial
theorem hd.tw9763420282994701918 : True := trivial
theorem hd.tw7510230149288206974 : True := trivial
theorem hd.tw1612048799015034494 : True := trivial
theorem hd.tw17312999752573914782 : True := trivial
theorem hd.tw14620637471214046174 : True := trivial
theorem hd.tw6423634429210846174 : True := trivial
theorem hd.tw14955159897011116063 : True := trivial
theorem hd.tw6931407450589930559 : True := trivial
theorem hd.tw12070051907170230399 : True := trivial
theorem hd.tw3530705653197291679 : True := trivial
theorem hd.tw6761669909254768831 : True := trivial
theorem hd.tw4478166936697009375 : True := trivial
theorem hd.tw5505332120971382143 : True := trivial
theorem hd.tw825126770350376351 : True := trivial
theorem hd.tw2781682124601125471 : True := trivial
theorem hd.tw11283319371284918911 : True := trivial
theorem hd.tw10543509907540572799 : True := trivial
theorem hd.tw5245234834050458271 : True := trivial
theorem hd.tw442638132926106271 : True := trivial
theorem hd.tw14400467628812073631 : True := trivial
theorem hd.tw8589211134812392127 : True := trivial
theorem hd.tw3309697970292668127 : True := trivial
theorem hd.tw7519716089354478335 : True := trivial
theorem hd.tw2595994805191909183 : True := trivial
theorem hd.tw9077708301081682751 : True := trivial
theorem hd.tw14685462170515437407 : True := trivial
section
local macro_rules | `(tactic| k_head) => `(tactic| o_head (kHook hd0.heap_1 keys keys_ok))
set_option maxHeartbeats 8000000 in
set_option Elab.async true in
theorem hd : PySem.Challenge.rw_on0298_01.Holds := by
  (w_on; o_law; k_head; (case hw => w_witness2)); exact walk
end
end Mine
set_option maxRecDepth 100000 in
set_option maxHeartbeats 8000000 in
theorem PySem.Challenge.cw_on0298_01_holds : PySem.Challenge.rw_on0298_01.Holds :=
  Mine.hd
