import PyProof.Rows.All
import Wide.All
import OpenK.AllK
import Wide.FinOn
import Lean
import PySem.Challenge.RW_ok0046_01
set_option Elab.async false
set_option maxRecDepth 100000
set_option maxHeartbeats 8000000
set_option linter.unusedVariables false
namespace Mine
theorem fresh_Base : True := by
  w_top off
  trivial
section
open PySem PySem.W PyProof.Rows
noncomputable def nthS : List Stmt → Nat → Stmt
  | [], _ => .Pass ⟨0, 0, 0, 0⟩
  | x :: _, 0 => x
  | _ :: r, n + 1 => nthS r n
noncomputable def viewOf : Program := { PySem.Challenge.pw_ok0046_01 with main := { PySem.Challenge.pw_ok0046_01.main with body := [nthS PySem.Challenge.pw_ok0046_01.main.body 1, nthS PySem.Challenge.pw_ok0046_01.main.body 3, nthS PySem.Challenge.pw_ok0046_01.main.body 4, nthS PySem.Challenge.pw_ok0046_01.main.body 6, nthS PySem.Challenge.pw_ok0046_01.main.body 7, nthS PySem.Challenge.pw_ok0046_01.main.body 8, nthS PySem.Challenge.pw_ok0046_01.main.body 9, nthS PySem.Challenge.pw_ok0046_01.main.body 10, nthS PySem.Challenge.pw_ok0046_01.main.body 11, nthS PySem.Challenge.pw_ok0046_01.main.body 12, nthS PySem.Challenge.pw_ok0046_01.main.body 13] } }
theorem top_plain : opening PySem.Challenge.pw_ok0046_01 = plainProg PySem.Challenge.pw_ok0046_01.main.scope.names := by kernel_rfl
theorem top_fence : ∀ s, fenceModules? PySem.Challenge.pw_ok0046_01 s = some s := by intro s; kernel_rfl
theorem top_boot : ∀ w : World, (fencedOpening treeTable PySem.Challenge.pw_ok0046_01 w 2820).map (fun s => (s.heap, s.gens, s.drawn, s.toks)) = some (boot_heap w.params, Array.mk [], boot_drawn, boot_toks) := boot_open top_plain (by decide) top_fence
theorem left_boot {p q : Program} {loose : List PySem.Str} {Xt : Shared → Bool} {α : Type} {Yf : Shared → α} {Ya : World → α} {N : Nat} {g0 : Bool} {H₀ : Params → Heap} {gs₀ : Array GenState} {d₀ : Drawn} {k₀ : Nat}
    (op : ∀ w : World, (fencedOpening treeTable p w N).map (fun s => (s.heap, s.gens, s.drawn, s.toks)) = some (H₀ w.params, gs₀, d₀, k₀))
    (h : ∀ (w : World) (os : OsState), (topFrom treeTable p w N ⟨H₀ w.params, gs₀, d₀, k₀, os⟩).map (fun s => (openSeen q loose (importedModules p.main.body) Xt g0 s, Yf s)) = some (openGood q loose, Ya w)) : LeftO p q loose Xt Yf Ya N g0 := fun w => by
  obtain ⟨⟨h₁, gs, d, k, os⟩, e, e'⟩ := Option.map_eq_some_iff.mp (op w)
  obtain ⟨rfl, rfl, rfl, rfl⟩ : h₁ = H₀ w.params ∧ gs = gs₀ ∧ d = d₀ ∧ k = k₀ := by simpa using e'
  unfold openEnds
  rw [e]
  exact h w os
theorem said_well : OpenLaw.wellSaid PySem.Challenge.rw_ok0046_01 = true := by
  unfold OpenLaw.wellSaid OpenRow.wellSaid OpenRow.partSaid looksOpen
  repeat' (with_reducible refine look_both ?_ ?_)
  all_goals k_qdec
local macro_rules | `(tactic| o_head $H) => `(tactic| (refine holds_open (q := viewOf) (loose := []) (Xt := fun s => xlAt viewOf [] s && recOk (RowW.records (OpenRow.toRowW PySem.Challenge.rw_ok0046_01.row)) s) (XP := XL viewOf []) (Yf := Hook.obs $H) (Ya := Hook.val $H) (YP := Hook.says $H) (N := 2820) ?hl (Hook.of $H) (Hook.keeps $H) (fun s e => xl_of s (Bool.and_eq_true_iff.mp e).1) XL.keeps (by rfl) (by rfl) (by rfl) (fun s e => recFacts_of (Bool.and_eq_true_iff.mp e).2) (by rfl) (by first | assumption | decide +kernel) (by decide +kernel) ⟨rfl, rfl, rfl, rfl, rfl, by decide +kernel⟩ ?hw ?hc; (case hl => (refine left_boot top_boot ?_; intro w os; unfold topFrom; rw [PySem.W.Fast.te14082659384304107361, PySem.W.Fast.te14364793385576792824, PySem.W.Fast.te4187177175401517315]; kernel_rfl))))
local macro_rules | `(tactic| o_law) => `(tactic| refine holds_law said_well fun said => ?_)
open_top hd for PySem.Challenge.rw_ok0046_01
theorem probe {M : Model} {A : Around} {Q E : Value → Shared → Prop} {s : Shared} {n : Addr} {args : List Value} (_h : ([166, 173, 180, 185, 192, 197, 202, 110, 117, 124, 131, 138, 145, 152] : List Nat).contains n = true) (g : wpAny M A (PySem.call (.ref n) args) Q E s) : wpAny M A (PySem.call (.ref n) args) Q E s := g
end

theorem fresh_Inf : True := by
  w_top off
  trivial
section
open PySem PySem.W PyProof.Rows PySem.Calls PySem.Spec
/-- what a callee's ground keeps of the caller's other made objects -/
theorem back {h₀ h g h' : Heap} {L L' : Addr} {m' : PySem.Str → Option Value} {adr : List Addr} {rest nw : List (Addr × Obj)}
    (N : News h₀ L h rest) (G : GSub h g adr) (hoff : ∀ p ∈ rest, p.1 ∉ adr) (F' : Fr g L' h' m') (kN : News h₀ L h' nw) : News h₀ L h' (nw ++ rest) := fun p hp => by
  rcases List.mem_append.mp hp with q | q
  · exact kN p q
  · exact ⟨F'.keep _ _ (G _ _ (N p q).1 (hoff p q)), (N p q).2⟩
theorem back0 {h₀ h g h' : Heap} {L L' : Addr} {m' : PySem.Str → Option Value} {rest : List (Addr × Obj)}
    (N : News h₀ L h rest) (G : GSub h g []) (F' : Fr g L' h' m') : News h₀ L h' rest :=
  back (nw := []) N G (fun _ _ => by simp) F' News.nil
theorem backS {h₀ h g h' : Heap} {L L' : Addr} {m' : PySem.Str → Option Value} {adr : List Addr} {rest nw nw' : List (Addr × Obj)}
    (N : News h₀ L h rest) (G : GSub h g adr) (hoff : ∀ p ∈ rest, p.1 ∉ adr) (F' : Fr g L' h' m') (kN : News h₀ L h' nw) (hs : ∀ p ∈ nw', p ∈ nw) : News h₀ L h' (nw' ++ rest) :=
  back N G hoff F' fun p hp => kN p (hs p hp)
theorem back1 {h₀ h g h' : Heap} {L L' : Addr} {m' : PySem.Str → Option Value} {rest nw : List (Addr × Obj)} {q : Addr × Obj}
    (N : News h₀ L h rest) (G : GSub h g []) (F' : Fr g L' h' m') (kN : News h₀ L h' nw) (hs : q ∈ nw) : News h₀ L h' (q :: rest) :=
  backS (nw' := [q]) N G (fun _ _ => by simp) F' kN fun p hp => by rw [List.mem_singleton.mp hp]; exact hs
theorem drop_at {α : Type} {l : List α} {j : Nat} {x : α} (h : l[j]? = some x) : l.drop j = x :: l.drop (j + 1) := by
  have hlt : j < l.length := by
    rcases Nat.lt_or_ge j l.length with h1 | h1
    · exact h1
    · rw [List.getElem?_eq_none h1] at h; cases h
  rw [List.drop_eq_getElem_cons hlt]
  congr 1
  exact Option.some.inj ((List.getElem?_eq_getElem hlt).symm.trans h)
theorem islist_now {g h : Heap} {L : Addr} {m : PySem.Str → Option Value} {l : Addr} {xs : Array Value} (F : Fr g L h m) (hl : g.IsList l xs) : h.IsList l xs := by
  obtain ⟨o, ho, r⟩ := hl
  exact ⟨o, F.keep _ _ ho, r⟩
theorem islist_g {h g : Heap} {adr : List Addr} {l : Addr} {xs : Array Value} (G : GSub h g adr) (hl : h.IsList l xs) (hn : l ∉ adr) : g.IsList l xs := by
  obtain ⟨o, ho, r⟩ := hl
  exact ⟨o, G _ _ ho hn, r⟩

noncomputable def OffN (I : Nat) : List (Addr × Obj) → Prop
  | [] => True
  | p :: r => @Ne Nat p.1 I ∧ OffN I r
theorem offN {I : Addr} : ∀ {l : List (Addr × Obj)}, (∀ p ∈ l, p.1 ≠ I) → OffN I l
  | [], _ => trivial
  | p :: _, h => ⟨h p (.head _), offN fun q hq => h q (.tail _ hq)⟩
theorem offN_mem {I : Addr} {l : List (Addr × Obj)} (h : OffN I l) : ∀ p ∈ l, p.1 ≠ I := by
  induction l with
  | nil => intro p hp; cases hp
  | cons q r ih =>
    intro p hp
    rcases List.mem_cons.mp hp with e | hp
    · rw [e]; exact h.1
    · exact ih h.2 p hp
section
variable {prog : Program} {w : World} {A : Around} {E : Value → Shared → Prop} {s : Shared} {env : Env} {h₀ : Heap} {x : PySem.Str} {body : List Stmt} {Q : Flow → Shared → Prop}

def TurnE (h₀ : Heap) (L I : Addr) (oI : Obj) (J : (PySem.Str → Option Value) → List (Addr × Obj) → Prop) (s₁ s₂ : Shared) : Prop :=
  ∃ h' tk m' nx, s₂ = { s₁ with heap := h', toks := tk } ∧ Fr h₀ L h' m' ∧ News h₀ L h' ((I, oI) :: nx) ∧ (∀ p ∈ nx, p.1 ≠ I) ∧ J m' nx
def TurnP (h₀ : Heap) (L I : Addr) (oI : Obj) (J : (PySem.Str → Option Value) → List (Addr × Obj) → Prop) (s₁ : Shared) (Q : Flow → Shared → Prop) (f : Flow) (s₂ : Shared) : Prop :=
  match f with
  | .ret v => Q (.ret v) s₂
  | .brk => Q .next s₂
  | _ => TurnE h₀ L I oI J s₁ s₂
theorem TurnE.intro {L I : Addr} {oI : Obj} {J : (PySem.Str → Option Value) → List (Addr × Obj) → Prop} {s₁ : Shared} {h' : Heap} {tk : Nat} {m' : PySem.Str → Option Value} {nx news' : List (Addr × Obj)}
    (F : Fr h₀ L h' m') (N : News h₀ L h' news') (h1 : (I, oI) ∈ news') (h2 : ∀ p ∈ nx, p ∈ news') (h3 : ∀ p ∈ nx, p.1 ≠ I) (hj : J m' nx) : TurnE h₀ L I oI J s₁ { s₁ with heap := h', toks := tk } :=
  ⟨h', tk, m', nx, rfl, F, fun p hp => by
    rcases List.mem_cons.mp hp with rfl | q
    · exact N _ h1
    · exact N _ (h2 p q), h3, hj⟩

theorem loop_any {I : Addr} {fp : List Addr} {n : Nat} {P : Nat → Value → Prop} {St : Nat → Heap → Prop} {m₀ : PySem.Str → Option Value} {news : List (Addr × Obj)} (J : Nat → (PySem.Str → Option Value) → List (Addr × Obj) → Prop)
    (W : Walks prog w A I fp [I] n P St) (hLf : env.locals ∉ fp) (hI0 : h₀.get? I = none) (hnw : ∀ p ∈ news, p.1 ≠ I) (hst : St 0 s.heap) (hI : ∀ i h, St i h → ∃ o, h.get? I = some o)
    (hsrc : ∀ b ∈ fp, b = I ∨ ∃ o, h₀.get? b = some o ∨ ∀ i m nx, J i m nx → (b, o) ∈ nx)
    (F : Fr h₀ env.locals s.heap m₀) (N : News h₀ env.locals s.heap news) (hj : J 0 m₀ news)
    (turn : ∀ i v m₁ nx oI h tk, i < n → P i v → J i m₁ nx → (∀ p ∈ nx, p.1 ≠ I) → Fr h₀ env.locals h (fun y => if y = x then some v else m₁ y) → News h₀ env.locals h ((I, oI) :: nx) →
      wpAny (model prog w) A (execs body env) (TurnP h₀ env.locals I oI (J (i + 1)) { s with heap := h, toks := tk } Q) E { s with heap := h, toks := tk })
    (done : ∀ m₁ nx h tk, J n m₁ nx → Fr h₀ env.locals h m₁ → News h₀ env.locals h nx → Q .next { s with heap := h, toks := tk }) :
    LoopAtV prog w A h₀ env x body Q E (.ref I) s := by
  have hIf : I ∈ fp := W.sub I (by simp)
  refine ⟨I, fp, [I], n, P, St, m₀, news, J, rfl, W, hLf, ?_, ?_, hst, F, N, hj, ?_, ?_⟩
  · intro b hb
    rw [List.mem_singleton.mp hb]
    exact hI0
  · intro p hp hq
    exact hnw p hp (List.mem_singleton.mp hq)
  · rintro i v m₁ nx s₁ own ⟨hh', tk', rfl⟩ hin hP hJ hoff hown hget hall hst' F₁ N₁
    obtain ⟨oI, hoI⟩ := hI _ _ hst'
    have hmI : (I, oI) ∈ own := hall I hIf hI0 oI hoI
    have N₂ : News h₀ env.locals hh' ((I, oI) :: nx) := fun p hp => by
      rcases List.mem_cons.mp hp with rfl | q
      · exact N₁ _ (List.mem_append_left _ hmI)
      · exact N₁ _ (List.mem_append_right _ q)
    refine wpAny_mono (turn i v m₁ nx oI hh' tk' hin hP hJ (fun p hp => fun e => hoff p hp (by rw [e]; simp)) F₁ N₂) (fun f s₂ p => ?_) fun _ _ e => e
    have fin : TurnE h₀ env.locals I oI (J (i + 1)) { s with heap := hh', toks := tk' } s₂ → LoopStepU h₀ env.locals [I] own (J (i + 1)) { s with heap := hh', toks := tk' } .next s₂ := by
      rintro ⟨h', tk, m', nx', e, F', N', h3, hJ'⟩
      refine ⟨rfl, h', tk, m', nx', e, F', fun p hp => ?_, fun p hp hq => h3 p hp (List.mem_singleton.mp hq), hJ'⟩
      rcases List.mem_append.mp hp with q | q
      · have h5 := hget p q
        rcases hsrc p.1 (hown p q) with hpI | ⟨o, ho | ho⟩
        · rw [hpI] at h5
          have h6 : hh'.get? I = some oI := (N₂ (I, oI) (.head _)).1
          rw [h6] at h5
          have h7 : p = (I, oI) := Prod.ext hpI (Option.some.inj h5).symm
          rw [h7]
          exact N' _ (.head _)
        · have := (N₁ p (List.mem_append_left _ q)).2.2
          rw [ho] at this
          cases this
        · have h6 : hh'.get? p.1 = some o := (N₂ (p.1, o) (List.mem_cons_of_mem _ (ho _ _ _ hJ))).1
          rw [h6] at h5
          have h7 : p = (p.1, o) := Prod.ext rfl (Option.some.inj h5).symm
          rw [h7]
          exact N' _ (List.mem_cons_of_mem _ (ho _ _ _ hJ'))
      · exact N' _ (List.mem_cons_of_mem _ q)
    cases f with
    | ret v => exact .ret p
    | brk => exact .brk p
    | next => exact .next (fin p)
    | cont => exact .cont (fin p)
  · rintro h' tk m' news' F' N' _ hJ
    exact done m' news' h' tk hJ F' N'

/-- a for over a list that the turns leave as it is: of the ground, or of the ledger -/
theorem for_list {l : Addr} {ol : Obj} {k : Nat} {vs : List Value} {m₀ : PySem.Str → Option Value} {news : List (Addr × Obj)} (J : Nat → (PySem.Str → Option Value) → List (Addr × Obj) → Prop)
    (hh : A.handled = none) (hl : s.heap.get? l = some ol) (hc : ol.cls = .type "list") (hd : ol.data = .seq vs.toArray k) (hL : l ≠ env.locals)
    (hsrc : h₀.get? l = some ol ∨ ∀ i m nx, J i m nx → (l, ol) ∈ nx)
    (F : Fr h₀ env.locals s.heap m₀) (N : News h₀ env.locals s.heap news) (hj : J 0 m₀ news)
    (turn : ∀ i v m₁ nx I oI h tk, vs[i]? = some v → J i m₁ nx → (∀ p ∈ nx, p.1 ≠ I) → Fr h₀ env.locals h (fun y => if y = x then some v else m₁ y) → News h₀ env.locals h ((I, oI) :: nx) →
      wpAny (model prog w) A (execs body env) (TurnP h₀ env.locals I oI (J (i + 1)) { s with heap := h, toks := tk } Q) E { s with heap := h, toks := tk })
    (done : ∀ m₁ nx h tk, J vs.length m₁ nx → Fr h₀ env.locals h m₁ → News h₀ env.locals h nx → Q .next { s with heap := h, toks := tk }) :
    wpAny (model prog w) A (pyIter (.ref l)) (fun it s₂ => LoopAtV prog w A h₀ env x body Q E it s₂) E s := by
  have hls : s.heap.IsList l vs.toArray := ⟨_, hl, hc, k, hd⟩
  have hne : l ≠ s.heap.objs.size := Nat.ne_of_lt (Heap.lt_size hl)
  refine wpAny_pyIter_list hls ?_
  have W := Walks.list (prog := prog) (w := w) hh s.heap.objs.size l hne vs.toArray
  refine loop_any J W ?_ ?_ ?_ ⟨⟨_, Heap.get?_push_size _ rfl, rfl, rfl⟩, hls.at fun o e => Heap.get?_push_of_some _ e⟩ ?_ ?_ (F.push _) (fun p hp => ⟨Heap.get?_push_of_some _ (N p hp).1, (N p hp).2⟩) hj ?_ ?_
  · intro hm
    rcases List.mem_cons.mp hm with e | hm
    · exact absurd F.ns.lt (e ▸ Nat.lt_irrefl _)
    · exact hL (List.mem_singleton.mp hm).symm
  · exact next_is_new F
  · intro p hp hI
    exact absurd (Heap.lt_size (N p hp).1) (hI ▸ Nat.lt_irrefl _)
  · rintro i h ⟨⟨o, ho, _⟩, _⟩
    exact ⟨o, ho⟩
  · intro b hb
    rcases List.mem_cons.mp hb with e | hb
    · exact .inl e
    · rw [List.mem_singleton.mp hb]
      exact .inr ⟨ol, hsrc⟩
  · intro i v m₁ nx oI h tk hi hP hJ ho F' N'
    exact turn i v m₁ nx _ oI h tk (by simpa using hP) hJ ho F' N'
  · intro m₁ nx h tk hJ F' N'
    exact done m₁ nx h tk (by simpa using hJ) F' N'

/-- a for over range(n) -/
theorem for_range {r : Addr} {b₀ : Int} {t₀ u₀ v₀ : Tok} {n : Nat} {m₀ : PySem.Str → Option Value} {news : List (Addr × Obj)} (J : Nat → (PySem.Str → Option Value) → List (Addr × Obj) → Prop)
    (hh : A.handled = none) (hr : IsRange s.heap r 0 b₀ 1 t₀ u₀ v₀) (hsmall : Builtin.Range.small 0 b₀ 1 = true) (hn : Builtin.Range.rangeSize 0 b₀ 1 = (n : Int))
    (F : Fr h₀ env.locals s.heap m₀) (N : News h₀ env.locals s.heap news) (hj : J 0 m₀ news)
    (turn : ∀ i t m₁ nx I oI h tk, i < n → J i m₁ nx → (∀ p ∈ nx, p.1 ≠ I) → Fr h₀ env.locals h (fun y => if y = x then some (.int (i : Nat) t) else m₁ y) → News h₀ env.locals h ((I, oI) :: nx) →
      wpAny (model prog w) A (execs body env) (TurnP h₀ env.locals I oI (J (i + 1)) { s with heap := h, toks := tk } Q) E { s with heap := h, toks := tk })
    (done : ∀ m₁ nx h tk, J n m₁ nx → Fr h₀ env.locals h m₁ → News h₀ env.locals h nx → Q .next { s with heap := h, toks := tk }) :
    wpAny (model prog w) A (pyIter (.ref r)) (fun it s₂ => LoopAtV prog w A h₀ env x body Q E it s₂) E s := by
  refine wpAny_pyIter_range hr hsmall ?_
  have W : Walks prog w A s.heap.objs.size [s.heap.objs.size] [s.heap.objs.size] n (fun i v => i < n ∧ ∃ t, v = .int (0 + i * 1) t)
      (fun i h => IsRangeIter h s.heap.objs.size (0 + (i : Nat) * 1) ((n : Int) - (i : Nat)) 1) := (Walks.range hh _ 0 1 n).bound
  refine loop_any J W ?_ ?_ ?_ (by show IsRangeIter _ _ _ _ _; rw [hn]; simpa using Heap.get?_push_size _ rfl) ?_ ?_ (F.push _) (fun p hp => ⟨Heap.get?_push_of_some _ (N p hp).1, (N p hp).2⟩) hj ?_ ?_
  · intro hm
    exact absurd F.ns.lt ((List.mem_singleton.mp hm) ▸ Nat.lt_irrefl _)
  · exact next_is_new F
  · intro p hp hI
    exact absurd (Heap.lt_size (N p hp).1) (hI ▸ Nat.lt_irrefl _)
  · intro i h hi
    exact ⟨_, hi⟩
  · intro b hb
    exact .inl (List.mem_singleton.mp hb)
  · rintro i v m₁ nx oI h tk hi ⟨_, t, rfl⟩ hJ ho F' N'
    simp only [Int.zero_add, Int.mul_one] at F'
    exact turn i t m₁ nx _ oI h tk hi hJ ho F' N'
  · exact done

/-- what a state of a loop says of the frame and the ledger -/
def KS {σ : Type} (Led : σ → List (Addr × Obj)) (ps : σ → List (PySem.Str × Value)) (x : PySem.Str) (stored : List PySem.Str) (m₀ : PySem.Str → Option Value) (P : σ → Prop) (m : PySem.Str → Option Value) (nx : List (Addr × Obj)) : Prop :=
  ∃ c : σ, nx = Led c ∧ (∀ p ∈ ps c, m p.1 = some p.2) ∧ (∀ z, z ≠ x → (∀ p ∈ ps c, z ≠ p.1) → stored.contains z = false → m z = m₀ z) ∧ P c
theorem turnS {σ : Type} {Led : σ → List (Addr × Obj)} {ps : σ → List (PySem.Str × Value)} {stored : List PySem.Str} {m₀ m' : PySem.Str → Option Value} {P : σ → Prop} {L I : Addr} {oI : Obj} {s₁ : Shared} {h' : Heap} {tk : Nat} {news' : List (Addr × Obj)} (c : σ)
    (F : Fr h₀ L h' m') (N : News h₀ L h' news') (h1 : (I, oI) ∈ news') (h2 : ∀ p ∈ Led c, p ∈ news') (h3 : ∀ p ∈ Led c, p.1 ≠ I) (hk : ∀ p ∈ ps c, m' p.1 = some p.2) (hr : ∀ z, z ≠ x → (∀ p ∈ ps c, z ≠ p.1) → stored.contains z = false → m' z = m₀ z) (hp : P c) :
    TurnE h₀ L I oI (KS Led ps x stored m₀ P) s₁ { s₁ with heap := h', toks := tk } := TurnE.intro F N h1 h2 h3 ⟨c, rfl, hk, hr, hp⟩

theorem for_listS {σ : Type} {l : Addr} {ol : Obj} {k : Nat} {vs : List Value} {m₀ : PySem.Str → Option Value} (Led : σ → List (Addr × Obj)) (ps : σ → List (PySem.Str × Value)) (stored : List PySem.Str) (P : Nat → σ → Prop) (c₀ : σ)
    (hh : A.handled = none) (hl : s.heap.get? l = some ol) (hc : ol.cls = .type "list") (hd : ol.data = .seq vs.toArray k) (hL : l ≠ env.locals)
    (hsrc : h₀.get? l = some ol ∨ ∀ c, (l, ol) ∈ Led c)
    (F : Fr h₀ env.locals s.heap m₀) (N : News h₀ env.locals s.heap (Led c₀)) (hk : ∀ p ∈ ps c₀, m₀ p.1 = some p.2) (hp : P 0 c₀)
    (turn : ∀ i v (c : σ) (u : PySem.Str → Option Value) I oI h tk, vs[i]? = some v → P i c → (∀ p ∈ Led c, p.1 ≠ I) → Fr h₀ env.locals h (fun y => if y = x then some v else kstB (fun z => if stored.contains z then u z else m₀ z) (ps c) y) → News h₀ env.locals h ((I, oI) :: Led c) →
      wpAny (model prog w) A (execs body env) (TurnP h₀ env.locals I oI (KS Led ps x stored m₀ (P (i + 1))) { s with heap := h, toks := tk } Q) E { s with heap := h, toks := tk })
    (done : ∀ (c : σ) (u : PySem.Str → Option Value) h tk, P vs.length c → Fr h₀ env.locals h (fun y => if y = x then u y else kstB (fun z => if stored.contains z then u z else m₀ z) (ps c) y) → News h₀ env.locals h (Led c) → Q .next { s with heap := h, toks := tk }) :
    wpAny (model prog w) A (pyIter (.ref l)) (fun it s₂ => LoopAtV prog w A h₀ env x body Q E it s₂) E s := by
  refine for_list (fun i m nx => KS Led ps x stored m₀ (P i) m nx) hh hl hc hd hL ?_ F N ⟨c₀, rfl, hk, fun _ _ _ _ => rfl, hp⟩ ?_ ?_
  · rcases hsrc with e | e
    · exact .inl e
    · exact .inr (by rintro i m nx ⟨c, rfl, _⟩; exact e c)
  · rintro i v m₁ nx I oI h tk hv ⟨c, rfl, h1, h2, hp'⟩ ho F₁ N₁
    exact turn i v c m₁ I oI h tk hv hp' ho (kst_fr h1 h2 F₁) N₁
  · rintro m₁ nx h tk ⟨c, rfl, h1, h2, hp'⟩ F₁ N₁
    exact done c m₁ h tk hp' (kst_frOut h1 h2 F₁) N₁

theorem for_rangeS {σ : Type} {r : Addr} {b₀ : Int} {t₀ u₀ v₀ : Tok} {n : Nat} {m₀ : PySem.Str → Option Value} (Led : σ → List (Addr × Obj)) (ps : σ → List (PySem.Str × Value)) (stored : List PySem.Str) (P : Nat → σ → Prop) (c₀ : σ)
    (hh : A.handled = none) (hr : IsRange s.heap r 0 b₀ 1 t₀ u₀ v₀) (hsmall : Builtin.Range.small 0 b₀ 1 = true) (hn : Builtin.Range.rangeSize 0 b₀ 1 = (n : Int))
    (F : Fr h₀ env.locals s.heap m₀) (N : News h₀ env.locals s.heap (Led c₀)) (hk : ∀ p ∈ ps c₀, m₀ p.1 = some p.2) (hp : P 0 c₀)
    (turn : ∀ i t (c : σ) (u : PySem.Str → Option Value) I oI h tk, i < n → P i c → (∀ p ∈ Led c, p.1 ≠ I) → Fr h₀ env.locals h (fun y => if y = x then some (.int (i : Nat) t) else kstB (fun z => if stored.contains z then u z else m₀ z) (ps c) y) → News h₀ env.locals h ((I, oI) :: Led c) →
      wpAny (model prog w) A (execs body env) (TurnP h₀ env.locals I oI (KS Led ps x stored m₀ (P (i + 1))) { s with heap := h, toks := tk } Q) E { s with heap := h, toks := tk })
    (done : ∀ (c : σ) (u : PySem.Str → Option Value) h tk, P n c → Fr h₀ env.locals h (fun y => if y = x then u y else kstB (fun z => if stored.contains z then u z else m₀ z) (ps c) y) → News h₀ env.locals h (Led c) → Q .next { s with heap := h, toks := tk }) :
    wpAny (model prog w) A (pyIter (.ref r)) (fun it s₂ => LoopAtV prog w A h₀ env x body Q E it s₂) E s := by
  refine for_range (fun i m nx => KS Led ps x stored m₀ (P i) m nx) hh hr hsmall hn F N ⟨c₀, rfl, hk, fun _ _ _ _ => rfl, hp⟩ ?_ ?_
  · rintro i t m₁ nx I oI h tk hi ⟨c, rfl, h1, h2, hp'⟩ ho F₁ N₁
    exact turn i t c m₁ I oI h tk hi hp' ho (kst_fr h1 h2 F₁) N₁
  · rintro m₁ nx h tk ⟨c, rfl, h1, h2, hp'⟩ F₁ N₁
    exact done c m₁ h tk hp' (kst_frOut h1 h2 F₁) N₁
theorem forV {L : Addr} {m : PySem.Str → Option Value} {px pos : Pos} {iter : PySem.Expr} (_F : Fr h₀ L s.heap m) (hx : env.kindOf x = some .local)
    (hp : (env.scope.kind == .class || (env.scope.kind == .module && env.locals != env.globals)) = false)
    (h : wpAny (model prog w) A (eval iter env) (fun xv s₁ => wpAny (model prog w) A (pyIter xv) (fun it s₂ => LoopAtV prog w A h₀ env x body Q E it s₂) E s₁) E s)
    (hs : ∀ x, foldedSetIterable iter env x = pure x) (hE : PassesOwn (model prog w) A env E) :
    wpAny (model prog w) A (exec (.For (.Name x px) iter body [] pos) env) Q E s := For_invV h₀ hx hp h hs hE
end
end

theorem fresh_Comp : True := by
  w_top off
  trivial
section
open PySem PySem.W PyProof.Rows PySem.Calls PySem.Spec PyProof.Rows.LCg
local macro_rules | `(tactic| walk_at "Mine.om") => `(tactic| first | omega | (refine neN ?_; (try dsimp only); omega) | (refine ltN ?_; (try dsimp only); omega))
section
variable {prog : Program} {w : World} {A : Around} {E : Value → Shared → Prop} {s : Shared} {env : Env} {h₀ : Heap} {L : Nat} {m : PySem.Str → Option Value}

/-- the end of a block's turn: the block's own frame C, the frame around it L as an object, the list D that grows, the iterator I -/
def CEnd (h₀ : Heap) (L C D I : Nat) (oL oI : Obj) (s₁ : Shared) (ys : List Value) (J : List Value → List (Addr × Obj) → Prop) (zs : List Value) (s₂ : Shared) : Prop :=
  ∃ h' tk mC nx, s₂ = { s₁ with heap := h', toks := tk } ∧ Fr h₀ C h' mC ∧ News h₀ C h' ((L, oL) :: (D, lst ys) :: (I, oI) :: nx) ∧ (∀ p ∈ nx, p.1 ≠ L ∧ p.1 ≠ D ∧ p.1 ≠ I) ∧ J zs nx
theorem CEnd.intro {C D I : Nat} {oL oI : Obj} {s₁ : Shared} {ys zs : List Value} {J : List Value → List (Addr × Obj) → Prop} {h' : Heap} {tk : Nat} {mC : PySem.Str → Option Value} {nx news' : List (Addr × Obj)}
    (F : Fr h₀ C h' mC) (N : News h₀ C h' news') (h1 : ∀ p ∈ (L, oL) :: (D, lst ys) :: (I, oI) :: nx, p ∈ news') (h2 : ∀ p ∈ nx, p.1 ≠ L ∧ p.1 ≠ D ∧ p.1 ≠ I) (hj : J zs nx) :
    CEnd h₀ L C D I oL oI s₁ ys J zs { s₁ with heap := h', toks := tk } := ⟨h', tk, mC, nx, rfl, F, fun p hp => N p (h1 p hp), h2, hj⟩

abbrev tests (ifs : List PySem.Expr) (env : Env) : Sem Bool := forIn ifs true fun c r => if r = true then do let ok ← isTrue c env (eval c env); pure (ForInStep.yield ok) else pure (ForInStep.yield r)

theorem comp_loop {elt target iter : PySem.Expr} {ifs : List PySem.Expr} {scope : Scope} {pos : Pos} {it acc : Value} {R : Result → Shared → Prop} (I : Nat → Shared → Prop)
    (turn : ∀ n s, I n s → wpAny (model prog w) A (pyNext it) (fun r s₁ => match r with
      | none => R (.ok .next) s₁
      | some v => wpAny (model prog w) A (letOwnedTupleGo target it v) (fun _ s₀ => wpAny (model prog w) A (assign target env v) (fun _ s₂ =>
          wpAny (model prog w) A (tests ifs env) (fun ok s₃ => if ok = true then wpAny (model prog w) A (eval elt env) (fun x s₄ =>
            wpAny (model prog w) A (call (.builtin "list.append") [acc, x]) (fun _ s₅ => ∃ m, m < n ∧ I m s₅) (notedBy (model prog w) A env fun e s' => R (.error e) s') s₄) (notedBy (model prog w) A env fun e s' => R (.error e) s') s₃
            else ∃ m, m < n ∧ I m s₃) (notedBy (model prog w) A env fun e s' => R (.error e) s') s₂)
          (notedBy (model prog w) A env fun e s' => R (.error e) s') s₀) (notedBy (model prog w) A env fun e s' => R (.error e) s') s₁) (notedBy (model prog w) A env fun e s' => R (.error e) s') s)
    (n : Nat) (h : I n s) : codeAny (model prog w) A (.compLoop (.ListComp elt [⟨target, iter, ifs, 0⟩] scope pos) 0 it acc env) R s := by
  refine codeAny_loop rfl I (fun n s hI => ?_) n h
  show wpAny _ A ((compTurn (.ListComp elt [⟨target, iter, ifs, 0⟩] scope pos) 0 it acc env).onRaise (fun x => do noteFrame x env; theTreesLotGoes x)) _ _ s
  refine wpAny_noted ?_
  rw [compTurn_list]
  refine wpAny_bind (wpAny_standAt (wpAny_bind (wpAny_mono (turn n s hI) (fun r s₁ h₁ => ?_) fun _ _ h' => h')))
  cases r with
  | none => exact wpAny_pure h₁
  | some v =>
    refine wpAny_bind (wpAny_mono h₁ (fun _ s₀ h₀' => ?_) fun _ _ h' => h')
    refine wpAny_bind (wpAny_mono h₀' (fun _ s₂ h₂ => ?_) fun _ _ h' => h')
    refine wpAny_bind (wpAny_mono h₂ (fun ok s₃ h₃ => ?_) fun _ _ h' => h')
    cases ok with
    | true =>
      simp only [if_true] at h₃ ⊢
      exact wpAny_bind (wpAny_bind (wpAny_mono h₃ (fun x s₄ h₄ => wpAny_bind (wpAny_mono h₄ (fun _ s₅ h₅ => wpAny_pure (wpAny_pure ⟨rfl, h₅⟩)) fun _ _ h' => h')) fun _ _ h' => h'))
    | false =>
      simp only [Bool.false_eq_true, if_false] at h₃ ⊢
      exact wpAny_pure ⟨rfl, h₃⟩

/-- one turn of a block -/
def CTurn (prog : Program) (w : World) (A : Around) (h₀ : Heap) (L : Nat) (target elt : PySem.Expr) (ifs : List PySem.Expr) (scope : Scope) (cl : List (PySem.Str × Addr)) (env : Env) (J : Nat → List Value → List (Addr × Obj) → Prop) (s : Shared) (i : Nat) (v : Value) : Prop :=
  ∀ ys (C D I : Nat) oL oI nx mC h tk (E' : Value → Shared → Prop), J i ys nx → (∀ p ∈ nx, p.1 ≠ L ∧ p.1 ≠ D ∧ p.1 ≠ I) → L ≠ C → L ≠ D → L ≠ I → D ≠ C → I ≠ C → D ≠ I → Fr h₀ C h mC → News h₀ C h ((L, oL) :: (D, lst ys) :: (I, oI) :: nx) →
    wpAny (model prog w) A (assign target (compEnvC scope cl C env) v) (fun _ s₃ => wpAny (model prog w) A (tests ifs (compEnvC scope cl C env)) (fun ok s₄ =>
      if ok = true then wpAny (model prog w) A (eval elt (compEnvC scope cl C env)) (fun y s₅ => CEnd h₀ L C D I oL oI { s with heap := h, toks := tk } ys (J (i + 1)) (ys ++ [y]) s₅) E' s₄
      else CEnd h₀ L C D I oL oI { s with heap := h, toks := tk } ys (J (i + 1)) ys s₄) E' s₃) E' { s with heap := h, toks := tk }

theorem fresh_at {h : Heap} {a : Addr} (ha : h.objs.size ≤ a) : h.get? a = none := by
  cases e : h.get? a with
  | none => rfl
  | some o' => exact absurd (Heap.lt_size e) (Nat.not_lt.mpr ha)

theorem comp_block {elt target iter : PySem.Expr} {ifs : List PySem.Expr} {scope : Scope} {cl : List (PySem.Str × Addr)} {pos : Pos} {l : Nat} {ol : Obj} {k : Nat} {vs : List Value} {news : List (Addr × Obj)} {s₁ : Shared}
    (J : Nat → List Value → List (Addr × Obj) → Prop) {RR : Value → Addr → Result → Shared → Prop}
    (hh : A.handled = none) (hl : s₁.heap.get? l = some ol) (hc : ol.cls = .type "list") (hd : ol.data = .seq vs.toArray k) (hsz : vs.length ≤ sizeLine) (hL : l ≠ L)
    (hgo : ∀ (I : Addr) (v : Value) (s : Shared) (i : Nat) (Q : Unit → Shared → Prop) (E : Value → Shared → Prop), s.heap.IsListIter I l i → Q () s → wpAny (model prog w) A (letOwnedTupleGo target (.ref I) v) Q E s)
    (hsrc : h₀.get? l = some ol ∨ ∀ i ys nx, J i ys nx → (l, ol) ∈ nx)
    (hcell : ∀ y ∈ scope.names, y.2 ≠ .cell) (hkind : scope.kind = .function)
    (F : Fr h₀ L s₁.heap m) (N : News h₀ L s₁.heap news) (hj : J 0 [] news)
    (turn : ∀ i v, vs[i]? = some v → CTurn prog w A h₀ L target elt ifs scope cl env J s₁ i v)
    (hRR : ∀ (D C : Nat) h tk m' ys nx, s₁.heap.objs.size < D → Fr h₀ L h m → News h₀ L h ((D, lst ys) :: nx) → (∀ p ∈ nx, p.1 ≠ D) → h.Ns C m' → h₀.get? C = none → C ≠ L → C ≠ D → (∀ p ∈ nx, p.1 ≠ C) → J vs.length ys nx → RR (.ref D) C (.ok .next) { s₁ with heap := h, toks := tk }) :
    wpAny (model prog w) A (pyIter (.ref l)) (fun it s₂ => wpAny (model prog w) A (newList []) (fun acc s₃ => wpAny (model prog w) A (newFunctionEnv scope env.globals cl [] env.qual none .none (some env)) (fun cenv s₄ =>
      codeAny (model prog w) A (.compStart (.ListComp elt [⟨target, iter, ifs, 0⟩] scope pos) 0 it acc { cenv with scope := relabel scope env }) (RR acc cenv.locals) s₄) E s₃) E s₂) E s₁ := by
  have hls : s₁.heap.IsList l vs.toArray := ⟨_, hl, hc, k, hd⟩
  refine wpAny_pyIter_list hls ?_
  generalize hH1 : s₁.heap.push { cls := .type "list_iterator", data := .fields #[.ref l, .int 0 0] } = H1
  have s1 : H1.objs.size = s₁.heap.objs.size + 1 := by rw [← hH1, Heap.size_push]
  have hIit : H1.IsListIter s₁.heap.objs.size l 0 := by rw [← hH1]; exact ⟨_, Heap.get?_push_size _ rfl, rfl, rfl⟩
  have old1 : ∀ b o, s₁.heap.get? b = some o → H1.get? b = some o := fun b o e => by rw [← hH1]; exact Heap.get?_push_of_some _ e
  refine wpAny_newObj_type (wpAny_newFunctionEnv hcell (by intro y hy; simp at hy) (fun h₁ hns₁ hsb₁ => ?_) hkind)
  dsimp only at hns₁ hsb₁ ⊢
  generalize hH2 : H1.push { cls := .type "list", dict := none, data := .seq ([] : List Value).toArray } = H2 at hns₁ hsb₁ ⊢
  have s2 : H2.objs.size = H1.objs.size + 1 := by rw [← hH2, Heap.size_push]
  generalize hI : s₁.heap.objs.size = I at *
  generalize hD : H1.objs.size = D at *
  generalize hC : H2.objs.size = C at *
  have eD : D = I + 1 := s1
  have eC : C = I + 2 := by walk_at "Mine.om"
  have lt1 : ∀ (b : Nat) o, s₁.heap.get? b = some o → b < I := fun b o e => hI ▸ Heap.lt_size e
  have old2 : ∀ (b : Nat) o, b ≠ C → H2.get? b = some o → h₁.get? b = some o := fun b o hb e => hsb₁.extBut b o hb (Heap.get?_push_of_some _ e)
  have old : ∀ b o, s₁.heap.get? b = some o → h₁.get? b = some o := fun b o e => old2 b o (by have := lt1 b o e; omega) (hH2 ▸ Heap.get?_push_of_some _ (old1 b o e))
  have hacc : h₁.get? D = some (lst []) := old2 _ _ (by walk_at "Mine.om") (by rw [← hH2, ← hD]; exact Heap.get?_push_size _ rfl)
  have hit₁ : h₁.IsListIter I l 0 := by
    obtain ⟨o, ho, r⟩ := hIit
    exact ⟨o, old2 _ _ (by walk_at "Mine.om") (hH2 ▸ Heap.get?_push_of_some _ ho), r⟩
  have hL0 : h₀.get? L = none := fresh_at F.above
  have hsz0 : h₀.objs.size ≤ L := F.above
  have hLI : L < I := hI ▸ F.ns.lt
  have hI0 : h₀.get? I = none := fresh_at (by walk_at "Mine.om")
  have hD0 : h₀.get? D = none := fresh_at (by walk_at "Mine.om")
  have hC0 : h₀.get? C = none := fresh_at (by walk_at "Mine.om")
  have W := Walks.list (prog := prog) (w := w) hh I l (Nat.ne_of_lt (lt1 _ _ hl)) vs.toArray
  have loop : ∀ s₃ : Shared, s₃ = { s₁ with heap := h₁, toks := s₁.toks + ([] : List (PySem.Str × Value)).length } →
      codeAny (model prog w) A (.compLoop (.ListComp elt [⟨target, iter, ifs, 0⟩] scope pos) 0 (.ref I) (.ref D) (compEnvC scope cl C env))
        (RR (.ref D) C) s₃ := by
    rintro s₃ rfl
    refine comp_loop
      (fun kk s' => ∃ h' tk i ys m' nx, s' = { s₁ with heap := h', toks := tk } ∧ i ≤ vs.length ∧ kk = vs.length + 1 - i ∧ ys.length ≤ i ∧ h'.IsListIter I l i ∧ Fr h₀ L h' m ∧ h'.Ns C m' ∧
        News h₀ L h' ((D, lst ys) :: nx) ∧ (∀ p ∈ nx, p.1 ≠ D ∧ p.1 ≠ I ∧ p.1 ≠ C) ∧ J i ys nx) ?_ (vs.length + 1)
      ⟨h₁, _, 0, [], _, news, rfl, Nat.zero_le _, rfl, Nat.le_refl _, hit₁, F.keeps old, hns₁, fun p hp => ?_, fun p hp => ?_, hj⟩
    · rintro kk s' ⟨h', tk, i, ys, m', nx, rfl, hi, rfl, hyl, hit', F', hn', N', off', hJ⟩
      have hl' : h'.IsList l vs.toArray := by
        rcases hsrc with e | e
        · exact ⟨ol, F'.keep _ _ e, hc, k, hd⟩
        · exact ⟨ol, (N' _ (List.mem_cons_of_mem _ (e _ _ _ hJ))).1, hc, k, hd⟩
      by_cases hlt : i < vs.length
      · refine W.item i _ _ _ (by simpa using hlt) ⟨hit', hl'⟩ fun v h₂ tk₂ hP hst₂ hk₂ => ?_
        have up : ∀ (c : Nat) o, c ≠ I → h'.get? c = some o → h₂.get? c = some o := fun c o hc e => hk₂ c o (by simpa using hc) e
        refine hgo I v _ (i + 1) _ _ hst₂.1 ?_
        obtain ⟨oI, heI, hcI, hdI⟩ := hst₂.1
        have F₂ : Fr h₀ L h₂ m := ⟨F'.ns.at' fun o e => up _ o (by walk_at "Mine.om") e, fun c o e => up c o (fun q => by rw [q, hI0] at e; cases e) (F'.keep c o e), F'.above⟩
        obtain ⟨oL, heL, hoL⟩ := ns_obj F₂.ns
        have FC : Fr h₀ C h₂ m' := ⟨hn'.at' fun o e => up _ o (by walk_at "Mine.om") e, F₂.keep, Nat.le_of_lt (Nat.lt_of_le_of_lt hsz0 (Nat.lt_trans hLI (by omega)))⟩
        have NC : News h₀ C h₂ ((L, oL) :: (D, lst ys) :: (I, oI) :: nx) := fun q hq => by
          rcases List.mem_cons.mp hq with rfl | hq
          · exact ⟨heL, by walk_at "Mine.om", hL0⟩
          · rcases List.mem_cons.mp hq with rfl | hq
            · exact ⟨up _ _ (by walk_at "Mine.om") (N' _ (.head _)).1, by walk_at "Mine.om", hD0⟩
            · rcases List.mem_cons.mp hq with rfl | hq
              · exact ⟨heI, by walk_at "Mine.om", hI0⟩
              · have z := N' q (List.mem_cons_of_mem _ hq)
                exact ⟨up _ _ (off' q hq).2.1 z.1, (off' q hq).2.2, z.2.2⟩
        have offN : ∀ p ∈ nx, p.1 ≠ L ∧ p.1 ≠ D ∧ p.1 ≠ I := fun p hp => ⟨(N' p (List.mem_cons_of_mem _ hp)).2.1, (off' p hp).1, (off' p hp).2.1⟩
        have fin : ∀ zs (s₅ : Shared), CEnd h₀ L C D I oL oI { s₁ with heap := h₂, toks := tk₂ } ys (J (i + 1)) zs s₅ → ∃ h₅ tk₅ m₅ nx₅, s₅ = { s₁ with heap := h₅, toks := tk₅ } ∧ h₅.IsListIter I l (i + 1) ∧ Fr h₀ L h₅ m ∧ h₅.Ns C m₅ ∧ News h₀ L h₅ ((D, lst ys) :: nx₅) ∧ (∀ p ∈ nx₅, p.1 ≠ D ∧ p.1 ≠ I ∧ p.1 ≠ C) ∧ J (i + 1) zs nx₅ := by
          rintro zs s₅ ⟨h₅, tk₅, m₅, nx₅, rfl, F₅, N₅, off₅, hJ₅⟩
          refine ⟨h₅, tk₅, m₅, nx₅, rfl, ⟨oI, (N₅ (I, oI) (by simp)).1, hcI, hdI⟩, ⟨hoL.ns (N₅ (L, oL) (by simp)).1, F₅.keep, F.above⟩, F₅.ns, fun q hq => ?_, fun p hp => ⟨(off₅ p hp).2.1, (off₅ p hp).2.2, (N₅ p (by simp [hp])).2.1⟩, hJ₅⟩
          rcases List.mem_cons.mp hq with rfl | hq
          · exact ⟨(N₅ (D, lst ys) (by simp)).1, by walk_at "Mine.om", hD0⟩
          · exact ⟨(N₅ q (by simp [hq])).1, (off₅ q hq).1, (N₅ q (by simp [hq])).2.2⟩
        refine wpAny_mono (turn i v (by simpa using hP) ys C D I oL oI nx m' h₂ tk₂ _ hJ offN (by walk_at "Mine.om") (by walk_at "Mine.om") (by walk_at "Mine.om") (by walk_at "Mine.om") (by walk_at "Mine.om") (by walk_at "Mine.om") FC NC) (fun _ s₃ h₃ => ?_) fun _ _ e => e
        refine wpAny_mono h₃ (fun ok s₄ h₄ => ?_) fun _ _ e => e
        cases ok with
        | true =>
          simp only [if_true] at h₄ ⊢
          refine wpAny_mono h₄ (fun y s₅ h₅ => ?_) fun _ _ e => e
          obtain ⟨h₅, tk₅, m₅, nx₅, rfl, it₅, F₅, n₅, N₅, off₅, hJ₅⟩ := fin _ _ h₅
          have zD := (N₅ (D, lst ys) (.head _)).1
          refine append_at (hsz := by show ys.toArray.size ≤ sizeLine; rw [List.size_toArray]; omega) zD fun h₆ hs₆ hD₆ => ?_
          refine ⟨vs.length + 1 - (i + 1), by walk_at "Mine.om", h₆, tk₅, i + 1, ys ++ [y], _, nx₅, rfl, hlt, rfl, by rw [List.length_append, List.length_singleton]; omega, it₅.extBut hs₆.extBut (by walk_at "Mine.om"), F₅.change hs₆ (by walk_at "Mine.om") hD0,
            n₅.sameBut hs₆ (by walk_at "Mine.om"), fun q hq => ?_, off₅, hJ₅⟩
          rcases List.mem_cons.mp hq with rfl | hq
          · exact ⟨hD₆.trans (congrArg some (lst_snoc ys y)), by walk_at "Mine.om", hD0⟩
          · have z := N₅ q (List.mem_cons_of_mem _ hq)
            exact ⟨hs₆.extBut _ _ (off₅ q hq).1 z.1, z.2⟩
        | false =>
          simp only [Bool.false_eq_true, if_false] at h₄ ⊢
          obtain ⟨h₅, tk₅, m₅, nx₅, rfl, it₅, F₅, n₅, N₅, off₅, hJ₅⟩ := fin _ _ h₄
          exact ⟨vs.length + 1 - (i + 1), by walk_at "Mine.om", h₅, tk₅, i + 1, ys, _, nx₅, rfl, hlt, rfl, by walk_at "Mine.om", it₅, F₅, n₅, N₅, off₅, hJ₅⟩
      · have hin : i = vs.length := Nat.le_antisymm hi (Nat.not_lt.mp hlt)
        subst hin
        refine W.done _ _ _ (by rw [List.size_toArray]; exact ⟨hit', hl'⟩) fun h₂ tk₂ hk₂ => ?_
        exact hRR _ _ h₂ tk₂ _ ys nx (by walk_at "Mine.om") (fr_but F' hk₂ (by walk_at "Mine.om") hI0) (news_but N' hk₂ fun p hp => by
          rcases List.mem_cons.mp hp with rfl | hp
          · walk_at "Mine.om"
          · exact (off' p hp).2.1) (fun p hp => (off' p hp).1) (hn'.at' fun o e => hk₂ _ o (by simp only [List.mem_singleton]; walk_at "Mine.om") e) hC0 (by walk_at "Mine.om") (by walk_at "Mine.om") (fun p hp => (off' p hp).2.2) hJ
    · rcases List.mem_cons.mp hp with rfl | hp
      · exact ⟨hacc, by walk_at "Mine.om", hD0⟩
      · exact ⟨old _ _ (N p hp).1, (N p hp).2⟩
    · have := lt1 _ _ (N p hp).1
      exact ⟨by walk_at "Mine.om", by walk_at "Mine.om", by walk_at "Mine.om"⟩
  exact codeAny_compStart_list (loop _ rfl) (wpAny_pyIter_listiter hit₁ (loop _ rfl))

/-- what a comprehension asks of the list that it goes over, and of its turns -/
def CSrc (prog : Program) (w : World) (A : Around) (h₀ : Heap) (L : Nat) (m : PySem.Str → Option Value) (target elt : PySem.Expr) (ifs : List PySem.Expr) (scope : Scope) (cl : List (PySem.Str × Addr)) (env : Env) (m' : Nat → PySem.Str → Option Value) (Qe : Nat → Shared → Prop) (xv : Value) (s₁ : Shared) : Prop :=
  ∃ (J : Nat → List Value → List (Addr × Obj) → Prop) (l : Nat) (ol : Obj) (k : Nat) (vs : List Value) (news : List (Addr × Obj)), xv = .ref l ∧
      A.handled = none ∧ s₁.heap.get? l = some ol ∧ ol.cls = .type "list" ∧ ol.data = .seq vs.toArray k ∧ vs.length ≤ sizeLine ∧ l ≠ L ∧
      (∀ (I : Addr) (v : Value) (s : Shared) (i : Nat) (Q : Unit → Shared → Prop) (E : Value → Shared → Prop), s.heap.IsListIter I l i → Q () s → wpAny (model prog w) A (letOwnedTupleGo target (.ref I) v) Q E s) ∧
      (h₀.get? l = some ol ∨ ∀ i ys nx, J i ys nx → (l, ol) ∈ nx) ∧ Fr h₀ L s₁.heap m ∧ News h₀ L s₁.heap news ∧ J 0 [] news ∧
      (∀ i v, vs[i]? = some v → CTurn prog w A h₀ L target elt ifs scope cl env J s₁ i v) ∧
      (∀ (D : Nat) h tk ys nx, s₁.heap.objs.size < D → Fr h₀ L h (m' D) → News h₀ L h ((D, lst ys) :: nx) → (∀ p ∈ nx, p.1 ≠ D) → J vs.length ys nx → Qe D { s₁ with heap := h, toks := tk })
theorem CSrc.introB {target elt : PySem.Expr} {ifs : List PySem.Expr} {scope : Scope} {cl : List (PySem.Str × Addr)} {m' : Nat → PySem.Str → Option Value} {Qe : Nat → Shared → Prop} {s₁ : Shared}
    (J : Nat → List Value → List (Addr × Obj) → Prop) {l : Nat} {ol : Obj} {k : Nat} {vs : List Value} {news : List (Addr × Obj)} (hh : A.handled = none) (hl : s₁.heap.get? l = some ol) (hc : ol.cls = .type "list") (hd : ol.data = .seq vs.toArray k) (hsz : vs.length ≤ sizeLine) (hL : l ≠ L)
    (hgo : ∀ (I : Addr) (v : Value) (s : Shared) (i : Nat) (Q : Unit → Shared → Prop) (E : Value → Shared → Prop), s.heap.IsListIter I l i → Q () s → wpAny (model prog w) A (letOwnedTupleGo target (.ref I) v) Q E s)
    (hsrc : h₀.get? l = some ol ∨ ∀ i ys nx, J i ys nx → (l, ol) ∈ nx) (F : Fr h₀ L s₁.heap m) (N : News h₀ L s₁.heap news) (hj : J 0 [] news)
    (turn : ∀ i v, vs[i]? = some v → CTurn prog w A h₀ L target elt ifs scope cl env J s₁ i v)
    (done : ∀ (D : Nat) h tk ys nx, s₁.heap.objs.size < D → Fr h₀ L h (m' D) → News h₀ L h ((D, lst ys) :: nx) → (∀ p ∈ nx, p.1 ≠ D) → J vs.length ys nx → Qe D { s₁ with heap := h, toks := tk }) :
    CSrc prog w A h₀ L m target elt ifs scope cl env m' Qe (.ref l) s₁ := ⟨J, l, ol, k, vs, news, rfl, hh, hl, hc, hd, hsz, hL, hgo, hsrc, F, N, hj, turn, done⟩
theorem CSrc.intro {target elt : PySem.Expr} {ifs : List PySem.Expr} {scope : Scope} {cl : List (PySem.Str × Addr)} {m' : Nat → PySem.Str → Option Value} {Qe : Nat → Shared → Prop} {s₁ : Shared}
    (J : Nat → List Value → List (Addr × Obj) → Prop) {l : Nat} {ol : Obj} {k : Nat} {vs : List Value} {news : List (Addr × Obj)} (hh : A.handled = none) (hl : s₁.heap.get? l = some ol) (hc : ol.cls = .type "list") (hd : ol.data = .seq vs.toArray k) (hsz : vs.length ≤ sizeLine) (hL : l ≠ L)
    (hgo : ∀ (I : Addr) (v : Value) (s : Shared) (i : Nat) (Q : Unit → Shared → Prop) (E : Value → Shared → Prop), s.heap.IsListIter I l i → Q () s → wpAny (model prog w) A (letOwnedTupleGo target (.ref I) v) Q E s)
    (hsrc : h₀.get? l = some ol ∨ ∀ i ys nx, J i ys nx → (l, ol) ∈ nx) (F : Fr h₀ L s₁.heap m) (N : News h₀ L s₁.heap news) (hj : J 0 [] news)
    (turn : ∀ i v, vs[i]? = some v → CTurn prog w A h₀ L target elt ifs scope cl env J s₁ i v)
    (done : ∀ (D : Nat) h tk ys nx, Fr h₀ L h (m' D) → News h₀ L h ((D, lst ys) :: nx) → (∀ p ∈ nx, p.1 ≠ D) → J vs.length ys nx → Qe D { s₁ with heap := h, toks := tk }) :
    CSrc prog w A h₀ L m target elt ifs scope cl env m' Qe (.ref l) s₁ := ⟨J, l, ol, k, vs, news, rfl, hh, hl, hc, hd, hsz, hL, hgo, hsrc, F, N, hj, turn, fun D h tk ys nx _ => done D h tk ys nx⟩

/-- a list comprehension of one clause over a list -/
theorem listComp {elt target iter : PySem.Expr} {ifs : List PySem.Expr} {scope : Scope} {cl : List (PySem.Str × Addr)} {pos : Pos} {Q : Value → Shared → Prop}
    (_F : Fr h₀ L s.heap m) (hclos : closureFor scope env = pure cl) (hcell : ∀ y ∈ scope.names, y.2 ≠ .cell) (hkind : scope.kind = .function)
    (hnames : ∀ y ∈ scope.names, y.2 = .local → scope.names.lookup y.1 = some .local)
    (h : wpAny (model prog w) A (eval iter env) (CSrc prog w A h₀ L m target elt ifs scope cl env (fun _ => m) fun D s' => Q (.ref D) s') E s)
    (hs : ∀ x, foldedSetIterable iter env x = pure x := by intro _; rfl) :
    wpAny (model prog w) A (eval (.ListComp elt [⟨target, iter, ifs, 0⟩] scope pos) env) Q E s := by
  rw [eval_ListComp]
  refine wpAny_comprehension_free (use := none) rfl hs hclos hkind hnames (wpAny_mono h (fun xv s₁ h₁ => ?_) fun _ _ e => e)
  obtain ⟨J, l, ol, k, vs, news, rfl, hh, hl, hc, hd, hsz, hL, hgo, hsrc, F, N, hj, turn, hQ⟩ := h₁
  refine comp_block J hh hl hc hd hsz hL hgo hsrc hcell hkind F N hj turn ?_
  intro D C h tk m' ys nx hDs F' N' o1 hn hC0 hCL hCD oC hJ
  refine ⟨m', hn, fun h'' hs'' => hQ D h'' tk ys nx hDs (F'.change hs'' hCL hC0) (fun p hp => ?_) o1 hJ⟩
  refine ⟨hs''.extBut _ _ ?_ (N' p hp).1, (N' p hp).2⟩
  rcases List.mem_cons.mp hp with rfl | hp
  · exact fun e => hCD e.symm
  · exact oC p hp

/-- the same, its value kept in a local name -/
theorem listComp_assign {elt target iter : PySem.Expr} {ifs : List PySem.Expr} {scope : Scope} {cl : List (PySem.Str × Addr)} {pos spos py : Pos} {y : PySem.Str} {Q : Flow → Shared → Prop}
    (_F : Fr h₀ L s.heap m) (hsw : swapsWith (.ListComp elt [⟨target, iter, ifs, 0⟩] scope pos) (some (.Name y py)) spos.line env = pure true) (hLe : env.locals = L)
    (hclos : closureFor scope env = pure cl) (hcell : ∀ y ∈ scope.names, y.2 ≠ .cell) (hkind : scope.kind = .function)
    (hnames : ∀ y ∈ scope.names, y.2 = .local → scope.names.lookup y.1 = some .local)
    (hy : env.kindOf y = some .local) (hp : (env.scope.kind == .class || (env.scope.kind == .module && env.locals != env.globals)) = false)
    (h : wpAny (model prog w) A (eval iter env) (CSrc prog w A h₀ L m target elt ifs scope cl env (fun D z => if z = y then some (.ref D) else m z) fun _ s' => Q .next s') E s)
    (hs : ∀ x, foldedSetIterable iter env x = pure x := by intro _; rfl) :
    wpAny (model prog w) A (exec (.Assign [.Name y py] (.ListComp elt [⟨target, iter, ifs, 0⟩] scope pos) spos) env) Q E s := by
  subst hLe
  rw [exec_Assign_Name_used _ _ _ _ hsw]
  refine wpAny_bind (wpAny_standAt (wpAny_bind ?_))
  show wpAny _ A (do let _ ← comprehension (.ListComp elt [⟨target, iter, ifs, 0⟩] scope pos) scope env _ (newList []) false (eval iter env) (some (assign (.Name y py) env))) _ _ s
  refine wpAny_bind (wpAny_mono (wpAny_comprehension_free (use := some (assign (.Name y py) env)) (Q := fun _ s' => Q .next s') rfl hs hclos hkind hnames
    (wpAny_mono h (fun xv s₁ h₁ => ?_) fun _ _ e => e)) (fun _ s' hq => wpAny_pure (wpAny_pure hq)) fun _ _ e => e)
  obtain ⟨J, l, ol, k, vs, news, rfl, hh, hl, hc, hd, hsz, hL, hgo, hsrc, F, N, hj, turn, hQ⟩ := h₁
  refine comp_block J hh hl hc hd hsz hL hgo hsrc hcell hkind F N hj turn ?_
  intro D C h tk m' ys nx hDs F' N' o1 hn hC0 hCL hCD oC hJ
  show wpAny _ A (assign (.Name y py) env (.ref D)) _ _ _
  refine wpAny_assign_Name (wpAny_storeName_local hy F'.ns (fun h₂ hn₂ hs₂ => ?_) hp)
  refine ⟨m', hn.sameBut hs₂ hCL, fun h'' hs'' => hQ D h'' _ ys nx hDs ((F'.set hn₂ hs₂).change hs'' hCL hC0) (fun p hp => ?_) o1 hJ⟩
  have N₂ := N'.set hs₂
  refine ⟨hs''.extBut _ _ ?_ (N₂ p hp).1, (N₂ p hp).2⟩
  rcases List.mem_cons.mp hp with rfl | hp
  · exact fun e => hCD e.symm
  · exact oC p hp
end
end

theorem fresh_Ent : True := by
  w_top off
  trivial
section
open PySem PySem.W PyProof.Rows PySem.Calls PySem.Spec PyProof.Rows.LCg
section
variable {prog : Program} {w : World} {A₀ A : Around} {s : Shared} {base h₀ : Heap} {outer : List Env} {L : Addr} {m : PySem.Str → Option Value} {env : Env} {news : List (Addr × Obj)} {K : Frag} {p : Program} {loose : List PySem.Str} {mean : ExcName → Option Value} {mg mb : PySem.Str → Option Value}
  {R : Result → Shared → Prop} {name qual : PySem.Str} {params : Arguments} {body : List Stmt} {scope : Scope} {dV kV doc pm cdv ct oc : Value} {an od : Option Addr} {osl : Array (Option Value)} {f : Addr} {args : Args} {binds : List (PySem.Str × Value)}
/-- a def of the text with names that its blocks close over is entered; what its ground keeps -/
theorem code_defCG (B : Below A₀ base outer h₀) (F : Fr h₀ L s.heap m) (X₀ : K.In h₀) (N : News h₀ L s.heap news) (T : Top p loose mean mg mb h₀) (hA : A.frames = some (env :: outer)) (hf : env.frame = some L) (hke : env.scope.kind = .function)
    (ho : K.lookup f = some ⟨oc, od, .func (fnOf name qual params body scope dV kV doc pm an cdv ct), osl⟩) (hcd : codeIn K cdv qual = true) (hroom : A.depth < recursionLimit)
    (hbind : BindsTo s (fnOf name qual params body scope dV kV doc pm an cdv ct) args binds) (hkind : (binds.all fun y => scope.names.lookup y.1 == some .local || scope.names.lookup y.1 == some .cell) = true)
    (hnd : ((cellsFrom 0 scope.names []).map (·.1)).Nodup)
    (h : ∀ g L' h₁ tk cells, Fr h₀ L g m → Fr g L' h₁ (bindL (envOfC qual scope L' f cdv).kindOf binds fun _ => none) → News g L' h₁ (cells ++ news) →
      CellsAre (bindC (envOfC qual scope L' f cdv).kindOf binds fun _ => none) (cellsFrom (L' + 1) scope.names []) cells → Below A base (env :: outer) g → K.In g → Top p loose mean mg mb g → (∀ p ∈ news, p.1 < L') → GSub s.heap g (news.map (·.1)) →
      wpAny (model prog w) (A.deeper (envOfC qual scope L' f cdv)) (execs body (envOfC qual scope L' f cdv))
        (fun fl s' => LeaveK h₀ L m g R (match fl with | .ret v => v | _ => .none) s')
        (fun e s' => wpAny (model prog w) (A.deeper (envOfC qual scope L' f cdv)) (leaving (envOfC qual scope L' f cdv) e) (fun _ s'' => R (.error e) s'') (fun e' s'' => R (.error e') s'') s')
        { s with heap := h₁, toks := tk })
    (hco : scope.isCoroutine = false) (hgen : scope.isGenerator = false) (hk : scope.kind = .function) : codeAny (model prog w) A (.call (.ref f) args) R s := by
  obtain ⟨FG, BG, st, lv⟩ := groundX (R := R) B F N hA hf hke
  refine codeAny_call_function hroom ((X₀.keeps F.keep) _ _ ho) rfl hco hgen rfl (codeRec_of (X₀.keeps F.keep) hcd) (hbind _ _ _ _ ?_)
  refine wpAny_newFunctionEnv_cells hk (kindsX hkind _) fun env' he s' x => ?_
  subst he
  refine ⟨(T.nolimit.keeps F.keep).keeps x.toInCall.keep, codeAny_func ?_⟩
  obtain ⟨h₁, tk, rfl, _⟩ := x.done
  have hk₁ := x.toInCall.keep
  obtain ⟨cells, NC, Y⟩ := Cl.news (h₀ := s.heap) (Nat.le_refl _) fun n c hm => ⟨x.cell n c (lookup_of_mem_nodup (cellsFrom_names scope.names 0 (s.heap.objs.size + 1) [] [] rfl ▸ hnd) hm), x.above n c hm⟩
  refine wpAny_mono (h _ s.heap.objs.size h₁ tk cells FG ⟨x.toInCall.ns, fun b o e => hk₁ b o (of_hideAll _ e), Nat.le_of_eq (hideAll_size _ _)⟩ (fun p hp => ?_) Y BG (X₀.keeps st) (T.keeps st) (fun p hp => Heap.lt_size (N p hp).1) (fun b o e n => hideAll_get _ e n)) (fun fl s' hl => lv _ _ hl) fun _ _ y => y
  rcases List.mem_append.mp hp with hp | hp
  · refine ⟨(NC p hp).1, (NC p hp).2.1, ?_⟩
    cases q : (hideAll s.heap (news.map (·.1))).get? p.1 with
    | none => rfl
    | some o => have := of_hideAll _ q; rw [(NC p hp).2.2] at this; cases this
  · exact ⟨hk₁ _ _ (N p hp).1, Nat.ne_of_lt (Heap.lt_size (N p hp).1), hideAll_none _ (List.mem_map_of_mem hp)⟩
end
end

theorem fresh_Dct : True := by
  w_top off
  trivial
section
open PySem PySem.W PyProof.Rows PySem.Calls PySem.Spec PyProof.Rows.LCg
section
variable {prog : Program} {w : World} {A : Around} {E : Value → Shared → Prop} {s : Shared} {h₀ : Heap} {L : Addr} {m : PySem.Str → Option Value} {news : List (Addr × Obj)}
theorem sort_list {D : Addr} {vs : List Value} {ns : List Int} {n : Nat} {Q : Value → Shared → Prop} (F : Fr h₀ L s.heap m) (N : News h₀ L s.heap ((D, listOf vs.toArray n) :: news)) (off : ∀ p ∈ news, p.1 ≠ D)
    (hI : IntsAre vs ns) (h64 : vs.length < 64)
    (h : ∀ vs' ns' n' h', IntsAre vs' ns' → ns'.Perm ns → ns'.Pairwise (· ≤ ·) → Fr h₀ L h' m → News h₀ L h' ((D, listOf vs'.toArray n') :: news) → Q .none { s with heap := h' }) :
    wpAny (model prog w) A (call (.builtin "list.sort") [.ref D]) Q E s := by
  have z := N _ (.head _)
  have ho : s.heap.get? D = some (seqObj "list" vs.toArray n) := z.1
  refine wpAny_call_entry PyProof.Rows.slot_list_sort ⟨_, z.1, rfl⟩ PyProof.Rows.entry_list_sort (list_sort_tree (n := n) (vs := vs) ho hI h64 fun out ns' hI' hp hP => ⟨.none, rfl, ?_⟩) (PyProof.Rows.args_list_sort _)
  obtain ⟨e, he⟩ := sortedHeap_at (out := out) ho
  have old : ∀ b o, b ≠ D → s.heap.get? b = some o → (sortedHeap s.heap D vs out).get? b = some o := fun b o hb ho' => (sortedHeap_old hb (Heap.lt_size ho')).trans ho'
  refine h out.toList ns' e _ hI' hp hP ⟨F.ns.at' fun o e => old _ o (Ne.symm z.2.1) e, fun b o e => old b o (fun q => ?_) (F.keep b o e), F.above⟩ fun p hp => ?_
  · have := z.2.2
    rw [← q, e] at this
    cases this
  · rcases List.mem_cons.mp hp with rfl | hp
    · refine ⟨?_, z.2⟩
      show _ = some (listOf out.toList.toArray e)
      rw [Array.toArray_toList]
      exact he
    · have y := N p (List.mem_cons_of_mem _ hp)
      exact ⟨old _ _ (off p hp) y.1, y.2⟩

theorem sorted_dict {d : Addr} {o : Obj} {kvs : List (Int × Value)} {Q : Value → Shared → Prop} (hh : A.handled = none) (F : Fr h₀ L s.heap m) (N : News h₀ L s.heap news) (hm : s.heap.get? d = some o) (hd : o.IsDictOf (intKind prog w) kvs) (lo : (d == sysModules) = false) (hn : kvs.length < 64)
    (h : ∀ (D : Addr) vs ns n h' tk, IntsAre vs ns → ns.Perm (kvs.map (·.1)) → ns.Pairwise (· ≤ ·) → Fr h₀ L h' m → News h₀ L h' ((D, listOf vs.toArray n) :: news) → (∀ q ∈ news, q.1 < D) → Q (.ref D) { s with heap := h', toks := tk }) :
    wpAny (model prog w) A (call (.builtin "sorted") [.ref d]) Q E s := by
  obtain ⟨ep, hat⟩ := (Heap.dictOf_iff.mpr ⟨o, hm, hd⟩ : s.heap.DictOf (intKind prog w) d kvs).dictAt
  refine kdu_sorted (kdl_dict (knd := intKind prog w) (kvs := kvs) (ep := ep) lo) hh F N hat (by rw [sizeLine_eq]; omega) fun D h' tk vs F' N' l1 hl hv => ?_
  have hI : IntsAre vs (kvs.map (·.1)) := by
    have : ∀ (vs : List Value) (kvs : List (Int × Value)), vs.length = kvs.length → (∀ (j : Nat) (v : Value), vs[j]? = some v → ∃ k x, kvs[j]? = some (k, x) ∧ (intKind prog w).is k v = true) → IntsAre vs (kvs.map (·.1)) := by
      intro vs
      induction vs with
      | nil => intro kvs hl _; cases kvs with
        | nil => exact .nil
        | cons _ _ => cases hl
      | cons v r ih => intro kvs hl hv; cases kvs with
        | nil => cases hl
        | cons kv t =>
          obtain ⟨k, x, e, hk⟩ := hv 0 v rfl
          simp only [List.getElem?_cons_zero, Option.some.injEq] at e
          subst e
          obtain ⟨tt, rfl⟩ : ∃ tt, v = .int k tt := Value.isInt_shape hk
          exact .cons _ _ (ih t (by simpa using hl) fun j v hj => hv (j + 1) v (by simpa using hj))
    exact this vs kvs hl hv
  exact sort_list F' N' (fun p hp => Nat.ne_of_lt (l1 p hp)) hI (by omega) fun vs' ns' n' h'' hI' hp hP F'' N'' => h D vs' ns' n' h'' tk hI' hp hP F'' N'' l1
end
section
variable {M : Model} {A : Around} {E : Value → Shared → Prop} {s : Shared} {h₀ : Heap} {C : Addr} {m mg mb : PySem.Str → Option Value} {news : List (Addr × Obj)} {scope : Scope} {cl : List (PySem.Str × Addr)} {env : Env} {x : PySem.Str} {pos : Pos} {v : Value} {c : Addr} {o : Obj} {p : Program} {loose : List PySem.Str} {K : Frag}
theorem assignC {Q : Unit → Shared → Prop} (F : Fr h₀ C s.heap m) (N : News h₀ C s.heap news) (hx : (compEnvC scope cl C env).kindOf x = some .local) (hp : ((compEnvC scope cl C env).scope.kind == .class || ((compEnvC scope cl C env).scope.kind == .module && (compEnvC scope cl C env).locals != (compEnvC scope cl C env).globals)) = false)
    (h : ∀ h', Fr h₀ C h' (fun y => if y = x then some v else m y) → News h₀ C h' news → Q () { s with heap := h', toks := s.toks + 1 }) : wpAny M A (assign (.Name x pos) (compEnvC scope cl C env) v) Q E s :=
  wpAny_assign_Name (wpAny_storeName_local hx F.ns (fun h' hn hs => h h' (F.set hn hs) (N.set hs)) hp)
theorem nameC_L {Q : Value → Shared → Prop} (F : Fr h₀ C s.heap m) (hv : m x = some v) (h : Q v s)
    (hk : (compEnvC scope cl C env).scope.kind = .function) (hx : (compEnvC scope cl C env).kindOf x = some .local) (hd : (x == ("__debug__" : PySem.Str)) = false) :
    wpAny M A (eval (.Name x pos) (compEnvC scope cl C env)) Q E s := wpAny_Name (wpAny_loadName_local hk hx F.ns hv h) hd
theorem nameC_C {Q : Value → Shared → Prop} (N : News h₀ C s.heap news) (hc : (compEnvC scope cl C env).cells.lookup x = some c) (hm : (c, o) ∈ news) (hd : o.data = .cell (some v)) (h : Q v s)
    (hk : (compEnvC scope cl C env).scope.kind = .function) (hx : (compEnvC scope cl C env).kindOf x = some .cell) (hb : (x == ("__debug__" : PySem.Str)) = false) :
    wpAny M A (eval (.Name x pos) (compEnvC scope cl C env)) Q E s := wpAny_Name (wpAny_loadName_cell hk hx hc ⟨o, N.get hm, hd⟩ h) hb
theorem nameC_B {Q : Value → Shared → Prop} (F : Fr h₀ C s.heap m) (X : K.In h₀) (T : TopRead p loose mg mb h₀) (e : nsIn K mainGlobals x = some none) (hv : bootBuiltins x = some v) (hn : x ≠ "__name__") (h : Q v s)
    (hg : env.globals = mainGlobals) (hb : env.builtins = builtinsNs) (hk : (compEnvC scope cl C env).scope.kind = .function) (hx : (compEnvC scope cl C env).kindOf x = some .globalImplicit) (hd : (x == ("__debug__" : PySem.Str)) = false) :
    wpAny M A (eval (.Name x pos) (compEnvC scope cl C env)) Q E s :=
  Name_function_global hk hx (loadGlobal_builtin (env := compEnvC scope cl C env) (by show s.heap.Ns env.globals mg; rw [hg]; exact T.g.keeps F.keep) (mg_none_of X T.g e) (by show s.heap.Ns env.builtins mb; rw [hb]; exact T.b.keeps F.keep) ((T.builtins x hn).trans hv) h) hd
end
end

theorem fresh_Filt : True := by
  w_top off
  trivial
section
open PySem PySem.W PyProof.Rows PySem.Calls PySem.Spec PyProof.Rows.LCg
section
variable {prog : Program} {w : World} {A : Around} {E : Value → Shared → Prop} {s : Shared} {env : Env} {h₀ : Heap} {L : Nat} {m : PySem.Str → Option Value}
/-- the end of a test in a block: its verdict, and that all stands -/
def TestEnd (h₀ : Heap) (C : Nat) (x : PySem.Str) (v : Value) (led : List (Addr × Obj)) (s : Shared) (b ok : Bool) (s' : Shared) : Prop :=
  ok = b ∧ ∃ h' tk mC, s' = { s with heap := h', toks := tk } ∧ Fr h₀ C h' mC ∧ mC x = some v ∧ News h₀ C h' led
theorem TestEnd.intro {C : Nat} {x : PySem.Str} {v : Value} {led news' : List (Addr × Obj)} {s : Shared} {b ok : Bool} {h' : Heap} {tk : Nat} {mC : PySem.Str → Option Value} (F : Fr h₀ C h' mC) (N : News h₀ C h' news') (hb : ok = b) (hx : mC x = some v) (hs : ∀ p ∈ led, p ∈ news') :
    TestEnd h₀ C x v led s b ok { s with heap := h', toks := tk } := ⟨hb, h', tk, mC, rfl, F, hx, fun p hp => N p (hs p hp)⟩

theorem int_at {vs : List Value} {ks : List Int} (hI : IntsAre vs ks) {i : Nat} {v : Value} (hv : vs[i]? = some v) : ∃ q t, ks[i]? = some q ∧ v = .int q t := by
  have h9 : i < vs.length := by
    rcases Nat.lt_or_ge i vs.length with h | h
    · exact h
    · rw [List.getElem?_eq_none h] at hv; cases hv
  rw [hI.length] at h9
  obtain ⟨t, ht⟩ := hI.get i ks[i] (by simp [h9])
  exact ⟨ks[i], t, by simp [h9], by rw [hv] at ht; exact Option.some.inj ht⟩

/-- [x for x in ints if test] -/
theorem CSrc.filter {x : PySem.Str} {px px' : Pos} {c : PySem.Expr} {scope : Scope} {cl : List (PySem.Str × Addr)} {m' : Nat → PySem.Str → Option Value} {Qe : Nat → Shared → Prop} {s₁ : Shared}
    {l : Nat} {ol : Obj} {k : Nat} {vs : List Value} {ks : List Int} (p : Int → Bool) (led : List (Addr × Obj)) (hh : A.handled = none) (hl : s₁.heap.get? l = some ol) (hc : ol.cls = .type "list") (hd : ol.data = .seq vs.toArray k) (hsz : vs.length ≤ sizeLine) (hL : l ≠ L)
    (hsrc : h₀.get? l = some ol ∨ (l, ol) ∈ led) (F : Fr h₀ L s₁.heap m) (N : News h₀ L s₁.heap led) (hI : IntsAre vs ks)
    (hkind : scope.kind = .function) (hx : ∀ C, (compEnvC scope cl C env).kindOf x = some .local) (hdb : (x == ("__debug__" : PySem.Str)) = false)
    (test : ∀ q t ys (C D I : Nat) oL oI (mC : PySem.Str → Option Value) h tk (E' : Value → Shared → Prop), q ∈ ks → (∀ p ∈ led, p.1 ≠ L ∧ p.1 ≠ D ∧ p.1 ≠ I) → L ≠ C → L ≠ D → L ≠ I → D ≠ C → I ≠ C → D ≠ I → Fr h₀ C h (fun y => if y = x then some (.int q t) else mC y) → News h₀ C h ((L, oL) :: (D, lst ys) :: (I, oI) :: led) →
      wpAny (model prog w) A (isTrue c (compEnvC scope cl C env) (eval c (compEnvC scope cl C env))) (TestEnd h₀ C x (.int q t) ((L, oL) :: (D, lst ys) :: (I, oI) :: led) { s₁ with heap := h, toks := tk } (p q)) E' { s₁ with heap := h, toks := tk })
    (done : ∀ (D : Nat) h tk ys, IntsAre ys (ks.filter p) → Fr h₀ L h (m' D) → News h₀ L h ((D, lst ys) :: led) → (∀ p ∈ led, p.1 ≠ D) → Qe D { s₁ with heap := h, toks := tk }) :
    CSrc prog w A h₀ L m (.Name x px) (.Name x px') [c] scope cl env m' Qe (.ref l) s₁ := by
  refine CSrc.intro (fun i ys nx => nx = led ∧ IntsAre ys ((ks.take i).filter p)) hh hl hc hd hsz hL (fun I v s i Q E _ h => wpAny_pure h) (hsrc.imp id fun h i ys nx hj => hj.1 ▸ h) F N ⟨rfl, .nil⟩ ?_ ?_
  · intro i v hv ys C D I oL oI nx mC h tk E' ⟨hnx, hys⟩ hoff n1 n2 n3 n4 n5 n6 F1 N1
    subst hnx
    obtain ⟨q, t, hq, rfl⟩ := int_at hI hv
    have hkd : (compEnvC scope cl C env).scope.kind = .function := hkind
    refine assignC F1 N1 (hx C) (by rw [hkd]; rfl) ?_
    intro h1 F2 N2
    refine wpAny_tests_one (wpAny_mono (test q t ys C D I oL oI mC h1 _ E' (List.mem_of_getElem? hq) hoff n1 n2 n3 n4 n5 n6 F2 N2) (fun ok s₄ h₄ => ?_) fun _ _ e => e)
    obtain ⟨rfl, h5, tk5, m5, rfl, F5, hx5, N5⟩ := h₄
    have hs : ks.take (i + 1) = ks.take i ++ [q] := by rw [List.take_add_one, hq]; rfl
    cases hp : p q with
    | true =>
      simp only [if_true]
      refine wpAny_Name (wpAny_loadName_local hkd (hx C) F5.ns hx5 ?_) hdb
      refine CEnd.intro F5 N5 (fun p hp => hp) hoff ⟨rfl, ?_⟩
      rw [hs, List.filter_append]
      simp only [List.filter_cons, hp, if_true, List.filter_nil]
      exact IntsAre.append hys (.cons q t .nil)
    | false =>
      simp only [Bool.false_eq_true, if_false]
      refine CEnd.intro F5 N5 (fun p hp => hp) hoff ⟨rfl, ?_⟩
      rw [hs, List.filter_append]
      simp only [List.filter_cons, hp, Bool.false_eq_true, if_false, List.filter_nil, List.append_nil]
      exact hys
  · intro D h tk ys nx F1 N1 hoff ⟨hnx, hys⟩
    subst hnx
    rw [hI.length, List.take_length] at hys
    exact done D h tk ys hys F1 N1 hoff
end
theorem foldl_rep (v : Value) : ∀ (n : Nat) (acc : Array Value), List.foldl (fun x1 x2 => x1 ++ x2) acc (List.replicate n #[v]) = acc ++ (List.replicate n v).toArray
  | 0, acc => by simp
  | n + 1, acc => by
    rw [List.replicate_succ, List.foldl_cons, foldl_rep v n, List.replicate_succ]
    apply Array.ext'
    simp
theorem intsAre_rep (c : Int) (t : Tok) : ∀ n, IntsAre (List.replicate n (.int c t)) (List.replicate n c)
  | 0 => .nil
  | n + 1 => by rw [List.replicate_succ, List.replicate_succ]; exact .cons c t (intsAre_rep c t n)
section
variable {prog : Program} {w : World} {A : Around} {E : Value → Shared → Prop} {s : Shared} {h₀ : Heap} {L : Addr} {m : PySem.Str → Option Value} {news : List (Addr × Obj)}
theorem mul_one_list {l : Addr} {c x : Int} {t u : Tok} {k : Nat} {Q : Value → Shared → Prop} (F : Fr h₀ L s.heap m) (N : News h₀ L s.heap news) (hl : (l, listOf #[.int c t] k) ∈ news) (h0 : 0 ≤ x) (h1 : x ≤ 1000)
    (h : ∀ (D : Addr) us h', IntsAre us (List.replicate x.toNat c) → Fr h₀ L h' m → News h₀ L h' ((D, listOf us.toArray 0) :: news) → (∀ p ∈ news, p.1 < D) → Q (.ref D) { s with heap := h' }) :
    wpAny (model prog w) A (binaryOp .Mult (.ref l) (.int x u)) Q E s := by
  refine mul_list F N (N _ hl).1 (by omega) (by omega) (by simp; omega) fun h' F' N' => ?_
  have e : (if (#[Value.int c t] : Array Value).isEmpty = true then 0 else x.toNat) = x.toNat := by rw [if_neg (by simp)]
  rw [e, foldl_rep] at N'
  refine h _ (List.replicate x.toNat (.int c t)) h' (intsAre_rep c t _) F' ?_ fun p hp => Heap.lt_size (N p hp).1
  simpa using N'
theorem add_led {a b : Addr} {vs ws : List Value} {ns ms : List Int} {k1 k2 : Nat} {Q : Value → Shared → Prop} (F : Fr h₀ L s.heap m) (N : News h₀ L s.heap news) (ha : (a, listOf vs.toArray k1) ∈ news) (hb : (b, listOf ws.toArray k2) ∈ news) (hi : IntsAre vs ns) (hj : IntsAre ws ms)
    (hz : ns.length + ms.length ≤ 10000) (h : ∀ (D : Addr) us h', IntsAre us (ns ++ ms) → Fr h₀ L h' m → News h₀ L h' ((D, listOf (List.toArray us) 0) :: news) → (∀ p ∈ news, p.1 < D) → Q (.ref D) { s with heap := h' }) :
    wpAny (model prog w) A (binaryOp .Add (.ref a) (.ref b)) Q E s :=
  kmk_add_ints F N ⟨_, (N _ ha).1, rfl, _, rfl⟩ ⟨_, (N _ hb).1, rfl, _, rfl⟩ hi hj (fun D us h' F' N' l hk => h D us h' hk F' N' l) (by rw [sizeLine_eq]; omega)
end
end

open PySem PySem.W PyProof.Rows PySem.Calls PySem.Spec PyProof.Rows.LCg
local macro_rules | `(tactic| walk_at "Mine.enter") => `(tactic| (refine' code_defG ?k1 ?k2 ?k3 ?k4 ?k5 ?kA ?kF ?kK ?k6 ?k7 ?k8 ?k9 ?kB ?_ ?c2 ?c3 ?c4 ?c5; (case kA => exact rfl); (case kF => exact rfl); (case kK => assumption); (case k1 => k_asm); (case k2 => k_asm); (case k3 => k_asm); (case k4 => k_asm); (case k5 => k_asm); (case k6 => k_is); (case k7 => k_is); (case k8 => ktr_room); (case k9 => exact BindsTo.of_eq rfl); (case c5 => decide); (case kB => exact locs rfl); (case c2 => exact rfl); (case c3 => exact rfl); (case c4 => exact rfl); k_whole))
local macro_rules | `(tactic| walk_at "Mine.stop") => `(tactic| first | (with_reducible show wpAny _ _ (exec (Stmt.While _ _ _ _) _) _ _ _) | (with_reducible show wpAny _ _ (exec (Stmt.For _ _ _ _ _) _) _ _ _) | (with_reducible show wpAny _ _ (pyIter _) _ _ _) | (with_reducible show wpAny _ _ (eval (Expr.ListComp _ _ _ _) _) _ _ _) | (with_reducible show wpAny _ _ (exec (Stmt.Assign _ (Expr.ListComp _ _ _ _) _) _) _ _ _))
local macro_rules | `(tactic| walk_at "Mine.steps") => `(tactic| repeat' ((fail_if_success walk_at "Mine.stop"); first | (k_unfold; (try dsimp only)) | (k_end; wrow_close) | walk1 | (dsimp only; walk1) | (leave1; walk_say "STEP leave1"; try dsimp only) | fail "no step"))
local macro_rules | `(tactic| walk_at "Mine.same") => `(tactic| (intro z h1 h2 h3; (simp only [List.forall_mem_cons, List.not_mem_nil, false_implies, implies_true, and_true, ne_eq] at h2); (simp only [List.contains_cons, List.contains_nil, Bool.or_false, Bool.or_eq_false_iff, beq_eq_false_iff_ne, ne_eq] at h3); first | rfl | (simp [h1, h2, h3, kstB]; done) | (simp_all [kstB]; done)))
local macro_rules | `(tactic| walk_at "Mine.binds") => `(tactic| first | exact List.forall_mem_nil _ | (refine' List.forall_mem_cons.mpr ⟨?a, ?b⟩; (case a => with_unfolding_all rfl); (case b => walk_at "Mine.binds")))
local macro_rules | `(tactic| walk_at "Mine.for") => `(tactic| ((rename Fr _ _ _ _ => kF9); (refine' forV kF9 ?f1 ?f2 ?_ ?f3 ?f4); (case f1 => with_unfolding_all rfl); (case f2 => with_unfolding_all rfl); (case f3 => (intro _; with_unfolding_all rfl)); (case f4 => passes_own)))
local macro_rules | `(tactic| walk_at "subscriptTail Name Slice ref ref") => `(tactic| ((with_reducible show wpAny _ _ (subscriptTail _ (PySem.Expr.Slice _ _ none _) (Value.ref _) (Value.ref _)) _ _ _); k_dflt (refine' kmk_slice_ints ?F ?N ?l ?p ?q ?i ?m ?c ?_ ?s ?t ?z; (case F => k_asm); (case N => k_asm); (case l => kmk_list); (case p => kmk_part); (case q => kmk_part); (case i => assumption); (case m => first | exact kmk_from (by assumption) (by omega) | exact kmk_upto (by assumption) (by omega) | exact kmk_run (by assumption) (by omega) (by omega)); (case c => exact rfl); (case s => with_unfolding_all rfl); (case t => kmk_pure); (case z => exact kmk_sz (by assumption) (by rw [sizeLine_eq]; omega))); intro D' ws' h' F' N' l1 hI' hC' hL'; (try k_lt l1); (try k_sweep)))
local macro_rules | `(tactic| walk_at "Mine.enterC") => `(tactic| (refine' code_defCG ?k1 ?k2 ?k3 ?k4 ?k5 ?kA ?kF ?kK ?k6 ?k7 ?k8 ?k9 ?kB ?kD ?_ ?c2 ?c3 ?c4; (case kA => exact rfl); (case kF => exact rfl); (case kK => assumption); (case k1 => k_asm); (case k2 => k_asm); (case k3 => k_asm); (case k4 => k_asm); (case k5 => k_asm); (case k6 => k_is); (case k7 => k_is); (case k8 => ktr_room); (case k9 => exact BindsTo.of_eq rfl); (case kB => exact rfl); (case kD => decide +kernel); (case c2 => exact rfl); (case c3 => exact rfl); (case c4 => exact rfl); k_whole))
local macro_rules | `(tactic| walk_at "Mine.stop") => `(tactic| (with_reducible show wpAny _ _ (setItem (Value.ref _) _ _) _ _ _))
local macro_rules | `(tactic| walk_at "Mine.stop") => `(tactic| (with_reducible show wpAny _ _ (PySem.call (Value.builtin "sorted") _) _ _ _))
local macro_rules | `(tactic| walk_at "eval Name") => `(tactic| ((with_reducible show wpAny _ _ (eval (PySem.Expr.Name _ _) (compEnvC _ _ _ _)) _ _ _); k_dflt (first
  | (refine' nameC_L ?F ?v ?_ ?a ?b ?c; (case F => k_asm); (case v => rfl); (case a => rfl); (case b => rfl); (case c => decide); k_whole)
  | (refine' nameC_C ?N ?c ?m ?d ?_ ?a ?b ?e; (case a => rfl); (case b => rfl); (case e => decide); (case N => k_asm); (case c => rfl); (case m => k_mem); (case d => k_asm); k_whole)
  | (refine' nameC_B ?F ?X ?T ?e ?v ?n ?_ ?g ?h ?a ?b ?c; (case F => k_asm); (case X => k_asm); (case T => k_asm); (case g => rfl); (case h => rfl); (case a => rfl); (case b => rfl); (case c => decide); (case e => k_is); (case v => boot_fast); (case n => decide); k_whole))))
local macro_rules | `(tactic| walk_at "Mine.comp") => `(tactic| ((rename Fr _ _ _ _ => kF9); (refine' listComp kF9 ?c1 ?c2 ?c3 ?c4 ?_ ?c5); (case c1 => with_unfolding_all rfl); (case c2 => decide); (case c3 => rfl); (case c4 => decide); (case c5 => (intro _; with_unfolding_all rfl))))
local macro_rules | `(tactic| walk_at "Mine.stop") => `(tactic| first | (with_reducible show wpAny _ _ (binaryOp .Add (Value.ref _) (Value.ref _)) _ _ _) | (with_reducible show wpAny _ _ (binaryOp .Mult (Value.ref _) (Value.int _ _)) _ _ _))
local macro_rules | `(tactic| walk_at "Mine.stop") => `(tactic| first | (with_reducible show wpAny _ _ (compareOp .In (Value.int _ _) (Value.ref _)) _ _ _) | (with_reducible show wpAny _ _ (compareOp .NotIn (Value.int _ _) (Value.ref _)) _ _ _))
local macro_rules | `(tactic| walk_at "Mine.stop") => `(tactic| first | (with_reducible show wpAny _ _ (getMethod (Value.ref _) (PySem.Str.ofString "pop") _) _ _ _) | (with_reducible show wpAny _ _ (PySem.call (Value.builtin "dict.pop") _) _ _ _))
local macro_rules | `(tactic| walk_at "Mine.stop") => `(tactic| (with_reducible refine probe (by decide) ?_))
local macro_rules | `(tactic| k_ne) => `(tactic| (refine neN ?_; (try dsimp only); first | (with_reducible assumption) | (refine Ne.symm ?_; with_reducible assumption) | omega))
theorem fresh_Gap : True := by
  w_top off
  trivial
section
open PySem PySem.W PyProof.Rows PySem.Calls PySem.Spec PyProof.Rows.LCg
/-- how many signs stand in a row -/
noncomputable def nch : List Int → Nat
  | [] => 0
  | x :: r => (if x < 0 then 1 else 0) + nch r
/-- the least length of a head with so many signs -/
noncomputable def gapN : List Int → Nat → Nat
  | _, 0 => 0
  | [], _ + 1 => 0
  | x :: r, k + 1 => 1 + gapN r (if x < 0 then k else k + 1)
theorem nch_take_le : ∀ (ns : List Int) (i : Nat), nch (ns.take i) ≤ nch ns
  | [], _ => by simp
  | x :: r, 0 => by simp [nch]
  | x :: r, i + 1 => by simp only [List.take_succ_cons, nch]; have := nch_take_le r i; omega
theorem nch_take_lt {ns : List Int} {i : Nat} {k : Int} (h : (nch (ns.take i) : Int) < k) (h2 : k ≤ nch ns) : i < ns.length := by
  rcases Nat.lt_or_ge i ns.length with h3 | h3
  · exact h3
  · rw [List.take_of_length_le h3] at h; omega
theorem nch_take_succ {ns : List Int} {i : Nat} (h : i < ns.length) : nch (ns.take (i + 1)) = nch (ns.take i) + (if ns.getD i 0 < 0 then 1 else 0) := by
  induction ns generalizing i with
  | nil => simp at h
  | cons x r ih =>
    cases i with
    | zero => simp [nch]
    | succ i => simp only [List.take_succ_cons, nch, List.getD_cons_succ]; rw [ih (by simpa using h)]; omega
theorem gapN_step {ns : List Int} {i k : Nat} (h : i < ns.length) : gapN (ns.drop i) (k + 1) = 1 + gapN (ns.drop (i + 1)) (if ns.getD i 0 < 0 then k else k + 1) := by
  rw [List.drop_eq_getElem_cons h, gapN]
  simp [List.getD_eq_getElem?_getD, h]
section
variable {w : World} {mean : ExcName → Option Value} {mg mb : PySem.Str → Option Value} {dp un : Nat} {gd : Option (List Code)} {cn : PySem.Str} {cs : Scope} {a : Addr} {ccd : Value} {cl : List (PySem.Str × Addr)} {outer : List Env} {A₀ : Around} {base h₀ : Heap} {L : Addr} {m : PySem.Str → Option Value} {s : Shared} {Q E : Value → Shared → Prop} {rest : List (Addr × Obj)}
theorem gap_call {l : Addr} {vs : List Value} {ns : List Int} {place : Int} {tp : Tok}
  (B : Below A₀ base outer h₀) (F : Fr h₀ L s.heap m) (X : (hd.heap_1 w.params).In h₀) (T : Top viewOf (looseW viewOf []) mean mg mb h₀) (hk : cs.kind = .function)
  (N : News h₀ L s.heap rest)
  (hl : s.heap.IsList l vs.toArray) (hI : IntsAre vs ns) (hlen : ns.length ≤ 1000) (h1 : 1 ≤ place) (h2 : place ≤ 1 + (nch ns : Int))
  (hdp : dp + 1 < recursionLimit) (hu : un + 8 < cLine)
  (hret : ∀ t h' tk', Fr h₀ L h' m → News h₀ L h' rest → Q (.int (gapN ns (place - 1).toNat : Nat) t) { s with heap := h', toks := tk' }) :
  wpAny (model PySem.Challenge.rw_ok0046_01.row.prog w) (ktrTop dp un gd cn cs L a ccd cl outer) (PySem.call (.ref 173) [.ref l, .int place tp]) Q E s := by
  have N1 : News h₀ L s.heap [] := News.nil
  revert X
  k_fill
  intro X
  refine wpAny_call ?_
  k_dflt walk_at "Mine.enter"
  intro g L' h' FG' F' N' B' X' T' G'
  have hl' := islist_g G' hl (by simp)
  clear hl
  (try dsimp only)
  (try k_fold)
  walk_at "Mine.steps"
  · refine' ksw_while (σ := Nat × Tok × Tok) (fun _ => []) (fun c => [(PySem.Str.ofString "count", .int (nch (ns.take c.1) : Nat) c.2.1), (PySem.Str.ofString "at", .int (c.1 : Nat) c.2.2)]) (fun c => c.1 ≤ ns.length) [] (fun c => (nch (ns.take c.1) : Int) ≤ place - 1 ∧ c.1 + gapN (ns.drop c.1) ((place - 1).toNat - nch (ns.take c.1)) = gapN ns (place - 1).toNat) (fun c => ns.length - c.1) (0, ?t1, ?t2) (by assumption) News.nil (by simp) ?hk ?hp ?turn ?hE
    case hk => exact List.forall_mem_cons.mpr ⟨by with_unfolding_all rfl, List.forall_mem_cons.mpr ⟨by with_unfolding_all rfl, List.forall_mem_nil _⟩⟩
    case hp => simp [nch]; omega
    case turn =>
      rintro ⟨i, t1, t2⟩ u h tk hf ⟨hp, hq⟩ Fx Nx
      simp only [kstB, List.contains_nil, Bool.false_eq_true, if_false] at Fx
      dsimp only at hf hp hq ⊢
      have key : (nch (ns.take i) : Int) < place - 1 → i < ns.length := fun x => nch_take_lt x (by omega)
      (try k_fold)
      walk_at "Mine.steps"
      · have hlt := key (by assumption)
        have hs : ns.getD i 0 < 0 := by simpa using (by assumption : ns.getD (i : Int).toNat 0 < 0)
        have e1 : ((nch (ns.take (i + 1)) : Nat) : Int) = (nch (ns.take i) : Int) + 1 := by rw [nch_take_succ hlt, if_pos hs]; rfl
        have e2 := gapN_step (k := (place - 1).toNat - nch (ns.take i) - 1) hlt
        rw [if_pos hs] at e2
        refine' ksw_end (i + 1, ?a1, ?a2) (by assumption) (by assumption) (by simp) (by dsimp only; omega) ?k ?r ?hpp (by dsimp only; omega)
        case k =>
          dsimp only
          rw [e1]
          exact List.forall_mem_cons.mpr ⟨by with_unfolding_all rfl, List.forall_mem_cons.mpr ⟨by with_unfolding_all rfl, List.forall_mem_nil _⟩⟩
        case r => ksw_same
        case hpp =>
          dsimp only
          have e3 : (place - 1).toNat - nch (ns.take i) - 1 + 1 = (place - 1).toNat - nch (ns.take i) := by omega
          rw [e3] at e2
          have e4 : (place - 1).toNat - nch (ns.take (i + 1)) = (place - 1).toNat - nch (ns.take i) - 1 := by omega
          rw [e4]
          omega
      · have hlt := key (by assumption)
        have hs : ¬ ns.getD i 0 < 0 := by simpa using (by assumption : ¬ ns.getD (i : Int).toNat 0 < 0)
        have e1 : ((nch (ns.take (i + 1)) : Nat) : Int) = (nch (ns.take i) : Int) + 0 := by rw [nch_take_succ hlt, if_neg hs]; rfl
        have e2 := gapN_step (k := (place - 1).toNat - nch (ns.take i) - 1) hlt
        rw [if_neg hs] at e2
        refine' ksw_end (i + 1, ?b1, ?b2) (by assumption) (by assumption) (by simp) (by dsimp only; omega) ?k ?r ?hpp (by dsimp only; omega)
        case k =>
          dsimp only
          rw [e1]
          exact List.forall_mem_cons.mpr ⟨by with_unfolding_all rfl, List.forall_mem_cons.mpr ⟨by with_unfolding_all rfl, List.forall_mem_nil _⟩⟩
        case r => ksw_same
        case hpp =>
          dsimp only
          have e3 : (place - 1).toNat - nch (ns.take i) - 1 + 1 = (place - 1).toNat - nch (ns.take i) := by omega
          rw [e3] at e2
          have e4 : (place - 1).toNat - nch (ns.take (i + 1)) = (place - 1).toNat - nch (ns.take i) := by omega
          rw [e4]
          omega
      · have hz : (place - 1).toNat - nch (ns.take i) = 0 := by
          have : ¬ (nch (ns.take i) : Int) < place - 1 := by assumption
          omega
        rw [hz] at hq
        have hg : gapN (ns.drop i) 0 = 0 := by cases ns.drop i <;> rfl
        rw [hg, Nat.add_zero] at hq
        subst hq
        exact hret _ _ _ (by assumption) (back0 (h := s.heap) N G' (by assumption))
    case hE => passes_own
end
end

theorem fresh_Draw : True := by
  w_top off
  trivial
section
open PySem PySem.W PyProof.Rows PySem.Calls PySem.Spec
local macro_rules | `(tactic| walk_at "Mine.enter") => `(tactic| (refine' code_defG ?k1 ?k2 ?k3 ?k4 ?k5 ?kA ?kF ?kK ?k6 ?k7 ?k8 ?k9 ?kB ?_ ?c2 ?c3 ?c4 ?c5; (case kA => exact rfl); (case kF => exact rfl); (case kK => assumption); (case k1 => k_asm); (case k2 => k_asm); (case k3 => k_asm); (case k4 => k_asm); (case k5 => k_asm); (case k6 => k_is); (case k7 => k_is); (case k8 => ktr_room); (case k9 => exact BindsTo.of_eq rfl); (case c5 => decide); (case kB => exact locs rfl); (case c2 => exact rfl); (case c3 => exact rfl); (case c4 => exact rfl); k_whole))
section
variable {w : World} {mean : ExcName → Option Value} {mg mb : PySem.Str → Option Value} {dp un : Nat} {gd : Option (List Code)} {cn : PySem.Str} {cs : Scope} {a : Addr} {ccd : Value} {cl : List (PySem.Str × Addr)} {outer : List Env} {A₀ : Around} {base h₀ : Heap} {L : Addr} {m : PySem.Str → Option Value} {s : Shared} {Q E : Value → Shared → Prop} {rest : List (Addr × Obj)}
theorem draw_call {D C : Addr} {k : Int} {tk : Tok} {n : Nat} {b : Int} {tb : Tok} {vs : List Value} {ns : List Int}
  (B : Below A₀ base outer h₀) (F : Fr h₀ L s.heap m) (X : (hd.heap_1 w.params).In h₀) (T : Top viewOf (looseW viewOf []) mean mg mb h₀) (hk : cs.kind = .function)
  (N : News h₀ L s.heap ((D, listOf #[.ref C, .int k tk] n) :: rest)) (hD : ∀ p ∈ rest, p.1 ≠ D)
  (hC : s.heap.IsList C vs.toArray) (hCD : C ≠ D) (hI : IntsAre vs ns) (hl : ns.length ≤ 50) (h0 : 0 ≤ k) (h1 : k < 1000) (hb : 0 < b) (hb2 : b < 1000)
  (hdp : dp + 1 < recursionLimit) (hu : un + 8 < cLine)
  (hret : ∀ r t t' h' tk', 0 ≤ r → r < b → Fr h₀ L h' m → News h₀ L h' ((D, listOf #[.ref C, .int (k+1) t'] n) :: rest) → Q (.int r t) { s with heap := h', toks := tk' }) :
  wpAny (model PySem.Challenge.rw_ok0046_01.row.prog w) (ktrTop dp un gd cn cs L a ccd cl outer) (PySem.call (.ref 166) [.ref D, .int b tb]) Q E s := by
  have N1 : News h₀ L s.heap [(D, listOf #[.ref C, .int k tk] n)] := fun p hp => N p (by simp at hp; simp [hp])
  revert X
  k_fill
  intro X
  refine wpAny_call ?_
  k_dflt walk_at "Mine.enter"
  intro g L' h' FG' F' N' B' X' T' G'
  have hC' := islist_g G' hC (by simpa using hCD)
  clear hC
  (try dsimp only)
  (try k_fold)
  k_steps
  all_goals exact hret _ _ _ _ _ (fmod_lo _ hb) (fmod_hi _ hb) (by assumption) (back (h := s.heap) (fun p hp => N p (List.mem_cons_of_mem _ hp)) G' (by simpa using hD) (by assumption) (by assumption))
end
end

theorem fresh_Run : True := by
  w_top off
  trivial
section
open PySem PySem.W PyProof.Rows PySem.Calls PySem.Spec PyProof.Rows.LCg
/-- the marks that stand at a row's head -/
noncomputable def runN (ns : List Int) : List Int := ns.takeWhile fun x => decide (¬ x < 0)
theorem runN_stop {ns : List Int} {j : Nat} {x : Int} (hp : ∀ y ∈ ns.take j, ¬ y < 0) (hx : ns[j]? = some x) (hneg : x < 0) : runN ns = ns.take j := by
  induction ns generalizing j with
  | nil => simp at hx
  | cons y r ih =>
    cases j with
    | zero =>
      simp only [List.getElem?_cons_zero, Option.some.injEq] at hx
      subst hx
      simp [runN, hneg]
    | succ j =>
      simp only [List.take_succ_cons, List.mem_cons, forall_eq_or_imp] at hp
      simp only [List.getElem?_cons_succ] at hx
      have := ih hp.2 hx
      simp only [runN] at this ⊢
      rw [List.takeWhile_cons_of_pos (by simpa using hp.1), this, List.take_succ_cons]
theorem runN_all {ns : List Int} (hp : ∀ y ∈ ns, ¬ y < 0) : runN ns = ns := by
  induction ns with
  | nil => rfl
  | cons y r ih =>
    have h := ih fun z hz => hp z (List.mem_cons_of_mem _ hz)
    simp only [runN] at h ⊢
    rw [List.takeWhile_cons_of_pos (by simpa using hp y List.mem_cons_self), h]
section
variable {w : World} {mean : ExcName → Option Value} {mg mb : PySem.Str → Option Value} {dp un : Nat} {gd : Option (List Code)} {cn : PySem.Str} {cs : Scope} {a : Addr} {ccd : Value} {cl : List (PySem.Str × Addr)} {outer : List Env} {A₀ : Around} {base h₀ : Heap} {L : Addr} {m : PySem.Str → Option Value} {s : Shared} {Q E : Value → Shared → Prop} {rest : List (Addr × Obj)}
theorem run_call {l : Addr} {vs : List Value} {ns : List Int} {i : Nat} {ti : Tok}
  (B : Below A₀ base outer h₀) (F : Fr h₀ L s.heap m) (X : (hd.heap_1 w.params).In h₀) (T : Top viewOf (looseW viewOf []) mean mg mb h₀) (hk : cs.kind = .function)
  (N : News h₀ L s.heap rest)
  (hl : s.heap.IsList l vs.toArray) (hI : IntsAre vs ns) (hlen : ns.length ≤ 1000) (h1 : i ≤ ns.length)
  (hdp : dp + 1 < recursionLimit) (hu : un + 8 < cLine)
  (hret : ∀ D ys k h' tk', IntsAre ys (runN (ns.drop i)) → Fr h₀ L h' m → News h₀ L h' ((D, listOf ys.toArray k) :: rest) → Q (.ref D) { s with heap := h', toks := tk' }) :
  wpAny (model PySem.Challenge.rw_ok0046_01.row.prog w) (ktrTop dp un gd cn cs L a ccd cl outer) (PySem.call (.ref 180) [.ref l, .int (i : Nat) ti]) Q E s := by
  have N1 : News h₀ L s.heap [] := News.nil
  revert X
  k_fill
  intro X
  refine wpAny_call ?_
  k_dflt walk_at "Mine.enter"
  intro g L' h' FG' F' N' B' X' T' G'
  have hl' := islist_g G' hl (by simp)
  clear hl
  (try dsimp only)
  (try k_fold)
  walk_at "Mine.steps"
  walk_at "Mine.for"
  walk_at "Mine.steps"
  rename_i l0 _ _ _ SL ws _ F1 N1 hI1 hC1 hL1 l1
  simp only [Int.toNat_natCast] at hI1 hC1 hL1
  refine' for_listS (σ := List Value × Nat) (fun c => [(SL, listOf ws.toArray 0), (l0, listOf c.1.toArray c.2)]) (fun _ => [(PySem.Str.ofString "found", .ref l0)]) [] (fun j c => IntsAre c.1 ((ns.drop i).take j) ∧ ∀ x ∈ (ns.drop i).take j, ¬ x < 0) ([], 0) (by rfl) (N1 (SL, listOf ws.toArray 0) (by simp)).1 rfl rfl (N1 (SL, listOf ws.toArray 0) (by simp)).2.1 (.inr (by simp)) (by assumption) (by assumption) (by walk_at "Mine.binds") ⟨by simpa using IntsAre.nil, by simp⟩ ?turn ?done
  case turn =>
    rintro j v ⟨ys, kk⟩ u I oI h tk hv ⟨hys, hpos⟩ hoff Fx Nx
    dsimp only at hys hpos hoff Fx Nx ⊢
    simp only [kstB, List.contains_nil, Bool.false_eq_true, if_false] at Fx
    obtain ⟨x, hx⟩ : ∃ x, (ns.drop i)[j]? = some x := by
      have h9 : j < ws.length := by
        rcases Nat.lt_or_ge j ws.length with h | h
        · exact h
        · rw [List.getElem?_eq_none h] at hv; cases hv
      rw [hI1.length] at h9
      exact ⟨_, List.getElem?_eq_getElem h9⟩
    obtain ⟨t, ht⟩ := hI1.get j x hx
    obtain rfl : v = .int x t := by rw [hv] at ht; exact Option.some.inj ht
    have ho := offN hoff
    simp only [OffN, and_true] at ho
    walk_at "Mine.steps"
    · dsimp only [TurnP]
      walk_at "Mine.steps"
      rename_i kF kN _ _
      refine hret l0 ys kk _ _ ?_ kF (back1 (h := s.heap) N G' (by assumption) kN (by simp))
      rw [runN_stop hpos hx (by assumption)]
      exact hys
    · rename_i F2 N2
      show TurnE _ _ _ _ _ _ _
      refine turnS (ys ++ [.int x t], kk + 1) F2 N2 (by simp) ?_ (offN_mem (by simp only [OffN, and_true]; exact ho)) (by walk_at "Mine.binds") (by walk_at "Mine.same") ⟨?_, ?_⟩
      · intro p hp
        simp only [List.push_toArray]
        exact List.mem_cons_of_mem _ hp
      · dsimp only
        rw [List.take_add_one, hx]
        exact IntsAre.append hys (.cons _ _ .nil)
      · intro y hy
        rw [List.take_add_one, hx] at hy
        rcases List.mem_append.mp hy with h | h
        · exact hpos y h
        · rw [List.mem_singleton.mp h]; assumption
  case done =>
    rintro ⟨ys, kk⟩ u h tk ⟨hys, hpos⟩ Fx Nx
    dsimp only at hys hpos Fx Nx ⊢
    simp only [kstB, List.contains_nil, Bool.false_eq_true, if_false] at Fx
    walk_at "Mine.steps"
    rename_i kF kN _ _
    rw [hI1.length, List.take_length] at hys hpos
    refine hret l0 ys kk _ _ ?_ kF (back1 (h := s.heap) N G' (by assumption) kN (by simp))
    rw [runN_all hpos]
    exact hys
end
end

theorem fresh_Fresh : True := by
  w_top off
  trivial
section
open PySem PySem.W PyProof.Rows PySem.Calls PySem.Spec
theorem back_new {h₀ h g : Heap} {L : Addr} {D : Addr} {rest : List (Addr × Obj)} (N : News h₀ L h rest) (G : GSub h g []) (hD : g.get? D = none) : ∀ p ∈ rest, @Ne Nat p.1 D := fun p hp e => by
  have h1 := G _ _ (N p hp).1 (by simp)
  rw [show p.1 = D from e, hD] at h1
  cases h1
end

theorem fresh_Gone : True := by
  w_top off
  trivial
section
open PySem PySem.W PyProof.Rows PySem.Calls PySem.Spec PyProof.Rows.LCg
/-- a row behind a deletion -/
noncomputable def stepC (c x : Int) : Int := c + (if x < 0 then 1 else 0)
noncomputable def goneN (a b : Int) : Int → List Int → List Int
  | _, [] => []
  | c, x :: r => if 0 ≤ x ∨ ¬ (a ≤ stepC c x ∧ stepC c x < b) then x :: goneN a b (stepC c x) r else goneN a b (stepC c x) r
theorem goneN_len (a b : Int) : ∀ (ns : List Int) (c : Int), (goneN a b c ns).length ≤ ns.length
  | [], _ => Nat.le_refl _
  | x :: r, c => by
    unfold goneN
    have := goneN_len a b r (stepC c x)
    split
    · simp only [List.length_cons]; omega
    · simp only [List.length_cons]; omega
section
variable {w : World} {mean : ExcName → Option Value} {mg mb : PySem.Str → Option Value} {dp un : Nat} {gd : Option (List Code)} {cn : PySem.Str} {cs : Scope} {a : Addr} {ccd : Value} {cl : List (PySem.Str × Addr)} {outer : List Env} {A₀ : Around} {base h₀ : Heap} {L : Addr} {m : PySem.Str → Option Value} {s : Shared} {Q E : Value → Shared → Prop} {rest : List (Addr × Obj)}
theorem gone_call {l : Addr} {vs : List Value} {ns : List Int} {a' b' : Int} {ta tb : Tok}
  (B : Below A₀ base outer h₀) (F : Fr h₀ L s.heap m) (X : (hd.heap_1 w.params).In h₀) (T : Top viewOf (looseW viewOf []) mean mg mb h₀) (hk : cs.kind = .function)
  (N : News h₀ L s.heap rest)
  (hl : s.heap.IsList l vs.toArray) (hI : IntsAre vs ns) (hlen : ns.length ≤ 1000)
  (hdp : dp + 1 < recursionLimit) (hu : un + 8 < cLine)
  (hret : ∀ D ys k h' tk', IntsAre ys (goneN a' b' 0 ns) → Fr h₀ L h' m → News h₀ L h' ((D, listOf ys.toArray k) :: rest) → (∀ p ∈ rest, @Ne Nat p.1 D) → Q (.ref D) { s with heap := h', toks := tk' }) :
  wpAny (model PySem.Challenge.rw_ok0046_01.row.prog w) (ktrTop dp un gd cn cs L a ccd cl outer) (PySem.call (.ref 192) [.ref l, .int a' ta, .int b' tb]) Q E s := by
  have N1 : News h₀ L s.heap [] := News.nil
  revert X
  k_fill
  intro X
  refine wpAny_call ?_
  k_dflt walk_at "Mine.enter"
  intro g L' h' FG' F' N' B' X' T' G'
  have hl' := islist_g G' hl (by simp)
  clear hl
  (try dsimp only)
  (try k_fold)
  walk_at "Mine.steps"
  walk_at "Mine.for"
  walk_at "Mine.steps"
  obtain ⟨ol, hol, hc, kl, hdl⟩ := id hl'
  rename_i l0 _ _ _ _ _ _ _ _ kF9 N1
  refine' for_listS (σ := List Value × Nat × List Int × Int × Tok) (fun c => [(l0, listOf c.1.toArray c.2.1)]) (fun c => [(PySem.Str.ofString "found", .ref l0), (PySem.Str.ofString "count", .int c.2.2.2.1 c.2.2.2.2)]) [] (fun j c => IntsAre c.1 c.2.2.1 ∧ c.2.2.1 ++ goneN a' b' c.2.2.2.1 (ns.drop j) = goneN a' b' 0 ns) ([], 0, [], 0, ?tk) (by rfl) (kF9.keep _ _ hol) hc hdl (Nat.ne_of_lt (Nat.lt_of_lt_of_le (Heap.lt_size hol) kF9.above)) (.inl hol) (by assumption) (fun p hp => N1 p (by simp at hp; simp [hp])) (by walk_at "Mine.binds") ⟨IntsAre.nil, by simp⟩ ?turn ?done
  case turn =>
    rintro j v ⟨ys, kk, zs, ct, tc⟩ u I oI h tk hv ⟨hys, hpos⟩ hoff Fx Nx
    dsimp only at hys hpos hoff Fx Nx ⊢
    simp only [kstB, List.contains_nil, Bool.false_eq_true, if_false] at Fx
    obtain ⟨x, hx⟩ : ∃ x, ns[j]? = some x := by
      have h9 : j < vs.length := by
        rcases Nat.lt_or_ge j vs.length with h | h
        · exact h
        · rw [List.getElem?_eq_none h] at hv; cases hv
      rw [hI.length] at h9
      exact ⟨_, List.getElem?_eq_getElem h9⟩
    obtain ⟨t, ht⟩ := hI.get j x hx
    obtain rfl : v = .int x t := by rw [hv] at ht; exact Option.some.inj ht
    have ho := offN hoff
    simp only [OffN, and_true] at ho
    have hyl : ys.length ≤ 1000 := by
      have h1 := congrArg List.length hpos
      rw [List.length_append] at h1
      have h2 := goneN_len a' b' ns 0
      rw [hys.length]
      omega
    have hdr : ns.drop j = x :: ns.drop (j + 1) := drop_at hx
    rw [hdr, goneN] at hpos
    walk_at "Mine.steps"
    · have e : stepC ct x = ct + 1 := by unfold stepC; rw [if_pos (by assumption)]
      rw [e, if_neg (by omega)] at hpos
      show TurnE _ _ _ _ _ _ _
      refine' turnS (ys, kk, zs, ct + 1, ?tok1) (by assumption) (by assumption) (by simp) (by intro p hp; exact List.mem_cons_of_mem _ hp) (offN_mem (by simp only [OffN, and_true]; exact ho)) (by walk_at "Mine.binds") (by walk_at "Mine.same") ⟨hys, hpos⟩
    · have e : stepC ct x = ct + 1 := by unfold stepC; rw [if_pos (by assumption)]
      rw [e, if_pos (by omega)] at hpos
      show TurnE _ _ _ _ _ _ _
      refine' turnS (ys ++ [.int x t], kk + 1, zs ++ [x], ct + 1, ?tok2) (by assumption) (by assumption) (by simp) (by intro p hp; simp only [List.push_toArray]; exact List.mem_cons_of_mem _ hp) (offN_mem (by simp only [OffN, and_true]; exact ho)) (by walk_at "Mine.binds") (by walk_at "Mine.same") ⟨IntsAre.append hys (.cons x t .nil), by dsimp only; simpa using hpos⟩
    · have e : stepC ct x = ct + 1 := by unfold stepC; rw [if_pos (by assumption)]
      rw [e, if_pos (by omega)] at hpos
      show TurnE _ _ _ _ _ _ _
      refine' turnS (ys ++ [.int x t], kk + 1, zs ++ [x], ct + 1, ?tok3) (by assumption) (by assumption) (by simp) (by intro p hp; simp only [List.push_toArray]; exact List.mem_cons_of_mem _ hp) (offN_mem (by simp only [OffN, and_true]; exact ho)) (by walk_at "Mine.binds") (by walk_at "Mine.same") ⟨IntsAre.append hys (.cons x t .nil), by dsimp only; simpa using hpos⟩
    · have e : stepC ct x = ct + 0 := by unfold stepC; rw [if_neg (by assumption)]
      rw [e, if_pos (by omega)] at hpos
      show TurnE _ _ _ _ _ _ _
      refine' turnS (ys ++ [.int x t], kk + 1, zs ++ [x], ct + 0, ?tok4) (by assumption) (by assumption) (by simp) (by intro p hp; simp only [List.push_toArray]; exact List.mem_cons_of_mem _ hp) (offN_mem (by simp only [OffN, and_true]; exact ho)) (by walk_at "Mine.binds") (by walk_at "Mine.same") ⟨IntsAre.append hys (.cons x t .nil), by dsimp only; simpa using hpos⟩
  case done =>
    rintro ⟨ys, kk, zs, ct, tc⟩ u h tk ⟨hys, hpos⟩ Fx Nx
    dsimp only at hys hpos Fx Nx ⊢
    simp only [kstB, List.contains_nil, Bool.false_eq_true, if_false] at Fx
    have hDg := (Nx _ (.head _)).2.2
    walk_at "Mine.steps"
    rename_i kF kN _ _
    rw [hI.length, List.drop_length, goneN, List.append_nil] at hpos
    subst hpos
    exact hret l0 ys kk _ _ hys kF (back1 (h := s.heap) N G' (by assumption) kN (by simp)) (back_new N G' hDg)
end
end

theorem fresh_Places : True := by
  w_top off
  trivial
section
open PySem PySem.W PyProof.Rows PySem.Calls PySem.Spec PyProof.Rows.LCg
/-- the marks of a row with their places, from a place on -/
noncomputable def marksOf : Int → List Int → List (Int × Int)
  | _, [] => []
  | p, x :: r => if x < 0 then marksOf (p + 1) r else (x, p) :: marksOf p r
theorem marksOf_append : ∀ (a b : List Int) (p : Int), marksOf p (a ++ b) = marksOf p a ++ marksOf (p + nch a) b
  | [], b, p => by simp [marksOf, nch]
  | x :: r, b, p => by
    simp only [List.cons_append, marksOf, nch]
    split
    · rw [marksOf_append r b]; congr 2; omega
    · rw [marksOf_append r b, List.cons_append]; congr 3; omega
theorem marksOf_take {ns : List Int} {j : Nat} {x : Int} (h : ns[j]? = some x) : marksOf 1 (ns.take (j + 1)) = marksOf 1 (ns.take j) ++ (if x < 0 then [] else [(x, 1 + (nch (ns.take j) : Int))]) := by
  rw [List.take_add_one, h]
  show marksOf 1 (ns.take j ++ [x]) = _
  rw [marksOf_append]
  congr 1
theorem nch_take_at {ns : List Int} {j : Nat} {x : Int} (h : ns[j]? = some x) : nch (ns.take (j + 1)) = nch (ns.take j) + (if x < 0 then 1 else 0) := by
  have hlt : j < ns.length := by
    rcases Nat.lt_or_ge j ns.length with h1 | h1
    · exact h1
    · rw [List.getElem?_eq_none h1] at h; cases h
  rw [nch_take_succ hlt]
  simp [List.getD_eq_getElem?_getD, h]
theorem marksOf_take_sub {ns : List Int} (j : Nat) : ∃ r, marksOf 1 ns = marksOf 1 (ns.take j) ++ r := by
  refine ⟨marksOf (1 + nch (ns.take j)) (ns.drop j), ?_⟩
  rw [← marksOf_append, List.take_append_drop]
theorem stored_new {kvs : List (Int × Value)} {k : Int} {v : Value} (h : k ∉ kvs.map (·.1)) : stored kvs k v = kvs ++ [(k, v)] := by
  unfold stored
  rw [if_neg]
  intro hc
  obtain ⟨q, hq, e⟩ := List.any_eq_true.mp hc
  exact h (List.mem_map.mpr ⟨q, hq, by simpa using e⟩)
abbrev tupOf (x y : Int) (t u : Tok) : Obj := { cls := .type "tuple", data := .seq #[.int x t, .int y u] }
/-- made pairs of ints, as the ledger bears them -/
inductive Tups : List (Addr × Obj) → List Value → List (Int × Int) → Prop
  | nil : Tups [] [] []
  | cons {ts : List (Addr × Obj)} {ys : List Value} {ps : List (Int × Int)} (a : Addr) (x y : Int) (t u : Tok) : Tups ts ys ps → Tups ((a, tupOf x y t u) :: ts) (.ref a :: ys) ((x, y) :: ps)
theorem Tups.snoc {ts : List (Addr × Obj)} {ys : List Value} {ps : List (Int × Int)} (h : Tups ts ys ps) (a : Addr) (x y : Int) (t u : Tok) : Tups (ts ++ [(a, tupOf x y t u)]) (ys ++ [.ref a]) (ps ++ [(x, y)]) := by
  induction h with
  | nil => exact .cons a x y t u .nil
  | cons a' x' y' t' u' _ ih => exact .cons a' x' y' t' u' ih
/-- the place that a number has in a table -/
noncomputable def posOf (ps : List (Int × Int)) (q : Int) : Int := ((ps.find? fun x => x.1 = q).map (·.2)).getD 0
theorem valueAt_pos {ms : List (Int × Int × Tok)} {ps : List (Int × Int)} (h : ms.map (fun x => (x.1, x.2.1)) = ps) {q : Int} (hq : q ∈ ps.map (·.1)) : ∃ t, valueAt (intPairs ms) q = some (.int (posOf ps q) t) := by
  subst h
  rw [valueAt_intPairs]
  induction ms with
  | nil => simp at hq
  | cons y r ih =>
    by_cases e : y.1 = q
    · exact ⟨y.2.2, by simp [posOf, e]⟩
    · have hq' : q ∈ ((r.map (fun x => (x.1, x.2.1))).map (·.1)) := by
        simp only [List.map_cons, List.mem_cons] at hq
        rcases hq with h | h
        · exact absurd h.symm e
        · exact h
      obtain ⟨t, ht⟩ := ih hq'
      refine ⟨t, ?_⟩
      simp only [posOf, List.map_cons, List.find?_cons, e, decide_false] at ht ⊢
      exact ht
theorem intPairs_keys (ms : List (Int × Int × Tok)) : (intPairs ms).map (·.1) = (ms.map (fun x => (x.1, x.2.1))).map (·.1) := by
  simp [intPairs]
section
variable {w : World} {mean : ExcName → Option Value} {mg mb : PySem.Str → Option Value} {dp un : Nat} {gd : Option (List Code)} {cn : PySem.Str} {cs : Scope} {a : Addr} {ccd : Value} {cl : List (PySem.Str × Addr)} {outer : List Env} {A₀ : Around} {base h₀ : Heap} {L : Addr} {m : PySem.Str → Option Value} {s : Shared} {Q E : Value → Shared → Prop} {rest : List (Addr × Obj)}
local macro_rules | `(tactic| walk_at "Mine.stop") => `(tactic| (with_reducible show wpAny _ _ (subscriptTail _ _ (Value.ref _) (Value.int _ _)) _ _ _))
theorem places_call {l : Addr} {vs : List Value} {ns : List Int}
  (B : Below A₀ base outer h₀) (F : Fr h₀ L s.heap m) (X : (hd.heap_1 w.params).In h₀) (T : Top viewOf (looseW viewOf []) mean mg mb h₀) (hk : cs.kind = .function)
  (N : News h₀ L s.heap rest)
  (hl : s.heap.IsList l vs.toArray) (hI : IntsAre vs ns) (hlen : ns.length ≤ 1000) (hnd : ((marksOf 1 ns).map (·.1)).Nodup) (h64 : (marksOf 1 ns).length < 64)
  (hdp : dp + 1 < recursionLimit) (hu : un + 8 < cLine)
  (hret : ∀ D ys k ts (ks : List Int) h' tk', ks.Perm ((marksOf 1 ns).map (·.1)) → ks.Pairwise (· ≤ ·) → Tups ts ys (ks.map fun q => (q, posOf (marksOf 1 ns) q)) → Fr h₀ L h' m → News h₀ L h' (((D, listOf ys.toArray k) :: ts) ++ rest) → Q (.ref D) { s with heap := h', toks := tk' }) :
  wpAny (model PySem.Challenge.rw_ok0046_01.row.prog w) (ktrTop dp un gd cn cs L a ccd cl outer) (PySem.call (.ref 202) [.ref l]) Q E s := by
  have N1 : News h₀ L s.heap [] := News.nil
  revert X
  k_fill
  intro X
  refine wpAny_call ?_
  k_dflt walk_at "Mine.enterC"
  intro g L' h' tk' cells' FG' F' N' Y' B' X' T' l1 G'
  k_cells Y'
  simp only [List.cons_append, List.nil_append] at N'
  have hl' := islist_g G' hl (by simp)
  clear hl
  (try dsimp only)
  (try k_fold)
  walk_at "Mine.steps"
  walk_at "Mine.for"
  walk_at "Mine.steps"
  rename_i FD _ oF lo' _ _ hi' _ l1a _ _ l1b _ _ oC dC _ kF9 N1
  obtain ⟨ol, hol, hc, kl, hdl⟩ := id hl'
  refine' for_listS (σ := Obj × List (Int × Int × Tok) × Int × Tok) (fun c => [(FD, c.1), (L' + 1, oC)]) (fun c => [(PySem.Str.ofString "place", .int c.2.2.1 c.2.2.2)]) [] (fun j c => c.1.IsDictOf (intKind PySem.Challenge.rw_ok0046_01.row.prog w) (intPairs c.2.1) ∧ c.2.1.map (fun x => (x.1, x.2.1)) = marksOf 1 (ns.take j) ∧ c.2.2.1 = 1 + nch (ns.take j)) (oF, [], 1, ?tk) (by rfl) (kF9.keep _ _ hol) hc hdl (Nat.ne_of_lt (Nat.lt_of_lt_of_le (Heap.lt_size hol) kF9.above)) (.inl hol) (by assumption) (fun p hp => N1 p (by simp at hp; rcases hp with h | h <;> simp [h])) (by walk_at "Mine.binds") ⟨hi', by simp [marksOf], by simp [nch]⟩ ?turn ?done
  case turn =>
    rintro j v ⟨oj, ms, pl, tp⟩ u I oI h tk hv ⟨hdj, hms, hpl⟩ hoff Fx Nx
    dsimp only at hdj hms hpl hoff Fx Nx ⊢
    simp only [kstB, List.contains_nil, Bool.false_eq_true, if_false] at Fx
    obtain ⟨x, hx⟩ : ∃ x, ns[j]? = some x := by
      have h9 : j < vs.length := by
        rcases Nat.lt_or_ge j vs.length with h | h
        · exact h
        · rw [List.getElem?_eq_none h] at hv; cases hv
      rw [hI.length] at h9
      exact ⟨_, List.getElem?_eq_getElem h9⟩
    obtain ⟨t, ht⟩ := hI.get j x hx
    obtain rfl : v = .int x t := by rw [hv] at ht; exact Option.some.inj ht
    have ho := offN hoff
    simp only [OffN, and_true] at ho
    walk_at "Mine.steps"
    · show TurnE _ _ _ _ _ _ _
      refine' turnS (oj, ms, pl + 1, ?tok1) (by assumption) (by assumption) (by simp) (by intro p hp; exact List.mem_cons_of_mem _ hp) (offN_mem (by simp only [OffN, and_true]; exact ho)) (by walk_at "Mine.binds") (by walk_at "Mine.same") ⟨hdj, ?q1, ?q2⟩
      case q1 => rw [marksOf_take hx, if_pos (by assumption), List.append_nil]; exact hms
      case q2 => rw [nch_take_at hx, if_pos (by assumption)]; dsimp only; omega
    · have hsub := marksOf_take_sub (ns := ns) (j + 1)
      rw [marksOf_take hx, if_neg (by assumption)] at hsub
      obtain ⟨r, hr⟩ := hsub
      have hnew : x ∉ (intPairs ms).map (·.1) := by
        rw [intPairs_keys, hms]
        rw [hr] at hnd
        simp only [List.map_append, List.map_cons, List.map_nil] at hnd
        intro hc
        have h1 := (List.nodup_append.mp (List.nodup_append.mp hnd).1).2.2 x hc x (by simp)
        exact h1 rfl
      refine' kda_set (knd := intKind PySem.Challenge.rw_ok0046_01.row.prog w) (k := x) Fx Nx ?U hdj (intKind_is _ _ _ _) ?z ?_
      case U => k_updF
      case z =>
        have h1 := congrArg List.length hr
        simp only [List.length_append] at h1
        have h2 := congrArg List.length hms
        simp only [List.length_map] at h2
        rw [sizeLine_eq]
        simp only [intPairs, List.length_map]
        omega
      intro h5 o5 F5 N5 hd5
      walk_at "Mine.steps"
      show TurnE _ _ _ _ _ _ _
      refine' turnS (o5, ms ++ [(x, pl, tp)], pl, tp) (by assumption) (by assumption) (by simp) (by intro p hp; exact List.mem_cons_of_mem _ hp) (offN_mem (by simp only [OffN, and_true]; exact ho)) (by walk_at "Mine.binds") (by walk_at "Mine.same") ⟨?q0, ?q1, ?q2⟩
      case q0 =>
        rw [stored_new hnew] at hd5
        simpa [intPairs] using hd5
      case q1 => rw [marksOf_take hx, if_neg (by assumption), List.map_append, hms, hpl]; rfl
      case q2 => rw [nch_take_at hx, if_neg (by assumption)]; dsimp only; omega
  case done =>
    rintro ⟨oj, ms, pl, tp⟩ u h tk ⟨hdj, hms, hpl⟩ Fx Nx
    dsimp only at hdj hms hpl Fx Nx ⊢
    simp only [kstB, List.contains_nil, Bool.false_eq_true, if_false] at Fx
    walk_at "Mine.steps"
    walk_at "Mine.comp"
    walk_at "Mine.steps"
    rw [hI.length, List.take_length] at hms
    refine sorted_dict (by rfl) (by assumption) (by assumption) (Nx (FD, oj) (by simp)).1 hdj lo' (by rw [← List.length_map (f := fun x : Int × Value => x.1), intPairs_keys, hms, List.length_map]; exact h64) ?_
    intro SD ws ks nn h6 tk6 hIk hperm hpw F6 N6 l6
    k_lt l6
    have hperm' : ks.Perm ((marksOf 1 ns).map (·.1)) := by rw [intPairs_keys, hms] at hperm; exact hperm
    refine CSrc.intro (fun i ys nx => ∃ ts, nx = (SD, listOf ws.toArray nn) :: (FD, oj) :: (L' + 1, oC) :: ts ∧ Tups ts ys ((ks.take i).map fun q => (q, posOf (marksOf 1 ns) q))) (by rfl) (N6 (SD, listOf ws.toArray nn) (by simp)).1 rfl rfl (by rw [sizeLine_eq, hIk.length, hperm'.length_eq, List.length_map]; omega) (N6 (SD, listOf ws.toArray nn) (by simp)).2.1 (fun I v s i Q E _ h => wpAny_pure h) (.inr (by rintro i ys nx ⟨ts, rfl, _⟩; simp)) F6 N6 ⟨[], rfl, .nil⟩ ?_ ?_
    · intro i v hv ys C D I oL oI nx mC h7 tk7 E' ⟨ts, hnx, hts⟩ hoff n1 n2 n3 n4 n5 n6 F7 N7
      subst hnx
      obtain ⟨q, hq⟩ : ∃ q, ks[i]? = some q := by
        have h9 : i < ws.length := by
          rcases Nat.lt_or_ge i ws.length with h | h
          · exact h
          · rw [List.getElem?_eq_none h] at hv; cases hv
        rw [hIk.length] at h9
        exact ⟨_, List.getElem?_eq_getElem h9⟩
      obtain ⟨t, ht⟩ := hIk.get i q hq
      obtain rfl : v = .int q t := by rw [hv] at ht; exact Option.some.inj ht
      refine assignC F7 N7 (by rfl) (by rfl) ?_
      intro h8 F8 N8
      refine wpAny_tests_nil ?_
      simp only [if_true]
      have hT : ∀ p ∈ (L', oL) :: (D, lst ys) :: (I, oI) :: (SD, listOf ws.toArray nn) :: (FD, oj) :: (L' + 1, oC) :: ts, p.1 < h8.objs.size := fun p hp => Heap.lt_size (N8 p hp).1
      obtain ⟨tv, htv⟩ := valueAt_pos hms (q := q) (hperm'.mem_iff.mp (List.mem_of_getElem? hq))
      walk_at "Mine.steps"
      refine kda_item (knd := intKind PySem.Challenge.rw_ok0046_01.row.prog w) (k := q) N8 (by simp) hdj (intKind_is _ _ _ _) htv ?_
      walk_at "Mine.steps"
      rename_i F9 N9 hk9 _ _
      refine CEnd.intro (nx := (SD, listOf ws.toArray nn) :: (FD, oj) :: (L' + 1, oC) :: (ts ++ [(h8.objs.size, tupOf q (posOf (marksOf 1 ns) q) t tv)])) F9 N9 ?_ ?_ ⟨_, rfl, ?_⟩
      · intro p hp
        simp only [List.mem_cons, List.mem_append, List.not_mem_nil, or_false] at hp ⊢
        rcases hp with h | h | h | h | h | h | h | h
        all_goals first | exact .inl h | exact .inr (.inl h) | exact .inr (.inr (.inl h)) | exact .inr (.inr (.inr (.inl h))) | exact .inr (.inr (.inr (.inr (.inl h)))) | exact .inr (.inr (.inr (.inr (.inr (.inl h))))) | exact .inr (.inr (.inr (.inr (.inr (.inr (.inl h)))))) | exact .inr (.inr (.inr (.inr (.inr (.inr (.inr h))))))
      · intro p hp
        by_cases hp' : p ∈ (SD, listOf ws.toArray nn) :: (FD, oj) :: (L' + 1, oC) :: ts
        · exact hoff p hp'
        · have e : p = (h8.objs.size, tupOf q (posOf (marksOf 1 ns) q) t tv) := by
            simp only [List.mem_cons, List.mem_append, List.not_mem_nil, or_false] at hp hp'
            rcases hp with h | h | h | h | h
            · exact absurd (.inl h) hp'
            · exact absurd (.inr (.inl h)) hp'
            · exact absurd (.inr (.inr (.inl h))) hp'
            · exact absurd (.inr (.inr (.inr h))) hp'
            · exact h
          rw [e]
          exact ⟨Nat.ne_of_gt (hT (L', oL) (by simp)), Nat.ne_of_gt (hT (D, lst ys) (by simp)), Nat.ne_of_gt (hT (I, oI) (by simp))⟩
      · rw [List.take_add_one, hq]
        simp only [Option.toList_some, List.map_append, List.map_cons, List.map_nil]
        exact hts.snoc _ _ _ _ _
    · intro D h7 tk7 ys nx F7 N7 hoff ⟨ts, hnx, hts⟩
      subst hnx
      rw [hIk.length, List.take_length] at hts
      walk_at "Mine.steps"
      rename_i kF kN _ _
      exact hret D ys ys.length ts ks _ _ hperm' hpw hts kF (backS (nw' := (D, listOf ys.toArray ys.length) :: ts) (h := s.heap) N G' (by simp) (by assumption) kN (by intro p hp; rcases List.mem_cons.mp hp with h | h <;> simp [h]))
end
end

theorem fresh_Repl : True := by
  w_top off
  trivial
section
open PySem PySem.W PyProof.Rows PySem.Calls PySem.Spec PyProof.Rows.LCg
/-- a row behind a replacement -/
noncomputable def replN (ns : List Int) (a b many : Int) : List Int :=
  ns.take (gapN ns (a - 1).toNat) ++ ((ns.drop (gapN ns (a - 1).toNat)).take (gapN ns (b - 1).toNat - gapN ns (a - 1).toNat)).filter (fun x => decide (0 ≤ x)) ++ List.replicate many.toNat (-1) ++ ns.drop (gapN ns (b - 1).toNat)
theorem gapN_le : ∀ (ns : List Int) (k : Nat), gapN ns k ≤ ns.length
  | [], 0 => Nat.le_refl _
  | [], _ + 1 => Nat.le_refl _
  | x :: r, 0 => Nat.zero_le _
  | x :: r, k + 1 => by
    unfold gapN
    have := gapN_le r (if x < 0 then k else k + 1)
    simp only [List.length_cons]
    omega
section
variable {w : World} {mean : ExcName → Option Value} {mg mb : PySem.Str → Option Value} {dp un : Nat} {gd : Option (List Code)} {cn : PySem.Str} {cs : Scope} {a : Addr} {ccd : Value} {cl : List (PySem.Str × Addr)} {outer : List Env} {A₀ : Around} {base h₀ : Heap} {L : Addr} {m : PySem.Str → Option Value} {s : Shared} {Q E : Value → Shared → Prop} {rest : List (Addr × Obj)}
theorem repl_call {l : Addr} {vs : List Value} {ns : List Int} {a' b' many : Int} {ta tb tm : Tok}
  (B : Below A₀ base outer h₀) (F : Fr h₀ L s.heap m) (X : (hd.heap_1 w.params).In h₀) (T : Top viewOf (looseW viewOf []) mean mg mb h₀) (hk : cs.kind = .function)
  (N : News h₀ L s.heap rest)
  (hl : s.heap.IsList l vs.toArray) (hI : IntsAre vs ns) (hlen : ns.length ≤ 1000) (h1 : 1 ≤ a') (h2 : a' ≤ 1 + (nch ns : Int)) (h3 : 1 ≤ b') (h4 : b' ≤ 1 + (nch ns : Int)) (h5 : 0 ≤ many) (h6 : many ≤ 10)
  (hdp : dp + 5 < recursionLimit) (hu : un + 30 < cLine)
  (hret : ∀ D ys k h' tk', IntsAre ys (replN ns a' b' many) → Fr h₀ L h' m → News h₀ L h' ((D, listOf ys.toArray k) :: rest) → (∀ p ∈ rest, @Ne Nat p.1 D) → Q (.ref D) { s with heap := h', toks := tk' }) :
  wpAny (model PySem.Challenge.rw_ok0046_01.row.prog w) (ktrTop dp un gd cn cs L a ccd cl outer) (PySem.call (.ref 197) [.ref l, .int a' ta, .int b' tb, .int many tm]) Q E s := by
  have N1 : News h₀ L s.heap [] := News.nil
  revert X
  k_fill
  intro X
  refine wpAny_call ?_
  k_dflt walk_at "Mine.enter"
  intro g L' h' FG' F' N' B' X' T' G'
  have hl' := islist_g G' hl (by simp)
  clear hl
  (try dsimp only)
  (try k_fold)
  walk_at "Mine.steps"
  refine' gap_call (by assumption) (by assumption) (by assumption) (by assumption) (by rfl) N' (islist_now (by assumption) hl') hI hlen h1 h2 (by ktr_room) (by ktr_units) ?_
  intro t1 h7 tk7 F7 N7
  walk_at "Mine.steps"
  refine' gap_call (by assumption) (by assumption) (by assumption) (by assumption) (by rfl) N7 (islist_now (by assumption) hl') hI hlen h3 h4 (by ktr_room) (by ktr_units) ?_
  intro t2 h8 tk8 F8 N8
  have g1 := gapN_le ns (a' - 1).toNat
  have g2 := gapN_le ns (b' - 1).toNat
  walk_at "Mine.steps"
  rename_i D1 _ _ _ _ _ D2 w2 _ F2 N2 hI2 _ hL2 l2
  walk_at "Mine.comp"
  walk_at "Mine.steps"
  rename_i _ D3 w3 _ F3 N3 hI3 _ hL3 l3
  refine CSrc.filter (fun q => decide (0 ≤ q)) _ (by rfl) (N3 (D3, listOf w3.toArray 0) (by simp)).1 rfl rfl (by rw [sizeLine_eq, hI3.length]; omega) (N3 (D3, listOf w3.toArray 0) (by simp)).2.1 (.inr (by simp)) F3 N3 hI3 (by rfl) (fun _ => by rfl) (by decide) ?_ ?_
  · intro q t ys C D I oL oI mC h9 tk9 E9 hq hoff n1 n2 n3 n4 n5 n6 F9 N9
    walk_at "Mine.steps"
    exact TestEnd.intro F9 N9 rfl rfl (fun p hp => hp)
  · intro D h9 tk9 ys hys F9 N9 hoff
    have hlf := List.length_filter_le (fun q => decide (0 ≤ q)) (List.take (min (↑(gapN ns (b' - 1).toNat) : Int).toNat ns.length - (↑(gapN ns (a' - 1).toNat) : Int).toNat) (List.drop (↑(gapN ns (a' - 1).toNat) : Int).toNat ns))
    walk_at "Mine.steps"
    refine add_led F9 N9 (a := D2) (b := D) (by k_mem) (by k_mem) hI2 hys (by omega) ?_
    intro D4 w4 h4' hI4 F4 N4 l4
    walk_at "Mine.steps"
    rename_i l5 _ F5 N5 l5'
    refine mul_one_list F5 N5 (l := l5) (by k_mem) h5 (by omega) ?_
    intro D6 w6 h6' hI6 F6 N6 l6
    walk_at "Mine.steps"
    refine add_led F6 N6 (a := D4) (b := D6) (by k_mem) (by k_mem) hI4 hI6 (by simp only [List.length_append, List.length_replicate]; omega) ?_
    intro D7 w7 h7' hI7 F7 N7 l7
    walk_at "Mine.steps"
    rename_i D8 w8 _ F8 N8 hI8 _ hL8 l8
    refine add_led F8 N8 (a := D7) (b := D8) (by k_mem) (by k_mem) hI7 hI8 (by simp only [List.length_append, List.length_replicate]; omega) ?_
    intro D9 w9 h9' hI9 F9' N9' l9
    have hDg := (N9' _ (.head _)).2.2
    walk_at "Mine.steps"
    rename_i kF kN _ _
    refine hret D9 w9 _ _ _ ?_ kF (back1 (h := s.heap) N G' (by assumption) kN (by k_mem)) (back_new N G' hDg)
    simp only [Int.toNat_natCast, Nat.min_eq_left g2] at hI9
    exact hI9
end
end

theorem fresh_Ins : True := by
  w_top off
  trivial
section
open PySem PySem.W PyProof.Rows PySem.Calls PySem.Spec PyProof.Rows.LCg
/-- a row behind an insertion -/
noncomputable def insN (ns : List Int) (place many : Int) (mv : List Int) : List Int :=
  ns.take (gapN ns (place - 1).toNat) ++ (runN (ns.drop (gapN ns (place - 1).toNat))).filter (fun q => !(mv.any (· == q))) ++ List.replicate many.toNat (-1) ++ (runN (ns.drop (gapN ns (place - 1).toNat))).filter (fun q => mv.any (· == q)) ++ ns.drop (gapN ns (place - 1).toNat + (runN (ns.drop (gapN ns (place - 1).toNat))).length)
theorem runN_len (ns : List Int) : (runN ns).length ≤ ns.length := by
  unfold runN
  exact (List.takeWhile_sublist _).length_le
section
variable {w : World} {mean : ExcName → Option Value} {mg mb : PySem.Str → Option Value} {dp un : Nat} {gd : Option (List Code)} {cn : PySem.Str} {cs : Scope} {a : Addr} {ccd : Value} {cl : List (PySem.Str × Addr)} {outer : List Env} {A₀ : Around} {base h₀ : Heap} {L : Addr} {m : PySem.Str → Option Value} {s : Shared} {Q E : Value → Shared → Prop} {rest : List (Addr × Obj)}
theorem ins_call {l lm : Addr} {vs vm : List Value} {ns mv : List Int} {place many : Int} {tp tm : Tok}
  (B : Below A₀ base outer h₀) (F : Fr h₀ L s.heap m) (X : (hd.heap_1 w.params).In h₀) (T : Top viewOf (looseW viewOf []) mean mg mb h₀) (hk : cs.kind = .function)
  (N : News h₀ L s.heap rest)
  (hl : s.heap.IsList l vs.toArray) (hI : IntsAre vs ns) (hlen : ns.length ≤ 1000) (h1 : 1 ≤ place) (h2 : place ≤ 1 + (nch ns : Int)) (h5 : 0 ≤ many) (h6 : many ≤ 10)
  (hm : s.heap.IsList lm vm.toArray) (hIm : IntsAre vm mv)
  (hdp : dp + 5 < recursionLimit) (hu : un + 30 < cLine)
  (hret : ∀ D ys k h' tk', IntsAre ys (insN ns place many mv) → Fr h₀ L h' m → News h₀ L h' ((D, listOf ys.toArray k) :: rest) → (∀ p ∈ rest, @Ne Nat p.1 D) → Q (.ref D) { s with heap := h', toks := tk' }) :
  wpAny (model PySem.Challenge.rw_ok0046_01.row.prog w) (ktrTop dp un gd cn cs L a ccd cl outer) (PySem.call (.ref 185) [.ref l, .int place tp, .int many tm, .ref lm]) Q E s := by
  have N1 : News h₀ L s.heap [] := News.nil
  revert X
  k_fill
  intro X
  refine wpAny_call ?_
  k_dflt walk_at "Mine.enterC"
  intro g L' h' tk' cells' FG' F' N' Y' B' X' T' l1 G'
  k_cells Y'
  simp only [List.cons_append, List.nil_append] at N'
  have hl' := islist_g G' hl (by simp)
  have hm' := islist_g G' hm (by simp)
  clear hl hm
  (try dsimp only)
  (try k_fold)
  walk_at "Mine.steps"
  refine' gap_call (by assumption) (by assumption) (by assumption) (by assumption) (by rfl) N' (islist_now (by assumption) hl') hI hlen h1 h2 (by ktr_room) (by ktr_units) ?_
  intro t1 h7 tk7 F7 N7
  have g1 := gapN_le ns (place - 1).toNat
  walk_at "Mine.steps"
  refine' run_call (by assumption) (by assumption) (by assumption) (by assumption) (by rfl) (by assumption) (islist_now (by assumption) hl') hI hlen g1 (by ktr_room) (by ktr_units) ?_
  intro MD my mk h8 tk8 hIr F8 N8
  have g2 := runN_len (ns.drop (gapN ns (place - 1).toNat))
  rw [List.length_drop] at g2
  walk_at "Mine.steps"
  rename_i oC dC _ _ F9 N9
  have hsz : my.length ≤ sizeLine := by rw [sizeLine_eq, hIr.length]; omega
  walk_at "Mine.comp"
  walk_at "Mine.steps"
  refine CSrc.filter (fun q => !(mv.any (· == q))) _ (by rfl) (N9 (MD, listOf my.toArray mk) (by simp)).1 rfl rfl hsz (N9 (MD, listOf my.toArray mk) (by simp)).2.1 (.inr (by simp)) (by assumption) N9 hIr (by rfl) (fun _ => by rfl) (by decide) ?_ ?_
  · intro q t ys C D I oL oI mC h9 tk9 E9 hq hoff n1 n2 n3 n4 n5 n6 F9 N9
    walk_at "Mine.steps"
    refine notin_list_ints (islist_now F9 hm') hIm ?_
    walk_at "Mine.steps"
    exact TestEnd.intro F9 N9 rfl rfl (fun p hp => hp)
  · intro D ha tka ya hya Fa Na hoff
    walk_at "Mine.steps"
    walk_at "Mine.comp"
    walk_at "Mine.steps"
    refine CSrc.filter (fun q => mv.any (· == q)) _ (by rfl) (Na (MD, listOf my.toArray mk) (by simp)).1 rfl rfl hsz (Na (MD, listOf my.toArray mk) (by simp)).2.1 (.inr (by simp)) (by assumption) Na hIr (by rfl) (fun _ => by rfl) (by decide) ?_ ?_
    · intro q t ys C D' I oL oI mC h9 tk9 E9 hq hoff n1 n2 n3 n4 n5 n6 F9 N9
      walk_at "Mine.steps"
      refine in_list_ints (islist_now F9 hm') hIm ?_
      walk_at "Mine.steps"
      exact TestEnd.intro F9 N9 rfl rfl (fun p hp => hp)
    · intro D' hb tkb yb hyb Fb Nb hoff'
      walk_at "Mine.steps"
      rename_i D2 w2 _ F2 N2 hI2 _ hL2 l2
      have hla := List.length_filter_le (fun q => !(mv.any (· == q))) (runN (ns.drop (gapN ns (place - 1).toNat)))
      have hlb := List.length_filter_le (fun q => mv.any (· == q)) (runN (ns.drop (gapN ns (place - 1).toNat)))
      refine add_led F2 N2 (a := D2) (b := D) (by k_mem) (by k_mem) hI2 hya (by omega) ?_
      intro D4 w4 h4' hI4 F4 N4 l4
      k_lt l4
      walk_at "Mine.steps"
      rename_i l5 _ F5 N5 l5'
      refine mul_one_list F5 N5 (l := l5) (by k_mem) h5 (by omega) ?_
      intro D6 w6 h6' hI6 F6 N6 l6
      walk_at "Mine.steps"
      refine add_led F6 N6 (a := D4) (b := D6) (by k_mem) (by k_mem) hI4 hI6 (by simp only [List.length_append, List.length_replicate]; omega) ?_
      intro D7 w7 h7' hI7 F7 N7 l7
      walk_at "Mine.steps"
      refine add_led F7 N7 (a := D7) (b := D') (by k_mem) (by k_mem) hI7 hyb (by simp only [List.length_append, List.length_replicate]; omega) ?_
      intro D10 w10 h10' hI10 F10 N10 l10
      walk_at "Mine.steps"
      rename_i D8 w8 _ F8 N8 hI8 _ hL8 l8
      refine add_led F8 N8 (a := D10) (b := D8) (by k_mem) (by k_mem) hI10 hI8 (by simp only [List.length_append, List.length_replicate]; omega) ?_
      intro D9 w9 h9' hI9 F9' N9' l9
      have hDg := (N9' _ (.head _)).2.2
      walk_at "Mine.steps"
      rename_i kF kN _ _
      refine hret D9 w9 _ _ _ ?_ kF (back1 (h := s.heap) N G' (by assumption) kN (by k_mem)) (back_new N G' hDg)
      have e1 : ((gapN ns (place - 1).toNat : Nat) : Int) + ((runN (ns.drop (gapN ns (place - 1).toNat))).length : Nat) = ((gapN ns (place - 1).toNat + (runN (ns.drop (gapN ns (place - 1).toNat))).length : Nat) : Int) := by omega
      rw [e1] at hI9
      simp only [Int.toNat_natCast] at hI9
      exact hI9
end
end

theorem fresh_Mk : True := by
  w_top off
  trivial
section
open PySem PySem.W PyProof.Rows PySem.Calls PySem.Spec PyProof.Rows.LCg
/-- a marker as the ledger bears it -/
structure Mk where
  x : Nat
  d : Nat
  num : Int
  adv : Bool
  pos : Int
  tn : Tok
  k1 : Tok
  k2 : Tok
  k3 : Tok
  k4 : Tok
  tp : Tok
abbrev mkDict (w : World) (num : Int) (adv : Bool) (pos : Int) (tn k1 k2 k3 k4 tp : Tok) : Obj :=
  dictOf [⟨PyData.keyHash w.params (PySem.Str.ofString "number"), .str (PySem.Str.ofString "number") k1, .int num tn⟩, ⟨PyData.keyHash w.params (PySem.Str.ofString "advances"), .str (PySem.Str.ofString "advances") k2, .bool adv⟩,
    ⟨PyData.keyHash w.params (PySem.Str.ofString "buffer"), .str (PySem.Str.ofString "buffer") k3, .none⟩, ⟨PyData.keyHash w.params (PySem.Str.ofString "position"), .str (PySem.Str.ofString "position") k4, .int pos tp⟩] 4
abbrev Mk.dict (w : World) (m : Mk) : Obj := mkDict w m.num m.adv m.pos m.tn m.k1 m.k2 m.k3 m.k4 m.tp
abbrev Mk.objs (w : World) (m : Mk) : List (Addr × Obj) := [(m.x, instObj 87 m.d), (m.d, m.dict w)]
section
variable {w : World} {mean : ExcName → Option Value} {mg mb : PySem.Str → Option Value} {dp un : Nat} {gd : Option (List Code)} {cn : PySem.Str} {cs : Scope} {a : Addr} {ccd : Value} {cl : List (PySem.Str × Addr)} {outer : List Env} {A₀ : Around} {base h₀ : Heap} {L : Addr} {m : PySem.Str → Option Value} {s : Shared} {Q E : Value → Shared → Prop} {rest : List (Addr × Obj)}
theorem mk_call {n : Int} {t : Tok} {b : Bool}
  (B : Below A₀ base outer h₀) (F : Fr h₀ L s.heap m) (X : (hd.heap_1 w.params).In h₀) (T : Top viewOf (looseW viewOf []) mean mg mb h₀) (hk : cs.kind = .function)
  (N : News h₀ L s.heap rest)
  (hdp : dp + 5 < recursionLimit) (hu : un + 30 < cLine)
  (hret : ∀ (k : Mk) h' tk', k.num = n → k.adv = b → k.pos = 0 → Fr h₀ L h' m → News h₀ L h' (k.objs w ++ rest) → (∀ p ∈ rest, p.1 < k.d) → @LT.lt Nat _ k.d k.x → Q (.ref k.x) { s with heap := h', toks := tk' }) :
  wpAny (model PySem.Challenge.rw_ok0046_01.row.prog w) (ktrTop dp un gd cn cs L a ccd cl outer) (PySem.call (.ref 87) [.int n t, .bool b]) Q E s := by
  revert X
  k_fill
  intro X
  refine' call_cls F X N ?ka ?kb ?kc ?_
  case ka => k_is
  case kb => k_is
  case kc => k_is
  intro x dx h1 F1 N1 l1 l2
  have N2 : News h₀ L h1 [(x, instObj 87 dx), (dx, dictOf [] 0)] := fun p hp => N1 p (by simp at hp; rcases hp with h | h <;> simp [h])
  have N3 : News h₀ L h1 rest := fun p hp => N1 p (by simp [hp])
  have l3 := ltN l2
  clear N N1
  have N := N2
  clear N2
  k_dflt walk_at "Mine.enter"
  intro g L' h' FG' F' N' B' X' T' G'
  (try dsimp only)
  (try k_fold)
  walk_at "Mine.steps"
  rename_i kF kN _ _
  refine hret ⟨x, dx, n, b, 0, t, _, _, _, _, _⟩ _ _ rfl rfl rfl kF (back (h := h1) N3 G' (fun p hp => ?_) (by assumption) kN) l1 l2
  have h1 := l1 p hp
  simp only [List.map_cons, List.map_nil, List.mem_cons, List.not_mem_nil, or_false, not_or]
  exact ⟨Nat.ne_of_lt (Nat.lt_trans h1 l2), Nat.ne_of_lt h1⟩
end
end

theorem fresh_Home : True := by
  w_top off
  trivial
section
open PySem PySem.W PyProof.Rows PySem.Calls PySem.Spec PyProof.Rows.LCg
abbrev homeLed (w : World) (hm hd rd : Nat) (kr : Tok) (rO : Obj) : List (Addr × Obj) :=
  [(hm, instObj 155 hd), (hd, dictOf [⟨PyData.keyHash w.params (PySem.Str.ofString "rows"), .str (PySem.Str.ofString "rows") kr, .ref rd⟩] 1), (rd, rO)]
section
variable {w : World} {mean : ExcName → Option Value} {mg mb : PySem.Str → Option Value} {dp un : Nat} {gd : Option (List Code)} {cn : PySem.Str} {cs : Scope} {a : Addr} {ccd : Value} {cl : List (PySem.Str × Addr)} {outer : List Env} {A₀ : Around} {base h₀ : Heap} {L : Addr} {m : PySem.Str → Option Value} {s : Shared} {Q E : Value → Shared → Prop} {rest : List (Addr × Obj)}
theorem home_call
  (B : Below A₀ base outer h₀) (F : Fr h₀ L s.heap m) (X : (hd.heap_1 w.params).In h₀) (T : Top viewOf (looseW viewOf []) mean mg mb h₀) (hk : cs.kind = .function)
  (N : News h₀ L s.heap rest)
  (hdp : dp + 5 < recursionLimit) (hu : un + 30 < cLine)
  (hret : ∀ (hm hd rd : Nat) kr rO h' tk', rO.IsDictOf (intKind PySem.Challenge.rw_ok0046_01.row.prog w) [] → (rd == sysModules) = false → hd < hm → hm < rd → (∀ p ∈ rest, p.1 < hd) → Fr h₀ L h' m → News h₀ L h' (homeLed w hm hd rd kr rO ++ rest) → Q (.ref hm) { s with heap := h', toks := tk' }) :
  wpAny (model PySem.Challenge.rw_ok0046_01.row.prog w) (ktrTop dp un gd cn cs L a ccd cl outer) (PySem.call (.ref 155) []) Q E s := by
  revert X
  k_fill
  intro X
  refine' call_cls F X N ?ka ?kb ?kc ?_
  case ka => k_is
  case kb => k_is
  case kc => k_is
  intro x dx h1 F1 N1 l1 l2
  have N2 : News h₀ L h1 [(x, instObj 155 dx), (dx, dictOf [] 0)] := fun p hp => N1 p (by simp at hp; rcases hp with h | h <;> simp [h])
  have N3 : News h₀ L h1 rest := fun p hp => N1 p (by simp [hp])
  have l3 := ltN l2
  clear N N1
  have N := N2
  clear N2
  k_dflt walk_at "Mine.enter"
  intro g L' h' FG' F' N' B' X' T' G'
  (try dsimp only)
  (try k_fold)
  walk_at "Mine.steps"
  rename_i rd _ oR lo' _ _ hi' _ l9 _ _ _ kF kN _ _
  refine hret x dx rd _ oR _ _ hi' lo' l3 l9.1 l1 kF (backS (nw' := homeLed w x dx rd _ oR) (h := h1) N3 G' (fun p hp => ?_) (by assumption) kN (by k_allIn))
  have h1 := l1 p hp
  simp only [List.map_cons, List.map_nil, List.mem_cons, List.not_mem_nil, or_false, not_or]
  exact ⟨Nat.ne_of_lt (Nat.lt_trans h1 l2), Nat.ne_of_lt h1⟩
theorem numbers_call {hm hd' rd : Nat} {kr : Tok} {rO : Obj} {kvs : List (Int × Value)}
  (B : Below A₀ base outer h₀) (F : Fr h₀ L s.heap m) (X : (hd.heap_1 w.params).In h₀) (T : Top viewOf (looseW viewOf []) mean mg mb h₀) (hk : cs.kind = .function)
  (N : News h₀ L s.heap (homeLed w hm hd' rd kr rO ++ rest)) (hoff : ∀ p ∈ rest, p.1 ≠ hm ∧ p.1 ≠ hd' ∧ p.1 ≠ rd)
  (hR : rO.IsDictOf (intKind PySem.Challenge.rw_ok0046_01.row.prog w) kvs) (lo : (rd == sysModules) = false) (h64 : kvs.length < 64)
  (hdp : dp + 5 < recursionLimit) (hu : un + 30 < cLine)
  (hret : ∀ (D : Addr) vs ns n h' tk', IntsAre vs ns → ns.Perm (kvs.map (·.1)) → ns.Pairwise (· ≤ ·) → Fr h₀ L h' m → News h₀ L h' ((D, listOf vs.toArray n) :: (homeLed w hm hd' rd kr rO ++ rest)) → (∀ p ∈ rest, @Ne Nat p.1 D) → Q (.ref D) { s with heap := h', toks := tk' }) :
  wpAny (model PySem.Challenge.rw_ok0046_01.row.prog w) (ktrTop dp un gd cn cs L a ccd cl outer) (PySem.call (.ref 110) [.ref hm]) Q E s := by
  revert X
  k_fill
  intro X
  have N3 := N
  replace N : News h₀ L s.heap (homeLed w hm hd' rd kr rO) := fun p hp => N3 p (List.mem_append_left _ hp)
  refine wpAny_call ?_
  k_dflt walk_at "Mine.enter"
  intro g L' h' FG' F' N' B' X' T' G'
  (try dsimp only)
  (try k_fold)
  walk_at "Mine.steps"
  refine sorted_dict (by rfl) (by assumption) N' (N' (rd, rO) (by simp)).1 hR lo h64 ?_
  intro D vs ns n h6 tk6 hI hp hs F6 N6 l6
  have hDg : g.get? D = none := (N6 _ (.head _)).2.2
  walk_at "Mine.steps"
  rename_i kF kN _ _
  refine hret D vs ns n _ _ hI hp hs kF (back (h := s.heap) (nw := (D, listOf vs.toArray n) :: homeLed w hm hd' rd kr rO) (fun p hp => N3 p (List.mem_append_right _ hp)) G' (fun p hp => ?_) (by assumption) kN) ?_
  simp only [List.map_cons, List.map_nil, List.mem_cons, List.not_mem_nil, or_false, not_or]
  exact hoff p hp
  intro p hp e
  have h1 := G' _ _ (N3 p (List.mem_append_right _ hp)).1 (by
    simp only [List.map_cons, List.map_nil, List.mem_cons, List.not_mem_nil, or_false, not_or]
    exact hoff p hp)
  rw [show p.1 = D from e, hDg] at h1
  cases h1
end
end

theorem fresh_Put : True := by
  w_top off
  trivial
section
open PySem PySem.W PyProof.Rows PySem.Calls PySem.Spec PyProof.Rows.LCg
section
variable {w : World} {mean : ExcName → Option Value} {mg mb : PySem.Str → Option Value} {dp un : Nat} {gd : Option (List Code)} {cn : PySem.Str} {cs : Scope} {a : Addr} {ccd : Value} {cl : List (PySem.Str × Addr)} {outer : List Env} {A₀ : Around} {base h₀ : Heap} {L : Addr} {m : PySem.Str → Option Value} {s : Shared} {Q E : Value → Shared → Prop} {rest : List (Addr × Obj)}
theorem put_call {hm hd' rd : Nat} {kr : Tok} {rO : Obj} {kvs : List (Int × Value)} {k : Mk} {p' : Int} {tq : Tok}
  (B : Below A₀ base outer h₀) (F : Fr h₀ L s.heap m) (X : (hd.heap_1 w.params).In h₀) (T : Top viewOf (looseW viewOf []) mean mg mb h₀) (hk : cs.kind = .function)
  (N : News h₀ L s.heap (homeLed w hm hd' rd kr rO ++ (k.objs w ++ rest))) (hoff : ∀ p ∈ rest, p.1 ≠ rd ∧ p.1 ≠ k.d) (hnd : [hm, hd', rd, k.x, k.d].Nodup) (hoff2 : ∀ p ∈ rest, p.1 ≠ hm ∧ p.1 ≠ hd' ∧ p.1 ≠ k.x)
  (hR : rO.IsDictOf (intKind PySem.Challenge.rw_ok0046_01.row.prog w) kvs) (h64 : kvs.length < 64)
  (hdp : dp + 5 < recursionLimit) (hu : un + 30 < cLine)
  (hret : ∀ rO' h' tk', rO'.IsDictOf (intKind PySem.Challenge.rw_ok0046_01.row.prog w) (stored kvs k.num (.ref k.x)) → Fr h₀ L h' m → News h₀ L h' (homeLed w hm hd' rd kr rO' ++ (({ k with pos := p', tp := tq } : Mk).objs w ++ rest)) → Q .none { s with heap := h', toks := tk' }) :
  wpAny (model PySem.Challenge.rw_ok0046_01.row.prog w) (ktrTop dp un gd cn cs L a ccd cl outer) (PySem.call (.ref 117) [.ref hm, .ref k.x, .int p' tq]) Q E s := by
  revert X
  k_fill
  intro X
  have N3 := N
  replace N : News h₀ L s.heap (homeLed w hm hd' rd kr rO ++ k.objs w) := fun p hp => N3 p (by simp only [List.mem_append] at hp ⊢; rcases hp with h | h; exact .inl h; exact .inr (.inl h))
  simp only [List.cons_append, List.nil_append] at N
  obtain ⟨x, d, num, adv, pos, tn, k1, k2, k3, k4, tp⟩ := k
  simp only [List.nodup_cons, List.mem_cons, List.not_mem_nil, or_false, not_or, not_false_eq_true, List.nodup_nil, and_true] at hnd
  dsimp only [Mk.objs, Mk.dict] at N N3 hoff hoff2 hnd hret ⊢
  refine wpAny_call ?_
  k_dflt walk_at "Mine.enter"
  intro g L' h' FG' F' N' B' X' T' G'
  (try dsimp only)
  (try k_fold)
  walk_at "Mine.steps"
  refine' kda_set (knd := intKind PySem.Challenge.rw_ok0046_01.row.prog w) (k := num) (by assumption) (by assumption) ?U hR (intKind_is _ _ _ _) (by rw [sizeLine_eq]; omega) ?_
  case U => k_updF
  intro h5 o5 F5 N5 hd5
  walk_at "Mine.steps"
  rename_i kF kN _ _
  refine hret o5 _ _ hd5 kF (back (h := s.heap) (rest := rest) (fun p hp => N3 p (by simp [hp])) G' (fun p hp => ?_) (by assumption) kN)
  simp only [List.map_cons, List.map_nil, List.mem_cons, List.not_mem_nil, or_false, not_or]
  exact ⟨(hoff2 p hp).1, (hoff2 p hp).2.1, (hoff p hp).1, (hoff2 p hp).2.2, (hoff p hp).2⟩
end
end

theorem fresh_Drop : True := by
  w_top off
  trivial
section
open PySem PySem.W PyProof.Rows PySem.Calls PySem.Spec PyProof.Rows.LCg
section
variable {w : World} {mean : ExcName → Option Value} {mg mb : PySem.Str → Option Value} {dp un : Nat} {gd : Option (List Code)} {cn : PySem.Str} {cs : Scope} {a : Addr} {ccd : Value} {cl : List (PySem.Str × Addr)} {outer : List Env} {A₀ : Around} {base h₀ : Heap} {L : Addr} {m : PySem.Str → Option Value} {s : Shared} {Q E : Value → Shared → Prop} {rest : List (Addr × Obj)}
theorem drop_call {hm hd' rd : Nat} {kr : Tok} {rO : Obj} {kvs : List (Int × Value)} {k : Mk}
  (B : Below A₀ base outer h₀) (F : Fr h₀ L s.heap m) (X : (hd.heap_1 w.params).In h₀) (T : Top viewOf (looseW viewOf []) mean mg mb h₀) (hk : cs.kind = .function)
  (N : News h₀ L s.heap (homeLed w hm hd' rd kr rO ++ (k.objs w ++ rest))) (hoff : ∀ p ∈ rest, p.1 ≠ rd ∧ p.1 ≠ k.d) (hnd : [hm, hd', rd, k.x, k.d].Nodup) (hoff2 : ∀ p ∈ rest, p.1 ≠ hm ∧ p.1 ≠ hd' ∧ p.1 ≠ k.x)
  (hR : rO.IsDictOf (intKind PySem.Challenge.rw_ok0046_01.row.prog w) kvs) (h64 : kvs.length < 64) (lo : (rd == sysModules) = false)
  (hdp : dp + 5 < recursionLimit) (hu : un + 30 < cLine)
  (hret : ∀ rO' h' tk', rO'.IsDictOf (intKind PySem.Challenge.rw_ok0046_01.row.prog w) (without kvs k.num) → Fr h₀ L h' m → News h₀ L h' (homeLed w hm hd' rd kr rO' ++ (k.objs w ++ rest)) → Q .none { s with heap := h', toks := tk' }) :
  wpAny (model PySem.Challenge.rw_ok0046_01.row.prog w) (ktrTop dp un gd cn cs L a ccd cl outer) (PySem.call (.ref 124) [.ref hm, .ref k.x]) Q E s := by
  revert X
  k_fill
  intro X
  have N3 := N
  replace N : News h₀ L s.heap (homeLed w hm hd' rd kr rO ++ k.objs w) := fun p hp => N3 p (by simp only [List.mem_append] at hp ⊢; rcases hp with h | h; exact .inl h; exact .inr (.inl h))
  simp only [List.cons_append, List.nil_append] at N
  obtain ⟨x, d, num, adv, pos, tn, k1, k2, k3, k4, tp⟩ := k
  simp only [List.nodup_cons, List.mem_cons, List.not_mem_nil, or_false, not_or, not_false_eq_true, List.nodup_nil, and_true] at hnd
  dsimp only [Mk.objs, Mk.dict] at N N3 hoff hoff2 hnd hret ⊢
  have fin : ∀ (g h' : Heap) (L' : Addr) (m' : PySem.Str → Option Value) (rO' : Obj), GSub s.heap g [hm, hd', rd, x, d] → Fr g L' h' m' → News h₀ L h' ((hm, instObj 155 hd') :: (hd', dictOf [⟨PyData.keyHash w.params (PySem.Str.ofString "rows"), .str (PySem.Str.ofString "rows") kr, .ref rd⟩] 1) :: (rd, rO') :: (x, instObj 87 d) :: (d, mkDict w num adv pos tn k1 k2 k3 k4 tp) :: []) →
      News h₀ L h' (homeLed w hm hd' rd kr rO' ++ ([(x, instObj 87 d), (d, mkDict w num adv pos tn k1 k2 k3 k4 tp)] ++ rest)) := fun g h' L' m' rO' G' F' kN =>
    back (h := s.heap) (rest := rest) (fun p hp => N3 p (by simp [hp])) G' (fun p hp => by
      simp only [List.mem_cons, List.not_mem_nil, or_false, not_or]
      exact ⟨(hoff2 p hp).1, (hoff2 p hp).2.1, (hoff p hp).1, (hoff2 p hp).2.2, (hoff p hp).2⟩) F' kN
  refine wpAny_call ?_
  k_dflt walk_at "Mine.enter"
  intro g L' h' FG' F' N' B' X' T' G'
  (try dsimp only)
  (try k_fold)
  walk_at "Mine.steps"
  cases hv : valueAt kvs num with
  | none =>
    refine kda_in (knd := intKind PySem.Challenge.rw_ok0046_01.row.prog w) (k := num) (by assumption) (o := rO) (by k_mem) hR lo (intKind_is _ _ _ _) false (by rw [hv]; rfl) ?_
    walk_at "Mine.steps"
    rename_i kF kN _ _
    refine hret rO _ _ ?_ kF (fin _ _ _ _ _ G' (by assumption) kN)
    rw [without_of_not_mem]
    · exact hR
    · intro hc
      obtain ⟨q, hq, e⟩ := List.mem_map.mp hc
      unfold valueAt at hv
      rw [Option.map_eq_none_iff, List.find?_eq_none] at hv
      exact hv q hq (by simpa using e)
  | some v =>
    refine kda_in (knd := intKind PySem.Challenge.rw_ok0046_01.row.prog w) (k := num) (by assumption) (o := rO) (by k_mem) hR lo (intKind_is _ _ _ _) true (by rw [hv]; rfl) ?_
    walk_at "Mine.steps"
    refine kob_method (knd := intKind PySem.Challenge.rw_ok0046_01.row.prog w) PySem.F.slot_dict_pop PySem.F.type_dict_pop (by assumption) (o := rO) (by k_mem) hR ?_
    walk_at "Mine.steps"
    refine' kob_pop (knd := intKind PySem.Challenge.rw_ok0046_01.row.prog w) (more := []) (by assumption) (by assumption) ?U hR (intKind_is _ _ _ _) (.inl rfl) (by rfl) (PySem.F.args_dict_pop_2 _ _) hv (by rw [sizeLine_eq]; omega) ?_
    case U => k_updF
    intro h5 o5 F5 N5 hd5
    walk_at "Mine.steps"
    rename_i kF kN _ _
    exact hret o5 _ _ hd5 kF (fin _ _ _ _ _ G' (by assumption) kN)
end
end

theorem fresh_Marks : True := by
  w_top off
  trivial
section
open PySem PySem.W PyProof.Rows PySem.Calls PySem.Spec PyProof.Rows.LCg
abbrev marksLed (w : World) (ms : List Mk) : List (Addr × Obj) := ms.flatMap (Mk.objs w)
/-- the addresses of the home and its markers are apart, the numbers too -/
structure Apart (hm hd rd : Nat) (ms : List Mk) : Prop where
  home : hm ≠ hd ∧ hm ≠ rd ∧ hd ≠ rd
  self : ∀ m ∈ ms, m.x ≠ m.d
  away : ∀ m ∈ ms, (m.x ≠ hm ∧ m.x ≠ hd ∧ m.x ≠ rd) ∧ (m.d ≠ hm ∧ m.d ≠ hd ∧ m.d ≠ rd)
  two : ∀ m ∈ ms, ∀ m' ∈ ms, m.num ≠ m'.num → m.x ≠ m'.x ∧ m.x ≠ m'.d ∧ m.d ≠ m'.x ∧ m.d ≠ m'.d
  num : ∀ m ∈ ms, ∀ m' ∈ ms, m.num = m'.num → m = m'
/-- a marker moved, if its number is among S -/
structure Mv (f : Int → Bool → Int) (S : List Int) (m m' : Mk) : Prop where
  x : m'.x = m.x
  d : m'.d = m.d
  num : m'.num = m.num
  adv : m'.adv = m.adv
  pos : m'.pos = if m.num ∈ S then f m.pos m.adv else m.pos
/-- the table bears the markers -/
def Bears (kvs : List (Int × Value)) (ms : List Mk) : Prop := ∀ q v, (q, v) ∈ kvs → ∃ m ∈ ms, m.num = q ∧ v = .ref m.x
abbrev LedM (w : World) (H : List (Addr × Obj)) (ms : List Mk) (g : Mk → Mk) : List (Addr × Obj) := H ++ marksLed w (ms.map g)
abbrev others (w : World) (ms : List Mk) (g : Mk → Mk) (q : Int) : List (Addr × Obj) := marksLed w ((ms.filter fun m => decide (m.num ≠ q)).map g)

/-- the place of the marker with a number -/
noncomputable def mposOf (ms : List Mk) (q : Int) : Int := ((ms.find? fun k => k.num = q).map Mk.pos).getD 0
section
variable {w : World} {hm hd' rd : Nat} {H : List (Addr × Obj)} {ms : List Mk} {kvs : List (Int × Value)}
theorem mem_marksLed {g : Mk → Mk} {p : Addr × Obj} : p ∈ marksLed w (ms.map g) ↔ ∃ m ∈ ms, p ∈ (g m).objs w := by
  simp only [List.mem_flatMap, List.mem_map]
  constructor
  · rintro ⟨_, ⟨m, hm, rfl⟩, hp⟩; exact ⟨m, hm, hp⟩
  · rintro ⟨m, hm, hp⟩; exact ⟨_, ⟨m, hm, rfl⟩, hp⟩
theorem mem_others {g : Mk → Mk} {q : Int} {p : Addr × Obj} : p ∈ others w ms g q ↔ ∃ m ∈ ms, m.num ≠ q ∧ p ∈ (g m).objs w := by
  rw [mem_marksLed]
  constructor
  · rintro ⟨m, hm, hp⟩
    rw [List.mem_filter] at hm
    exact ⟨m, hm.1, of_decide_eq_true hm.2, hp⟩
  · rintro ⟨m, hm, hn, hp⟩
    exact ⟨m, List.mem_filter.mpr ⟨hm, decide_eq_true hn⟩, hp⟩
theorem objs_addr {m : Mk} {p : Addr × Obj} (h : p ∈ m.objs w) : p.1 = m.x ∨ p.1 = m.d := by
  simp only [Mk.objs, List.mem_cons, List.not_mem_nil, or_false] at h
  rcases h with h | h
  · exact .inl (congrArg Prod.fst h)
  · exact .inr (congrArg Prod.fst h)
theorem others_off (W : Apart hm hd' rd ms) {f : Int → Bool → Int} {S : List Int} {g : Mk → Mk} (hg : ∀ m ∈ ms, Mv f S m (g m)) {m : Mk} (hmem : m ∈ ms) : OwnOff (others w ms g m.num) [m.x, m.d] := by
  intro p hp b hb
  obtain ⟨m', hm', hn, hp'⟩ := mem_others.mp hp
  have h := W.two m hmem m' hm' (fun e => hn e.symm)
  have e := objs_addr hp'
  rw [(hg m' hm').x, (hg m' hm').d] at e
  simp only [List.mem_cons, List.not_mem_nil, or_false] at hb
  rcases e with e | e <;> rcases hb with rfl | rfl <;> rw [e]
  · exact fun q => h.1 q.symm
  · exact fun q => h.2.2.1 q.symm
  · exact fun q => h.2.1 q.symm
  · exact fun q => h.2.2.2 q.symm
/-- the turn's marker ahead, the others behind -/
theorem moved_open {h₀ h : Heap} {L I : Addr} {oI : Obj} {g : Mk → Mk} {m : Mk} (hmem : m ∈ ms) (N : News h₀ L h ((I, oI) :: LedM w H ms g)) :
    News h₀ L h ((g m).objs w ++ ((I, oI) :: (H ++ others w ms g m.num))) := fun p hp => by
  refine N p ?_
  rcases List.mem_append.mp hp with h | h
  · exact List.mem_cons_of_mem _ (List.mem_append_right _ (mem_marksLed.mpr ⟨m, hmem, h⟩))
  · rcases List.mem_cons.mp h with h | h
    · rw [h]; exact .head _
    · rcases List.mem_append.mp h with h | h
      · exact List.mem_cons_of_mem _ (List.mem_append_left _ h)
      · obtain ⟨m', hm', _, hp'⟩ := mem_others.mp h
        exact List.mem_cons_of_mem _ (List.mem_append_right _ (mem_marksLed.mpr ⟨m', hm', hp'⟩))
theorem moved_turn (W : Apart hm hd' rd ms) {f : Int → Bool → Int} {ks : List Int} {i : Nat} {g : Mk → Mk} {m : Mk} (hmem : m ∈ ms) (hks : ks[i]? = some m.num) (hnd : ks.Nodup) (hg : ∀ m ∈ ms, Mv f (ks.take i) m (g m))
    {x : PySem.Str} {stored : List PySem.Str} {m₀ : PySem.Str → Option Value} {h₀ : Heap} {L I : Addr} {oI : Obj} {s₁ : Shared}
    (p2 : Int) (t2 : Tok) {h' : Heap} {tk : Nat} {m' : PySem.Str → Option Value} (hp2 : p2 = f m.pos m.adv) (F : Fr h₀ L h' m') (hr : ∀ z, z ≠ x → (∀ p ∈ ([] : List (PySem.Str × Value)), z ≠ p.1) → stored.contains z = false → m' z = m₀ z)
    (hoff : ∀ p ∈ LedM w H ms g, p.1 ≠ I)
    (N : News h₀ L h' (({ g m with pos := p2, tp := t2 } : Mk).objs w ++ ((I, oI) :: (H ++ others w ms g m.num)))) :
    TurnE h₀ L I oI (KS (fun g => LedM w H ms g) (fun _ => []) x stored m₀ (fun g => ∀ m ∈ ms, Mv f (ks.take (i + 1)) m (g m))) s₁ { s₁ with heap := h', toks := tk } := by
  have hni : m.num ∉ ks.take i := by
    intro hc
    obtain ⟨j, hj, e⟩ := List.mem_iff_getElem.mp hc
    have hlt : i < ks.length := by
      rcases Nat.lt_or_ge i ks.length with h1 | h1
      · exact h1
      · rw [List.getElem?_eq_none h1] at hks; cases hks
    have hj' : j < i := by rw [List.length_take] at hj; omega
    rw [List.getElem_take] at e
    have e2 : ks[i] = m.num := Option.some.inj ((List.getElem?_eq_getElem hlt).symm.trans hks)
    have := (List.nodup_iff_pairwise_ne.mp hnd |> List.pairwise_iff_getElem.mp) j i (by omega) hlt hj'
    exact this (e.trans e2.symm)
  have hs : ks.take (i + 1) = ks.take i ++ [m.num] := by rw [List.take_add_one, hks]; rfl
  have hx := (hg m hmem).x
  have hd := (hg m hmem).d
  refine turnS (fun k => if k.num = m.num then { g k with pos := p2, tp := t2 } else g k) F N (by simp) ?_ ?_ (List.forall_mem_nil _) hr ?_
  · intro p hp
    rcases List.mem_append.mp hp with h | h
    · exact List.mem_append_right _ (List.mem_cons_of_mem _ (List.mem_append_left _ h))
    · obtain ⟨k, hk, hp'⟩ := mem_marksLed.mp h
      by_cases e : k.num = m.num
      · have := W.num k hk m hmem e
        subst this
        rw [if_pos rfl] at hp'
        exact List.mem_append_left _ hp'
      · rw [if_neg e] at hp'
        exact List.mem_append_right _ (List.mem_cons_of_mem _ (List.mem_append_right _ (mem_others.mpr ⟨k, hk, e, hp'⟩)))
  · intro p hp
    rcases List.mem_append.mp hp with h | h
    · exact hoff p (List.mem_append_left _ h)
    · obtain ⟨k, hk, hp'⟩ := mem_marksLed.mp h
      by_cases e : k.num = m.num
      · have := W.num k hk m hmem e
        subst this
        rw [if_pos rfl] at hp'
        rcases objs_addr hp' with e1 | e1
        · rw [e1]
          exact hoff ((g k).x, instObj 87 (g k).d) (List.mem_append_right _ (mem_marksLed.mpr ⟨k, hk, by simp [Mk.objs]⟩))
        · rw [e1]
          exact hoff ((g k).d, (g k).dict w) (List.mem_append_right _ (mem_marksLed.mpr ⟨k, hk, by simp [Mk.objs]⟩))
      · rw [if_neg e] at hp'
        exact hoff p (List.mem_append_right _ (mem_marksLed.mpr ⟨k, hk, hp'⟩))
  · intro k hk
    have hgk := hg k hk
    by_cases e : k.num = m.num
    · have := W.num k hk m hmem e
      subst this
      dsimp only
      rw [if_pos rfl]
      exact ⟨hgk.x, hgk.d, hgk.num, hgk.adv, by rw [if_pos (by rw [hs]; simp)]; exact hp2⟩
    · dsimp only
      rw [if_neg e]
      refine ⟨hgk.x, hgk.d, hgk.num, hgk.adv, ?_⟩
      rw [hgk.pos, hs]
      by_cases hc : k.num ∈ ks.take i
      · rw [if_pos hc, if_pos (List.mem_append_left _ hc)]
      · rw [if_neg hc, if_neg]
        intro h
        rcases List.mem_append.mp h with h | h
        · exact hc h
        · exact e (List.mem_singleton.mp h)
theorem valueAt_bears {kvs : List (Int × Value)} (hn : (kvs.map (·.1)).Nodup) {q : Int} (hq : q ∈ kvs.map (·.1)) (hb : Bears kvs ms) : ∃ m ∈ ms, m.num = q ∧ valueAt kvs q = some (.ref m.x) := by
  obtain ⟨⟨q', v⟩, hmem, rfl⟩ := List.mem_map.mp hq
  obtain ⟨m, hm, hnum, rfl⟩ := hb q' v hmem
  obtain ⟨i, hi, e⟩ := List.mem_iff_getElem.mp hmem
  exact ⟨m, hm, hnum, valueAt_of_get hn (by rw [List.getElem?_eq_getElem hi, e])⟩
theorem Mv.not {f : Int → Bool → Int} {ks : List Int} {i : Nat} {m m' : Mk} (h : Mv f (ks.take i) m m') (hks : ks[i]? = some m.num) (hnd : ks.Nodup) : m'.pos = m.pos := by
  rw [h.pos, if_neg]
  intro hc
  obtain ⟨j, hj, e⟩ := List.mem_iff_getElem.mp hc
  have hlt : i < ks.length := by
    rcases Nat.lt_or_ge i ks.length with h1 | h1
    · exact h1
    · rw [List.getElem?_eq_none h1] at hks; cases hks
  have hj' : j < i := by rw [List.length_take] at hj; omega
  rw [List.getElem_take] at e
  have e2 : ks[i] = m.num := Option.some.inj ((List.getElem?_eq_getElem hlt).symm.trans hks)
  have := (List.nodup_iff_pairwise_ne.mp hnd |> List.pairwise_iff_getElem.mp) j i (by omega) hlt hj'
  exact this (e.trans e2.symm)
theorem marks_off (W : Apart hm hd' rd ms) : ∀ p ∈ marksLed w ms, p.1 ≠ hm ∧ p.1 ≠ hd' ∧ p.1 ≠ rd := by
  intro p hp
  simp only [List.mem_flatMap] at hp
  obtain ⟨m, hm, hp⟩ := hp
  have h := W.away m hm
  rcases objs_addr hp with e | e <;> rw [e]
  · exact h.1
  · exact h.2
theorem isDict_nodup {prog : Program} {w : World} {K : Type} [DecidableEq K] {knd : KeyKind prog w K} {o : Obj} {kvs : List (K × Value)} (h : o.IsDictOf knd kvs) : (kvs.map (·.1)).Nodup := by
  obtain ⟨_, _, _, _, _, _, hn⟩ := h
  exact hn
theorem item_dict {prog : Program} {A : Around} {E : Value → Shared → Prop} {s : Shared} {K : Type} [DecidableEq K] {knd : KeyKind prog w K} {h₀ : Heap} {L d : Addr} {news : List (Addr × Obj)} {o : Obj} {kvs : List (K × Value)} {k : K} {key v : Value} {value slice : PySem.Expr} {Q : Value → Shared → Prop} (N : News h₀ L s.heap news) (hp : (d, o) ∈ news) (hd : o.IsDictOf knd kvs) (hkey : knd.is k key = true) (hl : valueAt kvs k = some v) (h : Q v { s with toks := s.toks + 1 })
    (hs : subscripted slice false (.ref d) key = operate [.ref d, key] (getItem (.ref d) key) := by with_unfolding_all rfl) :
    wpAny (model prog w) A (subscriptTail value slice (.ref d) key) Q E s :=
  have hD := kda_dict N hp hd
  tail_any hD.typeIs slot_dict_getitem.lookup (wpAny_getItem_of hkey hD.mapOf hl h) hs
theorem ne_of_objs {h₀ h : Heap} {L a b : Addr} {news : List (Addr × Obj)} {o o' : Obj} (N : News h₀ L h news) (h1 : (a, o) ∈ news) (h2 : (b, o') ∈ news) (hne : o.cls ≠ o'.cls) : @Ne Nat a b := by
  intro e
  have e1 := (N _ h1).1
  have e2 := (N _ h2).1
  dsimp only at e1 e2
  rw [show a = b from e, e2] at e1
  exact hne (congrArg Obj.cls (Option.some.inj e1)).symm
theorem Mv.perm {f : Int → Bool → Int} {S S' : List Int} {m m' : Mk} (h : Mv f S m m') (hp : S.Perm S') : Mv f S' m m' :=
  ⟨h.x, h.d, h.num, h.adv, by rw [h.pos]; simp only [hp.mem_iff]⟩
/-- what stands behind a method's walk over the markers -/
theorem marks_back {h₀ h gr h' : Heap} {L L' : Addr} {m' : PySem.Str → Option Value} {rest nw : List (Addr × Obj)} {kr : Tok} {rO rO' : Obj} {ms' : List Mk}
    (N : News h₀ L h (homeLed w hm hd' rd kr rO ++ (marksLed w ms ++ rest))) (hoff : ∀ p ∈ rest, (p.1 ≠ hm ∧ p.1 ≠ hd' ∧ p.1 ≠ rd) ∧ ∀ k ∈ ms, p.1 ≠ k.x ∧ p.1 ≠ k.d)
    (G : GSub h gr ((homeLed w hm hd' rd kr rO ++ marksLed w ms).map (·.1))) (F' : Fr gr L' h' m') (kN : News h₀ L h' nw) (hs : ∀ p ∈ homeLed w hm hd' rd kr rO' ++ marksLed w ms', p ∈ nw) :
    News h₀ L h' (homeLed w hm hd' rd kr rO' ++ (marksLed w ms' ++ rest)) := by
  rw [← List.append_assoc]
  refine backS (h := h) (fun p hp => N p (List.mem_append_right _ (List.mem_append_right _ hp))) G (fun p hp hc => ?_) F' kN hs
  obtain ⟨q, hq, e⟩ := List.mem_map.mp hc
  rcases List.mem_append.mp hq with h1 | h1
  · simp only [homeLed, List.mem_cons, List.not_mem_nil, or_false] at h1
    have h2 := (hoff p hp).1
    rcases h1 with h1 | h1 | h1 <;> rw [h1] at e
    · exact h2.1 e.symm
    · exact h2.2.1 e.symm
    · exact h2.2.2 e.symm
  · simp only [List.mem_flatMap] at h1
    obtain ⟨k, hk, h1⟩ := h1
    have h2 := (hoff p hp).2 k hk
    rcases objs_addr h1 with h3 | h3
    · exact h2.1 (e.symm.trans h3)
    · exact h2.2 (e.symm.trans h3)
theorem mposOf_eq (W : Apart hm hd' rd ms) {m : Mk} (hmem : m ∈ ms) : mposOf ms m.num = m.pos := by
  unfold mposOf
  cases hf : ms.find? (fun k => decide (k.num = m.num)) with
  | none =>
    rw [List.find?_eq_none] at hf
    exact absurd (by simp) (hf m hmem)
  | some k =>
    have h1 := List.mem_of_find?_eq_some hf
    have h2 : k.num = m.num := by simpa using List.find?_some hf
    rw [W.num k h1 m hmem h2]
    rfl
theorem Apart.mv {f : Int → Bool → Int} {S : List Int} {g : Mk → Mk} (W : Apart hm hd' rd ms) (hg : ∀ m ∈ ms, Mv f S m (g m)) : Apart hm hd' rd (ms.map g) where
  home := W.home
  self := fun m h => by obtain ⟨k, hk, rfl⟩ := List.mem_map.mp h; rw [(hg k hk).x, (hg k hk).d]; exact W.self k hk
  away := fun m h => by obtain ⟨k, hk, rfl⟩ := List.mem_map.mp h; rw [(hg k hk).x, (hg k hk).d]; exact W.away k hk
  two := fun m h m' h' hn => by
    obtain ⟨k, hk, rfl⟩ := List.mem_map.mp h
    obtain ⟨k', hk', rfl⟩ := List.mem_map.mp h'
    rw [(hg k hk).x, (hg k hk).d, (hg k' hk').x, (hg k' hk').d]
    rw [(hg k hk).num, (hg k' hk').num] at hn
    exact W.two k hk k' hk' hn
  num := fun m h m' h' e => by
    obtain ⟨k, hk, rfl⟩ := List.mem_map.mp h
    obtain ⟨k', hk', rfl⟩ := List.mem_map.mp h'
    rw [(hg k hk).num, (hg k' hk').num] at e
    rw [W.num k hk k' hk' e]
theorem marks_split (W : Apart hm hd' rd ms) {m : Mk} (hmem : m ∈ ms) {p : Addr × Obj} (hp : p ∈ marksLed w ms) : p ∈ m.objs w ∨ p ∈ others w ms id m.num := by
  rw [← List.map_id ms] at hp
  obtain ⟨k, hk, hp'⟩ := mem_marksLed.mp hp
  by_cases e : k.num = m.num
  · have := W.num k hk m hmem e
    subst this
    exact .inl hp'
  · exact .inr (mem_others.mpr ⟨k, hk, e, hp'⟩)
theorem others_sub {m : Mk} {p : Addr × Obj} (hp : p ∈ others w ms id m.num) : p ∈ marksLed w ms := by
  obtain ⟨k, hk, _, hp'⟩ := mem_others.mp hp
  rw [← List.map_id ms]
  exact mem_marksLed.mpr ⟨k, hk, hp'⟩
theorem mv_id {f : Int → Bool → Int} : ∀ m ∈ ms, Mv f [] m (id m) := fun m _ => ⟨rfl, rfl, rfl, rfl, by simp⟩
theorem within_mem (W : Apart hm hd' rd ms) {kr : Tok} {rO : Obj} {m : Mk} (hmem : m ∈ ms) {I FD D : Addr} {oI oF oD : Obj} : ∀ p ∈ (FD, oF) :: (D, oD) :: (homeLed w hm hd' rd kr rO ++ marksLed w ms), p ∈ m.objs w ++ ((I, oI) :: (FD, oF) :: (D, oD) :: (homeLed w hm hd' rd kr rO ++ others w ms id m.num)) := by
  intro p hp
  rcases List.mem_cons.mp hp with h | hp
  · exact List.mem_append_right _ (.tail _ (h ▸ .head _))
  · rcases List.mem_cons.mp hp with h | hp
    · exact List.mem_append_right _ (.tail _ (.tail _ (h ▸ .head _)))
    · rcases List.mem_append.mp hp with h | h
      · exact List.mem_append_right _ (.tail _ (.tail _ (.tail _ (List.mem_append_left _ h))))
      · rcases marks_split W hmem h with h | h
        · exact List.mem_append_left _ h
        · exact List.mem_append_right _ (.tail _ (.tail _ (.tail _ (List.mem_append_right _ h))))
end
end

theorem fresh_InsM : True := by
  w_top off
  trivial
section
open PySem PySem.W PyProof.Rows PySem.Calls PySem.Spec PyProof.Rows.LCg
local macro_rules | `(tactic| walk_at "Mine.stop") => `(tactic| (with_reducible show wpAny _ _ (subscriptTail _ _ (Value.ref _) (Value.int _ _)) _ _ _))
/-- how an insertion moves a place -/
noncomputable def fIns (a b : Int) (before : Bool) (p : Int) (adv : Bool) : Int := if p > a ∨ (p = a ∧ (before = true ∨ adv = true)) then p + b - a else p
section
variable {w : World} {mean : ExcName → Option Value} {mg mb : PySem.Str → Option Value} {dp un : Nat} {gd : Option (List Code)} {cn : PySem.Str} {cs : Scope} {a : Addr} {ccd : Value} {cl : List (PySem.Str × Addr)} {outer : List Env} {A₀ : Around} {base h₀ : Heap} {L : Addr} {m : PySem.Str → Option Value} {s : Shared} {Q E : Value → Shared → Prop} {rest : List (Addr × Obj)}
theorem insm_call {hm hd' rd : Nat} {kr : Tok} {rO : Obj} {kvs : List (Int × Value)} {ms : List Mk} {a' b' : Int} {ta tb : Tok} {before : Bool}
  (B : Below A₀ base outer h₀) (F : Fr h₀ L s.heap m) (X : (hd.heap_1 w.params).In h₀) (T : Top viewOf (looseW viewOf []) mean mg mb h₀) (hk : cs.kind = .function)
  (N : News h₀ L s.heap (homeLed w hm hd' rd kr rO ++ (marksLed w ms ++ rest))) (W : Apart hm hd' rd ms) (hoff : ∀ p ∈ rest, (p.1 ≠ hm ∧ p.1 ≠ hd' ∧ p.1 ≠ rd) ∧ ∀ k ∈ ms, p.1 ≠ k.x ∧ p.1 ≠ k.d)
  (hR : rO.IsDictOf (intKind PySem.Challenge.rw_ok0046_01.row.prog w) kvs) (hb : Bears kvs ms) (h64 : kvs.length < 64) (lo : (rd == sysModules) = false)
  (hdp : dp + 10 < recursionLimit) (hu : un + 60 < cLine)
  (hret : ∀ g h' tk', (∀ k ∈ ms, Mv (fIns a' b' before) (kvs.map (·.1)) k (g k)) → Fr h₀ L h' m → News h₀ L h' (homeLed w hm hd' rd kr rO ++ (marksLed w (ms.map g) ++ rest)) → Q .none { s with heap := h', toks := tk' }) :
  wpAny (model PySem.Challenge.rw_ok0046_01.row.prog w) (ktrTop dp un gd cn cs L a ccd cl outer) (PySem.call (.ref 138) [.ref hm, .int a' ta, .int b' tb, .bool before]) Q E s := by
  revert X
  k_fill
  intro X
  have N3 := N
  replace N : News h₀ L s.heap (homeLed w hm hd' rd kr rO ++ marksLed w ms) := fun p hp => N3 p (by rw [← List.append_assoc]; exact List.mem_append_left _ hp)
  simp only [List.cons_append, List.nil_append] at N
  refine wpAny_call ?_
  k_dflt walk_at "Mine.enter"
  intro g L' h' FG' F' N' B' X' T' G'
  (try dsimp only)
  (try k_fold)
  walk_at "Mine.steps"
  walk_at "Mine.for"
  walk_at "Mine.steps"
  refine' numbers_call (rest := marksLed w ms) (kr := kr) (rO := rO) (hd' := hd') (rd := rd) (by assumption) (by assumption) (by assumption) (by assumption) (by rfl) N' ?off hR lo h64 (by ktr_room) (by ktr_units) ?_
  case off => exact marks_off W
  intro D vs ks n h6 tk6 hI hperm hpw F6 N6 _
  have hnd : ks.Nodup := hperm.nodup_iff.mpr (isDict_nodup hR)
  walk_at "Mine.steps"
  refine' for_listS (σ := Mk → Mk) (fun g => LedM w ((D, listOf vs.toArray n) :: homeLed w hm hd' rd kr rO) ms g) (fun _ => []) [PySem.Str.ofString "marker"] (fun i g => ∀ k ∈ ms, Mv (fIns a' b' before) (ks.take i) k (g k)) id (by rfl) (N6 (D, listOf vs.toArray n) (.head _)).1 rfl rfl (N6 (D, listOf vs.toArray n) (.head _)).2.1 (.inr (fun _ => .head _)) (by assumption) (by show News _ _ _ (_ ++ marksLed w (ms.map id)); rw [List.map_id]; exact N6) (List.forall_mem_nil _) (fun k hk => ⟨rfl, rfl, rfl, rfl, by simp⟩) ?turn ?done
  case turn =>
    intro i v gg u I oI h tk hv hg hoffI Fx Nx
    obtain ⟨q, t, hq, rfl⟩ := int_at hI hv
    obtain ⟨k, hk, hkn, hval⟩ := valueAt_bears (isDict_nodup hR) (hperm.mem_iff.mp (List.mem_of_getElem? hq)) hb
    subst hkn
    have Nk := moved_open hk Nx
    have hoth := others_off (w := w) W hg hk
    have hposk := (hg k hk).not hq hnd
    have e1 := (hg k hk).x
    have e2 := (hg k hk).d
    have e3 := (hg k hk).adv
    have W1 := W.away k hk
    have W2 := W.self k hk
    have hx1 : @Ne Nat (gg k).x I := hoffI ((gg k).x, instObj 87 (gg k).d) (List.mem_append_right _ (mem_marksLed.mpr ⟨k, hk, by simp [Mk.objs]⟩))
    have hx2 : @Ne Nat (gg k).d I := hoffI ((gg k).d, (gg k).dict w) (List.mem_append_right _ (mem_marksLed.mpr ⟨k, hk, by simp [Mk.objs]⟩))
    have e4 := (hg k hk).num
    have hD1 : @Ne Nat D (gg k).x := ne_of_objs Nx (.tail _ (.head _)) (b := (gg k).x) (o' := instObj 87 (gg k).d) (List.mem_cons_of_mem _ (List.mem_append_right _ (mem_marksLed.mpr ⟨k, hk, by simp [Mk.objs]⟩))) (by simp)
    have hD2 : @Ne Nat D (gg k).d := ne_of_objs Nx (.tail _ (.head _)) (b := (gg k).d) (o' := (gg k).dict w) (List.mem_cons_of_mem _ (List.mem_append_right _ (mem_marksLed.mpr ⟨k, hk, by simp [Mk.objs]⟩))) (by simp)
    simp only [Mk.objs, Mk.dict, e1, e2, e3, e4, hposk, List.cons_append, List.nil_append] at Nk
    rw [e1] at hx1 hD1
    rw [e2] at hx2 hD2
    have W3 := W1.1
    have W4 := W1.2
    simp only [kstB] at Fx
    clear Nx N6 N'
    walk_at "Mine.steps"
    refine item_dict (knd := intKind PySem.Challenge.rw_ok0046_01.row.prog w) (k := k.num) (by assumption) (o := rO) (by k_mem) hR (intKind_is _ _ _ _) hval ?_
    walk_at "Mine.steps"
    · show TurnE _ _ _ _ _ _ _
      refine' moved_turn (w := w) W hk hq hnd hg ?p0 ?t0 ?hp0 (by assumption) (by walk_at "Mine.same") hoffI ?N0
      case N0 =>
        simp only [Mk.objs, Mk.dict, e1, e2, e3, e4, List.cons_append, List.nil_append]
        assumption
      case hp0 =>
        exact (if_pos (.inl (by assumption))).symm
    · show TurnE _ _ _ _ _ _ _
      refine' moved_turn (w := w) W hk hq hnd hg ?p1 ?t1 ?hp1 (by assumption) (by walk_at "Mine.same") hoffI ?N1
      case N1 =>
        simp only [Mk.objs, Mk.dict, e1, e2, e3, e4, List.cons_append, List.nil_append]
        assumption
      case hp1 =>
        exact (if_pos (.inr ⟨by assumption, .inl (by assumption)⟩)).symm
    · show TurnE _ _ _ _ _ _ _
      refine' moved_turn (w := w) W hk hq hnd hg ?p2 ?t2 ?hp2 (by assumption) (by walk_at "Mine.same") hoffI ?N2
      case N2 =>
        simp only [Mk.objs, Mk.dict, e1, e2, e3, e4, List.cons_append, List.nil_append]
        assumption
      case hp2 =>
        exact (if_pos (.inr ⟨by assumption, .inr (by assumption)⟩)).symm
    · show TurnE _ _ _ _ _ _ _
      refine' moved_turn (w := w) W hk hq hnd hg ?p3 ?t3 ?hp3 (by assumption) (by walk_at "Mine.same") hoffI ?N3
      case N3 =>
        simp only [Mk.objs, Mk.dict, e1, e2, e3, e4, List.cons_append, List.nil_append]
        assumption
      case hp3 =>
        exact (if_neg (by
          rintro (h | ⟨h, h2 | h2⟩)
          · exact absurd h (by assumption)
          · exact Bool.false_ne_true ((by assumption : before = false).symm.trans h2)
          · exact Bool.false_ne_true ((by assumption : k.adv = false).symm.trans h2))).symm
    · show TurnE _ _ _ _ _ _ _
      refine' moved_turn (w := w) W hk hq hnd hg ?p4 ?t4 ?hp4 (by assumption) (by walk_at "Mine.same") hoffI ?N4
      case N4 =>
        simp only [Mk.objs, Mk.dict, e1, e2, e3, e4, List.cons_append, List.nil_append]
        assumption
      case hp4 =>
        exact (if_neg (by
          rintro (h | ⟨h, h2 | h2⟩)
          · exact absurd h (by assumption)
          · exact absurd h (by assumption)
          · exact absurd h (by assumption))).symm
  case done =>
    intro gg u h tk hg Fx Nx
    walk_at "Mine.steps"
    rename_i kF kN _ _
    rw [hI.length, List.take_length] at hg
    exact hret gg _ _ (fun k hk => (hg k hk).perm hperm) kF (marks_back (h := s.heap) N3 hoff G' (by assumption) kN fun p hp => .tail _ hp)
end
end

theorem fresh_DelM : True := by
  w_top off
  trivial
section
open PySem PySem.W PyProof.Rows PySem.Calls PySem.Spec PyProof.Rows.LCg
local macro_rules | `(tactic| walk_at "Mine.stop") => `(tactic| (with_reducible show wpAny _ _ (subscriptTail _ _ (Value.ref _) (Value.int _ _)) _ _ _))
/-- how a deletion moves a place -/
noncomputable def fDel (a b : Int) (p : Int) (_adv : Bool) : Int := if p > b then p - (b - a) else if p > a then a else p
section
variable {w : World} {mean : ExcName → Option Value} {mg mb : PySem.Str → Option Value} {dp un : Nat} {gd : Option (List Code)} {cn : PySem.Str} {cs : Scope} {a : Addr} {ccd : Value} {cl : List (PySem.Str × Addr)} {outer : List Env} {A₀ : Around} {base h₀ : Heap} {L : Addr} {m : PySem.Str → Option Value} {s : Shared} {Q E : Value → Shared → Prop} {rest : List (Addr × Obj)}
theorem delm_call {hm hd' rd : Nat} {kr : Tok} {rO : Obj} {kvs : List (Int × Value)} {ms : List Mk} {a' b' : Int} {ta tb : Tok}
  (B : Below A₀ base outer h₀) (F : Fr h₀ L s.heap m) (X : (hd.heap_1 w.params).In h₀) (T : Top viewOf (looseW viewOf []) mean mg mb h₀) (hk : cs.kind = .function)
  (N : News h₀ L s.heap (homeLed w hm hd' rd kr rO ++ (marksLed w ms ++ rest))) (W : Apart hm hd' rd ms) (hoff : ∀ p ∈ rest, (p.1 ≠ hm ∧ p.1 ≠ hd' ∧ p.1 ≠ rd) ∧ ∀ k ∈ ms, p.1 ≠ k.x ∧ p.1 ≠ k.d)
  (hR : rO.IsDictOf (intKind PySem.Challenge.rw_ok0046_01.row.prog w) kvs) (hb : Bears kvs ms) (h64 : kvs.length < 64) (lo : (rd == sysModules) = false)
  (hdp : dp + 10 < recursionLimit) (hu : un + 60 < cLine)
  (hret : ∀ g h' tk', (∀ k ∈ ms, Mv (fDel a' b') (kvs.map (·.1)) k (g k)) → Fr h₀ L h' m → News h₀ L h' (homeLed w hm hd' rd kr rO ++ (marksLed w (ms.map g) ++ rest)) → Q .none { s with heap := h', toks := tk' }) :
  wpAny (model PySem.Challenge.rw_ok0046_01.row.prog w) (ktrTop dp un gd cn cs L a ccd cl outer) (PySem.call (.ref 145) [.ref hm, .int a' ta, .int b' tb]) Q E s := by
  revert X
  k_fill
  intro X
  have N3 := N
  replace N : News h₀ L s.heap (homeLed w hm hd' rd kr rO ++ marksLed w ms) := fun p hp => N3 p (by rw [← List.append_assoc]; exact List.mem_append_left _ hp)
  simp only [List.cons_append, List.nil_append] at N
  refine wpAny_call ?_
  k_dflt walk_at "Mine.enter"
  intro g L' h' FG' F' N' B' X' T' G'
  (try dsimp only)
  (try k_fold)
  walk_at "Mine.steps"
  walk_at "Mine.for"
  walk_at "Mine.steps"
  refine' numbers_call (rest := marksLed w ms) (kr := kr) (rO := rO) (hd' := hd') (rd := rd) (by assumption) (by assumption) (by assumption) (by assumption) (by rfl) N' ?off hR lo h64 (by ktr_room) (by ktr_units) ?_
  case off => exact marks_off W
  intro D vs ks n h6 tk6 hI hperm hpw F6 N6 _
  have hnd : ks.Nodup := hperm.nodup_iff.mpr (isDict_nodup hR)
  walk_at "Mine.steps"
  refine' for_listS (σ := Mk → Mk) (fun g => LedM w ((D, listOf vs.toArray n) :: homeLed w hm hd' rd kr rO) ms g) (fun _ => []) [PySem.Str.ofString "marker"] (fun i g => ∀ k ∈ ms, Mv (fDel a' b') (ks.take i) k (g k)) id (by rfl) (N6 (D, listOf vs.toArray n) (.head _)).1 rfl rfl (N6 (D, listOf vs.toArray n) (.head _)).2.1 (.inr (fun _ => .head _)) (by assumption) (by show News _ _ _ (_ ++ marksLed w (ms.map id)); rw [List.map_id]; exact N6) (List.forall_mem_nil _) (fun k hk => ⟨rfl, rfl, rfl, rfl, by simp⟩) ?turn ?done
  case turn =>
    intro i v gg u I oI h tk hv hg hoffI Fx Nx
    obtain ⟨q, t, hq, rfl⟩ := int_at hI hv
    obtain ⟨k, hk, hkn, hval⟩ := valueAt_bears (isDict_nodup hR) (hperm.mem_iff.mp (List.mem_of_getElem? hq)) hb
    subst hkn
    have Nk := moved_open hk Nx
    have hoth := others_off (w := w) W hg hk
    have hposk := (hg k hk).not hq hnd
    have e1 := (hg k hk).x
    have e2 := (hg k hk).d
    have e3 := (hg k hk).adv
    have W1 := W.away k hk
    have W2 := W.self k hk
    have hx1 : @Ne Nat (gg k).x I := hoffI ((gg k).x, instObj 87 (gg k).d) (List.mem_append_right _ (mem_marksLed.mpr ⟨k, hk, by simp [Mk.objs]⟩))
    have hx2 : @Ne Nat (gg k).d I := hoffI ((gg k).d, (gg k).dict w) (List.mem_append_right _ (mem_marksLed.mpr ⟨k, hk, by simp [Mk.objs]⟩))
    have e4 := (hg k hk).num
    have hD1 : @Ne Nat D (gg k).x := ne_of_objs Nx (.tail _ (.head _)) (b := (gg k).x) (o' := instObj 87 (gg k).d) (List.mem_cons_of_mem _ (List.mem_append_right _ (mem_marksLed.mpr ⟨k, hk, by simp [Mk.objs]⟩))) (by simp)
    have hD2 : @Ne Nat D (gg k).d := ne_of_objs Nx (.tail _ (.head _)) (b := (gg k).d) (o' := (gg k).dict w) (List.mem_cons_of_mem _ (List.mem_append_right _ (mem_marksLed.mpr ⟨k, hk, by simp [Mk.objs]⟩))) (by simp)
    simp only [Mk.objs, Mk.dict, e1, e2, e3, e4, hposk, List.cons_append, List.nil_append] at Nk
    rw [e1] at hx1 hD1
    rw [e2] at hx2 hD2
    have W3 := W1.1
    have W4 := W1.2
    simp only [kstB] at Fx
    clear Nx N6 N'
    walk_at "Mine.steps"
    refine item_dict (knd := intKind PySem.Challenge.rw_ok0046_01.row.prog w) (k := k.num) (by assumption) (o := rO) (by k_mem) hR (intKind_is _ _ _ _) hval ?_
    walk_at "Mine.steps"
    · show TurnE _ _ _ _ _ _ _
      refine' moved_turn (w := w) W hk hq hnd hg ?p0 ?t0 ?hp0 (by assumption) (by walk_at "Mine.same") hoffI ?N0
      case N0 =>
        simp only [Mk.objs, Mk.dict, e1, e2, e3, e4, List.cons_append, List.nil_append]
        assumption
      case hp0 =>
        exact (if_pos (by assumption)).symm
    · show TurnE _ _ _ _ _ _ _
      refine' moved_turn (w := w) W hk hq hnd hg ?p1 ?t1 ?hp1 (by assumption) (by walk_at "Mine.same") hoffI ?N1
      case N1 =>
        simp only [Mk.objs, Mk.dict, e1, e2, e3, e4, List.cons_append, List.nil_append]
        assumption
      case hp1 =>
        exact ((if_neg (by assumption)).trans (if_pos (by assumption))).symm
    · show TurnE _ _ _ _ _ _ _
      refine' moved_turn (w := w) W hk hq hnd hg ?p2 ?t2 ?hp2 (by assumption) (by walk_at "Mine.same") hoffI ?N2
      case N2 =>
        simp only [Mk.objs, Mk.dict, e1, e2, e3, e4, List.cons_append, List.nil_append]
        assumption
      case hp2 =>
        exact ((if_neg (by assumption)).trans (if_neg (by assumption))).symm
  case done =>
    intro gg u h tk hg Fx Nx
    walk_at "Mine.steps"
    rename_i kF kN _ _
    rw [hI.length, List.take_length] at hg
    exact hret gg _ _ (fun k hk => (hg k hk).perm hperm) kF (marks_back (h := s.heap) N3 hoff G' (by assumption) kN fun p hp => .tail _ hp)
end
end

theorem fresh_RepM : True := by
  w_top off
  trivial
section
open PySem PySem.W PyProof.Rows PySem.Calls PySem.Spec PyProof.Rows.LCg
local macro_rules | `(tactic| walk_at "Mine.stop") => `(tactic| (with_reducible show wpAny _ _ (subscriptTail _ _ (Value.ref _) (Value.int _ _)) _ _ _))
/-- how a replacement moves a place -/
noncomputable def fRep (a b many : Int) (p : Int) (_adv : Bool) : Int := if p ≥ b then p + many - (b - a) else if p > a then a else p
section
variable {w : World} {mean : ExcName → Option Value} {mg mb : PySem.Str → Option Value} {dp un : Nat} {gd : Option (List Code)} {cn : PySem.Str} {cs : Scope} {a : Addr} {ccd : Value} {cl : List (PySem.Str × Addr)} {outer : List Env} {A₀ : Around} {base h₀ : Heap} {L : Addr} {m : PySem.Str → Option Value} {s : Shared} {Q E : Value → Shared → Prop} {rest : List (Addr × Obj)}
theorem repm_call {hm hd' rd : Nat} {kr : Tok} {rO : Obj} {kvs : List (Int × Value)} {ms : List Mk} {a' b' many : Int} {ta tb tm : Tok}
  (B : Below A₀ base outer h₀) (F : Fr h₀ L s.heap m) (X : (hd.heap_1 w.params).In h₀) (T : Top viewOf (looseW viewOf []) mean mg mb h₀) (hk : cs.kind = .function)
  (N : News h₀ L s.heap (homeLed w hm hd' rd kr rO ++ (marksLed w ms ++ rest))) (W : Apart hm hd' rd ms) (hoff : ∀ p ∈ rest, (p.1 ≠ hm ∧ p.1 ≠ hd' ∧ p.1 ≠ rd) ∧ ∀ k ∈ ms, p.1 ≠ k.x ∧ p.1 ≠ k.d)
  (hR : rO.IsDictOf (intKind PySem.Challenge.rw_ok0046_01.row.prog w) kvs) (hb : Bears kvs ms) (h64 : kvs.length < 64) (lo : (rd == sysModules) = false)
  (hdp : dp + 10 < recursionLimit) (hu : un + 60 < cLine)
  (hret : ∀ g h' tk', (∀ k ∈ ms, Mv (fRep a' b' many) (kvs.map (·.1)) k (g k)) → Fr h₀ L h' m → News h₀ L h' (homeLed w hm hd' rd kr rO ++ (marksLed w (ms.map g) ++ rest)) → Q .none { s with heap := h', toks := tk' }) :
  wpAny (model PySem.Challenge.rw_ok0046_01.row.prog w) (ktrTop dp un gd cn cs L a ccd cl outer) (PySem.call (.ref 152) [.ref hm, .int a' ta, .int b' tb, .int many tm]) Q E s := by
  revert X
  k_fill
  intro X
  have N3 := N
  replace N : News h₀ L s.heap (homeLed w hm hd' rd kr rO ++ marksLed w ms) := fun p hp => N3 p (by rw [← List.append_assoc]; exact List.mem_append_left _ hp)
  simp only [List.cons_append, List.nil_append] at N
  refine wpAny_call ?_
  k_dflt walk_at "Mine.enter"
  intro g L' h' FG' F' N' B' X' T' G'
  (try dsimp only)
  (try k_fold)
  walk_at "Mine.steps"
  walk_at "Mine.for"
  walk_at "Mine.steps"
  refine' numbers_call (rest := marksLed w ms) (kr := kr) (rO := rO) (hd' := hd') (rd := rd) (by assumption) (by assumption) (by assumption) (by assumption) (by rfl) N' ?off hR lo h64 (by ktr_room) (by ktr_units) ?_
  case off => exact marks_off W
  intro D vs ks n h6 tk6 hI hperm hpw F6 N6 _
  have hnd : ks.Nodup := hperm.nodup_iff.mpr (isDict_nodup hR)
  walk_at "Mine.steps"
  refine' for_listS (σ := Mk → Mk) (fun g => LedM w ((D, listOf vs.toArray n) :: homeLed w hm hd' rd kr rO) ms g) (fun _ => []) [PySem.Str.ofString "marker"] (fun i g => ∀ k ∈ ms, Mv (fRep a' b' many) (ks.take i) k (g k)) id (by rfl) (N6 (D, listOf vs.toArray n) (.head _)).1 rfl rfl (N6 (D, listOf vs.toArray n) (.head _)).2.1 (.inr (fun _ => .head _)) (by assumption) (by show News _ _ _ (_ ++ marksLed w (ms.map id)); rw [List.map_id]; exact N6) (List.forall_mem_nil _) (fun k hk => ⟨rfl, rfl, rfl, rfl, by simp⟩) ?turn ?done
  case turn =>
    intro i v gg u I oI h tk hv hg hoffI Fx Nx
    obtain ⟨q, t, hq, rfl⟩ := int_at hI hv
    obtain ⟨k, hk, hkn, hval⟩ := valueAt_bears (isDict_nodup hR) (hperm.mem_iff.mp (List.mem_of_getElem? hq)) hb
    subst hkn
    have Nk := moved_open hk Nx
    have hoth := others_off (w := w) W hg hk
    have hposk := (hg k hk).not hq hnd
    have e1 := (hg k hk).x
    have e2 := (hg k hk).d
    have e3 := (hg k hk).adv
    have W1 := W.away k hk
    have W2 := W.self k hk
    have hx1 : @Ne Nat (gg k).x I := hoffI ((gg k).x, instObj 87 (gg k).d) (List.mem_append_right _ (mem_marksLed.mpr ⟨k, hk, by simp [Mk.objs]⟩))
    have hx2 : @Ne Nat (gg k).d I := hoffI ((gg k).d, (gg k).dict w) (List.mem_append_right _ (mem_marksLed.mpr ⟨k, hk, by simp [Mk.objs]⟩))
    have e4 := (hg k hk).num
    have hD1 : @Ne Nat D (gg k).x := ne_of_objs Nx (.tail _ (.head _)) (b := (gg k).x) (o' := instObj 87 (gg k).d) (List.mem_cons_of_mem _ (List.mem_append_right _ (mem_marksLed.mpr ⟨k, hk, by simp [Mk.objs]⟩))) (by simp)
    have hD2 : @Ne Nat D (gg k).d := ne_of_objs Nx (.tail _ (.head _)) (b := (gg k).d) (o' := (gg k).dict w) (List.mem_cons_of_mem _ (List.mem_append_right _ (mem_marksLed.mpr ⟨k, hk, by simp [Mk.objs]⟩))) (by simp)
    simp only [Mk.objs, Mk.dict, e1, e2, e3, e4, hposk, List.cons_append, List.nil_append] at Nk
    rw [e1] at hx1 hD1
    rw [e2] at hx2 hD2
    have W3 := W1.1
    have W4 := W1.2
    simp only [kstB] at Fx
    clear Nx N6 N'
    walk_at "Mine.steps"
    refine item_dict (knd := intKind PySem.Challenge.rw_ok0046_01.row.prog w) (k := k.num) (by assumption) (o := rO) (by k_mem) hR (intKind_is _ _ _ _) hval ?_
    walk_at "Mine.steps"
    · show TurnE _ _ _ _ _ _ _
      refine' moved_turn (w := w) W hk hq hnd hg ?p0 ?t0 ?hp0 (by assumption) (by walk_at "Mine.same") hoffI ?N0
      case N0 =>
        simp only [Mk.objs, Mk.dict, e1, e2, e3, e4, List.cons_append, List.nil_append]
        assumption
      case hp0 =>
        exact (if_pos (by assumption)).symm
    · show TurnE _ _ _ _ _ _ _
      refine' moved_turn (w := w) W hk hq hnd hg ?p1 ?t1 ?hp1 (by assumption) (by walk_at "Mine.same") hoffI ?N1
      case N1 =>
        simp only [Mk.objs, Mk.dict, e1, e2, e3, e4, List.cons_append, List.nil_append]
        assumption
      case hp1 =>
        exact ((if_neg (by assumption)).trans (if_pos (by assumption))).symm
    · show TurnE _ _ _ _ _ _ _
      refine' moved_turn (w := w) W hk hq hnd hg ?p2 ?t2 ?hp2 (by assumption) (by walk_at "Mine.same") hoffI ?N2
      case N2 =>
        simp only [Mk.objs, Mk.dict, e1, e2, e3, e4, List.cons_append, List.nil_append]
        assumption
      case hp2 =>
        exact ((if_neg (by assumption)).trans (if_neg (by assumption))).symm
  case done =>
    intro gg u h tk hg Fx Nx
    walk_at "Mine.steps"
    rename_i kF kN _ _
    rw [hI.length, List.take_length] at hg
    exact hret gg _ _ (fun k hk => (hg k hk).perm hperm) kF (marks_back (h := s.heap) N3 hoff G' (by assumption) kN fun p hp => .tail _ hp)
end
end

theorem fresh_Within : True := by
  w_top off
  trivial
section
open PySem PySem.W PyProof.Rows PySem.Calls PySem.Spec PyProof.Rows.LCg
local macro_rules | `(tactic| walk_at "Mine.stop") => `(tactic| (with_reducible show wpAny _ _ (subscriptTail _ _ (Value.ref _) (Value.int _ _)) _ _ _))
section
variable {w : World} {mean : ExcName → Option Value} {mg mb : PySem.Str → Option Value} {dp un : Nat} {gd : Option (List Code)} {cn : PySem.Str} {cs : Scope} {a : Addr} {ccd : Value} {cl : List (PySem.Str × Addr)} {outer : List Env} {A₀ : Around} {base h₀ : Heap} {L : Addr} {m : PySem.Str → Option Value} {s : Shared} {Q E : Value → Shared → Prop} {rest : List (Addr × Obj)}
theorem within_call {hm hd' rd : Nat} {kr : Tok} {rO : Obj} {kvs : List (Int × Value)} {ms : List Mk} {a' b' : Int} {ta tb : Tok}
  (B : Below A₀ base outer h₀) (F : Fr h₀ L s.heap m) (X : (hd.heap_1 w.params).In h₀) (T : Top viewOf (looseW viewOf []) mean mg mb h₀) (hk : cs.kind = .function)
  (N : News h₀ L s.heap (homeLed w hm hd' rd kr rO ++ (marksLed w ms ++ rest))) (W : Apart hm hd' rd ms) (hoff : ∀ p ∈ rest, (p.1 ≠ hm ∧ p.1 ≠ hd' ∧ p.1 ≠ rd) ∧ ∀ k ∈ ms, p.1 ≠ k.x ∧ p.1 ≠ k.d)
  (hR : rO.IsDictOf (intKind PySem.Challenge.rw_ok0046_01.row.prog w) kvs) (hb : Bears kvs ms) (h64 : kvs.length < 64) (lo : (rd == sysModules) = false)
  (hdp : dp + 10 < recursionLimit) (hu : un + 60 < cLine)
  (hret : ∀ (D : Addr) (ks : List Int) (fs : List Mk) n h' tk', ks.Perm (kvs.map (·.1)) → ks.Pairwise (· ≤ ·) → (∀ k ∈ fs, k ∈ ms) → fs.map Mk.num = ks.filter (fun q => decide (a' ≤ mposOf ms q ∧ mposOf ms q ≤ b')) → Fr h₀ L h' m → News h₀ L h' ((D, listOf (fs.map fun k : Mk => Value.ref k.x).toArray n) :: (homeLed w hm hd' rd kr rO ++ (marksLed w ms ++ rest))) → Q (.ref D) { s with heap := h', toks := tk' }) :
  wpAny (model PySem.Challenge.rw_ok0046_01.row.prog w) (ktrTop dp un gd cn cs L a ccd cl outer) (PySem.call (.ref 131) [.ref hm, .int a' ta, .int b' tb]) Q E s := by
  revert X
  k_fill
  intro X
  have N3 := N
  replace N : News h₀ L s.heap (homeLed w hm hd' rd kr rO ++ marksLed w ms) := fun p hp => N3 p (by rw [← List.append_assoc]; exact List.mem_append_left _ hp)
  simp only [List.cons_append, List.nil_append] at N
  refine wpAny_call ?_
  k_dflt walk_at "Mine.enter"
  intro g L' h' FG' F' N' B' X' T' G'
  (try dsimp only)
  (try k_fold)
  walk_at "Mine.steps"
  walk_at "Mine.for"
  walk_at "Mine.steps"
  rename_i FD _ _ _ kF9 N1
  refine' numbers_call (rest := (FD, listOf #[] 0) :: marksLed w ms) (kr := kr) (rO := rO) (hd' := hd') (rd := rd) (by assumption) (by assumption) (by assumption) (by assumption) (by rfl) (fun p hp => N1 p (by simp only [List.mem_cons, List.mem_append, List.not_mem_nil, or_false] at hp ⊢; rcases hp with (h | h | h) | h | h <;> simp [h])) ?off hR lo h64 (by ktr_room) (by ktr_units) ?_
  case off =>
    rename_i l1 _
    intro p hp
    rcases List.mem_cons.mp hp with h | h
    · rw [h]; exact ⟨Nat.ne_of_gt l1.1, Nat.ne_of_gt l1.2.1, Nat.ne_of_gt l1.2.2.1⟩
    · exact marks_off W p h
  rename_i l1 _
  have l1m : ∀ p ∈ marksLed w ms, p.1 < FD := kst_ltOf l1.2.2.2
  intro D vs ks n h6 tk6 hI hperm hpw F6 N6 hfr
  have hFD : @Ne Nat FD D := hfr (FD, listOf #[] 0) (.head _)
  walk_at "Mine.steps"
  refine' for_listS (σ := List Mk × Nat) (fun c => (FD, listOf (c.1.map fun k : Mk => Value.ref k.x).toArray c.2) :: (D, listOf vs.toArray n) :: (homeLed w hm hd' rd kr rO ++ marksLed w ms)) (fun _ => [(PySem.Str.ofString "found", .ref FD)]) [] (fun i c => (∀ k ∈ c.1, k ∈ ms) ∧ c.1.map Mk.num = (ks.take i).filter (fun q => decide (a' ≤ mposOf ms q ∧ mposOf ms q ≤ b'))) ([], 0) (by rfl) (N6 (D, listOf vs.toArray n) (.head _)).1 rfl rfl (N6 (D, listOf vs.toArray n) (.head _)).2.1 (.inr (fun _ => .tail _ (.head _))) (by assumption) (fun p hp => N6 p (by simp only [List.map_nil, List.mem_cons, List.mem_append, List.not_mem_nil, or_false] at hp ⊢; rcases hp with h | h | (h | h | h) | h <;> simp [h])) (by walk_at "Mine.binds") ⟨by simp, by simp⟩ ?turn ?done
  case turn =>
    rintro i v ⟨fs, nn⟩ u I oI h tk hv ⟨hfs, hpred⟩ hoffI Fx Nx
    dsimp only at hfs hpred hoffI Fx Nx ⊢
    obtain ⟨q, t, hq, rfl⟩ := int_at hI hv
    obtain ⟨k, hk, hkn, hval⟩ := valueAt_bears (isDict_nodup hR) (hperm.mem_iff.mp (List.mem_of_getElem? hq)) hb
    subst hkn
    have Nk := moved_open (w := w) (H := (FD, listOf (fs.map fun k : Mk => Value.ref k.x).toArray nn) :: (D, listOf vs.toArray n) :: homeLed w hm hd' rd kr rO) (ms := ms) (g := id) (m := k) hk (by show News _ _ _ (_ :: (_ ++ marksLed w (ms.map id))); rw [List.map_id]; exact Nx)
    have hoth : OwnOff (others w ms id k.num) [FD] := fun p hp b hb => by
      rw [List.mem_singleton.mp hb]
      exact Nat.ne_of_lt (l1m p (others_sub hp))
    have W1 := W.away k hk
    have W2 := W.self k hk
    have hp2 := mposOf_eq W hk
    have hx3 : @Ne Nat FD I := hoffI _ (.head _)
    have hD1 : @LT.lt Nat _ k.x FD := l1m (k.x, instObj 87 k.d) (List.mem_flatMap.mpr ⟨k, hk, by simp [Mk.objs]⟩)
    have hD2 : @LT.lt Nat _ k.d FD := l1m (k.d, k.dict w) (List.mem_flatMap.mpr ⟨k, hk, by simp [Mk.objs]⟩)
    have hlen : fs.length ≤ 64 := by
      have e1 := congrArg List.length hpred
      rw [List.length_map] at e1
      have e2 := List.length_filter_le (fun q => decide (a' ≤ mposOf ms q ∧ mposOf ms q ≤ b')) (ks.take i)
      have e3 := List.length_take_le' i ks
      have e4 := hperm.length_eq
      rw [List.length_map] at e4
      omega
    have hlen2 : (fs.map fun k : Mk => Value.ref k.x).length ≤ 64 := by rw [List.length_map]; exact hlen
    have hs : ks.take (i + 1) = ks.take i ++ [k.num] := by rw [List.take_add_one, hq]; rfl
    simp only [Mk.objs, Mk.dict, id, List.cons_append, List.nil_append] at Nk
    simp only [kstB] at Fx
    clear N6
    clear Nx
    walk_at "Mine.steps"
    refine item_dict (knd := intKind PySem.Challenge.rw_ok0046_01.row.prog w) (k := k.num) Nk (o := rO) (by k_mem) hR (intKind_is _ _ _ _) hval ?_
    walk_at "Mine.steps"
    · refine item_dict (knd := intKind PySem.Challenge.rw_ok0046_01.row.prog w) (k := k.num) (by assumption) (o := rO) (by k_mem) hR (intKind_is _ _ _ _) hval ?_
      walk_at "Mine.steps"
      rename_i F2 N2
      show TurnE _ _ _ _ _ _ _
      refine turnS (fs ++ [k], nn + 1) F2 N2 (by k_mem) ?_ ?_ (by walk_at "Mine.binds") (by walk_at "Mine.same") ⟨?_, ?_⟩
      · dsimp only
        have e : ((fs ++ [k]).map fun k : Mk => Value.ref k.x).toArray = ((fs.map fun k : Mk => Value.ref k.x).toArray.push (Value.ref k.x)) := by simp
        rw [e]
        exact within_mem W hk
      · intro p hp
        rcases List.mem_cons.mp hp with h | h
        · rw [h]; exact hx3
        · exact hoffI p (.tail _ h)
      · intro k' hk'
        rcases List.mem_append.mp hk' with h | h
        · exact hfs k' h
        · rw [List.mem_singleton.mp h]; exact hk
      · dsimp only
        have hd9 : decide (a' ≤ mposOf ms k.num ∧ mposOf ms k.num ≤ b') = true := by rw [hp2]; exact decide_eq_true ⟨by assumption, by assumption⟩
        rw [hs, List.map_append, hpred, List.filter_append, List.filter_cons, hd9]
        rfl
    · show TurnE _ _ _ _ _ _ _
      refine turnS (fs, nn) (by assumption) (by assumption) (by k_mem) (within_mem W hk) hoffI (by walk_at "Mine.binds") (by walk_at "Mine.same") ⟨hfs, ?_⟩
      dsimp only
      have hd9 : decide (a' ≤ mposOf ms k.num ∧ mposOf ms k.num ≤ b') = false := by rw [hp2]; exact decide_eq_false (fun h => absurd h.2 (by assumption))
      rw [hs, hpred, List.filter_append, List.filter_cons, hd9]
      simp
    · show TurnE _ _ _ _ _ _ _
      refine turnS (fs, nn) (by assumption) (by assumption) (by k_mem) (within_mem W hk) hoffI (by walk_at "Mine.binds") (by walk_at "Mine.same") ⟨hfs, ?_⟩
      dsimp only
      have hd9 : decide (a' ≤ mposOf ms k.num ∧ mposOf ms k.num ≤ b') = false := by rw [hp2]; exact decide_eq_false (fun h => absurd h.1 (by assumption))
      rw [hs, hpred, List.filter_append, List.filter_cons, hd9]
      simp
  case done =>
    rintro ⟨fs, nn⟩ u h tk ⟨hfs, hpred⟩ Fx Nx
    dsimp only at hfs hpred Fx Nx ⊢
    simp only [kstB] at Fx
    walk_at "Mine.steps"
    rename_i kF kN _ _
    rw [hI.length, List.take_length] at hpred
    have hb2 := marks_back (h := s.heap) (rO' := rO) (ms' := ms) N3 hoff G' (by assumption) kN fun p hp => .tail _ (.tail _ hp)
    refine hret FD ks fs nn _ _ hperm hpw hfs hpred kF fun p hp => ?_
    rcases List.mem_cons.mp hp with h | h
    · rw [h]; exact kN _ (.head _)
    · exact hb2 p h
end
end

theorem fresh_Ast : True := by
  w_top off
  trivial
section
open PySem PySem.W PyProof.Rows PySem.Calls PySem.Spec
noncomputable def bodyOf : Stmt → List Stmt
  | .FunctionDef _ _ b _ _ _ _ _ _ _ => b
  | .For _ _ b _ _ => b
  | _ => []
noncomputable def scopeOf : Stmt → Scope
  | .FunctionDef _ _ _ _ _ _ s _ _ _ => s
  | _ => default
noncomputable def nth : List Stmt → Nat → Stmt
  | [], _ => .Pass ⟨0, 0, 0, 0⟩
  | x :: _, 0 => x
  | _ :: r, n + 1 => nth r n
noncomputable def lawFn : Stmt := nth PySem.Challenge.pw_ok0046_01.main.body 13
noncomputable def lawEnv (fa : Addr) (cd : Value) (L : Addr) : Env := envOfC (PySem.Str.ofString "law") (scopeOf lawFn) L fa cd
noncomputable def lapBody : List Stmt := bodyOf (nth (bodyOf lawFn) 4)
noncomputable def lapRest : List Stmt := lapBody.drop 4
end

theorem fresh_LawInf : True := by
  w_top off
  trivial
section
open PySem PySem.W PyProof.Rows PySem.Calls PySem.Spec PyProof.Rows.LCg
section
variable {prog : Program} {w : World} {A : Around} {E : Value → Shared → Prop} {s : Shared} {env : Env} {h₀ : Heap} {x : PySem.Str} {body : List Stmt} {Q : Flow → Shared → Prop}
/-- a state of a loop of which nothing is kept but what is named -/
def KU {σ : Type} (Led : σ → List (Addr × Obj)) (ps : σ → List (PySem.Str × Value)) (P : σ → Prop) (m : PySem.Str → Option Value) (nx : List (Addr × Obj)) : Prop :=
  ∃ c : σ, nx = Led c ∧ (∀ p ∈ ps c, m p.1 = some p.2) ∧ P c
theorem turnU {σ : Type} {Led : σ → List (Addr × Obj)} {ps : σ → List (PySem.Str × Value)} {m' : PySem.Str → Option Value} {P : σ → Prop} {L I : Addr} {oI : Obj} {s₁ : Shared} {h' : Heap} {tk : Nat} {news' : List (Addr × Obj)} (c : σ)
    (F : Fr h₀ L h' m') (N : News h₀ L h' news') (h1 : (I, oI) ∈ news') (h2 : ∀ p ∈ Led c, p ∈ news') (h3 : ∀ p ∈ Led c, p.1 ≠ I) (hk : ∀ p ∈ ps c, m' p.1 = some p.2) (hp : P c) :
    TurnE h₀ L I oI (KU Led ps P) s₁ { s₁ with heap := h', toks := tk } := TurnE.intro F N h1 h2 h3 ⟨c, rfl, hk, hp⟩
theorem ku_fr {L : Addr} {h : Heap} {ps : List (PySem.Str × Value)} {m₁ : PySem.Str → Option Value} (h1 : ∀ p ∈ ps, m₁ p.1 = some p.2) (F : Fr h₀ L h m₁) : Fr h₀ L h (kstB m₁ ps) := by
  have em : kstB m₁ ps = m₁ := by
    funext y
    exact kstB_eq h1 fun _ => rfl
  rw [em]; exact F
theorem ku_frx {L : Addr} {h : Heap} {ps : List (PySem.Str × Value)} {m₁ : PySem.Str → Option Value} {v : Value} (h1 : ∀ p ∈ ps, m₁ p.1 = some p.2) (F : Fr h₀ L h (fun y => if y = x then some v else m₁ y)) : Fr h₀ L h (fun y => if y = x then some v else kstB m₁ ps y) := by
  have em : kstB m₁ ps = m₁ := by
    funext y
    exact kstB_eq h1 fun _ => rfl
  rw [em]; exact F

theorem for_listU {σ : Type} {l : Addr} {ol : Obj} {k : Nat} {vs : List Value} {m₀ : PySem.Str → Option Value} (Led : σ → List (Addr × Obj)) (ps : σ → List (PySem.Str × Value)) (P : Nat → σ → Prop) (c₀ : σ)
    (hh : A.handled = none) (hl : s.heap.get? l = some ol) (hc : ol.cls = .type "list") (hd : ol.data = .seq vs.toArray k) (hL : l ≠ env.locals)
    (hsrc : ∀ c, (l, ol) ∈ Led c)
    (F : Fr h₀ env.locals s.heap m₀) (N : News h₀ env.locals s.heap (Led c₀)) (hk : ∀ p ∈ ps c₀, m₀ p.1 = some p.2) (hp : P 0 c₀)
    (turn : ∀ i v (c : σ) (u : PySem.Str → Option Value) I oI h tk, vs[i]? = some v → P i c → (∀ p ∈ Led c, p.1 ≠ I) → Fr h₀ env.locals h (fun y => if y = x then some v else kstB u (ps c) y) → News h₀ env.locals h ((I, oI) :: Led c) →
      wpAny (model prog w) A (execs body env) (TurnP h₀ env.locals I oI (KU Led ps (P (i + 1))) { s with heap := h, toks := tk } Q) E { s with heap := h, toks := tk })
    (done : ∀ (c : σ) (u : PySem.Str → Option Value) h tk, P vs.length c → Fr h₀ env.locals h (kstB u (ps c)) → News h₀ env.locals h (Led c) → Q .next { s with heap := h, toks := tk }) :
    wpAny (model prog w) A (pyIter (.ref l)) (fun it s₂ => LoopAtV prog w A h₀ env x body Q E it s₂) E s := by
  refine for_list (fun i m nx => KU Led ps (P i) m nx) hh hl hc hd hL (.inr (by rintro i m nx ⟨c, rfl, _⟩; exact hsrc c)) F N ⟨c₀, rfl, hk, hp⟩ ?_ ?_
  · rintro i v m₁ nx I oI h tk hv ⟨c, rfl, h1, hp'⟩ ho F₁ N₁
    exact turn i v c m₁ I oI h tk hv hp' ho (ku_frx h1 F₁) N₁
  · rintro m₁ nx h tk ⟨c, rfl, h1, hp'⟩ F₁ N₁
    exact done c m₁ h tk hp' (ku_fr h1 F₁) N₁

theorem for_rangeU {σ : Type} {r : Addr} {b₀ : Int} {t₀ u₀ v₀ : Tok} {n : Nat} {m₀ : PySem.Str → Option Value} (Led : σ → List (Addr × Obj)) (ps : σ → List (PySem.Str × Value)) (P : Nat → σ → Prop) (c₀ : σ)
    (hh : A.handled = none) (hr : IsRange s.heap r 0 b₀ 1 t₀ u₀ v₀) (hsmall : Builtin.Range.small 0 b₀ 1 = true) (hn : Builtin.Range.rangeSize 0 b₀ 1 = (n : Int))
    (F : Fr h₀ env.locals s.heap m₀) (N : News h₀ env.locals s.heap (Led c₀)) (hk : ∀ p ∈ ps c₀, m₀ p.1 = some p.2) (hp : P 0 c₀)
    (turn : ∀ i t (c : σ) (u : PySem.Str → Option Value) I oI h tk, i < n → P i c → (∀ p ∈ Led c, p.1 ≠ I) → Fr h₀ env.locals h (fun y => if y = x then some (.int (i : Nat) t) else kstB u (ps c) y) → News h₀ env.locals h ((I, oI) :: Led c) →
      wpAny (model prog w) A (execs body env) (TurnP h₀ env.locals I oI (KU Led ps (P (i + 1))) { s with heap := h, toks := tk } Q) E { s with heap := h, toks := tk })
    (done : ∀ (c : σ) (u : PySem.Str → Option Value) h tk, P n c → Fr h₀ env.locals h (kstB u (ps c)) → News h₀ env.locals h (Led c) → Q .next { s with heap := h, toks := tk }) :
    wpAny (model prog w) A (pyIter (.ref r)) (fun it s₂ => LoopAtV prog w A h₀ env x body Q E it s₂) E s := by
  refine for_range (fun i m nx => KU Led ps (P i) m nx) hh hr hsmall hn F N ⟨c₀, rfl, hk, hp⟩ ?_ ?_
  · rintro i t m₁ nx I oI h tk hi ⟨c, rfl, h1, hp'⟩ ho F₁ N₁
    exact turn i t c m₁ I oI h tk hi hp' ho (ku_frx h1 F₁) N₁
  · rintro m₁ nx h tk ⟨c, rfl, h1, hp'⟩ F₁ N₁
    exact done c m₁ h tk hp' (ku_fr h1 F₁) N₁
end

section
variable {prog : Program} {w : World} {A : Around} {E : Value → Shared → Prop} {s : Shared} {env : Env} {h₀ : Heap} {L : Nat} {m : PySem.Str → Option Value}
/-- [e for x in xs]: ints out -/
theorem CSrc.mapI {α : Type} {x : PySem.Str} {px : Pos} {elt : PySem.Expr} {scope : Scope} {cl : List (PySem.Str × Addr)} {m' : Nat → PySem.Str → Option Value} {Qe : Nat → Shared → Prop} {s₁ : Shared}
    {l : Nat} {ol : Obj} {k : Nat} {vs : List Value} (as : List α) (is : α → Value → Prop) (f : α → Int) (led : List (Addr × Obj)) (hh : A.handled = none) (hl : s₁.heap.get? l = some ol) (hc : ol.cls = .type "list") (hd : ol.data = .seq vs.toArray k) (hsz : vs.length ≤ sizeLine) (hL : l ≠ L)
    (hsrc : h₀.get? l = some ol ∨ (l, ol) ∈ led) (F : Fr h₀ L s₁.heap m) (N : News h₀ L s₁.heap led) (hlen : vs.length = as.length) (hI : ∀ (i : Nat) (v : Value), vs[i]? = some v → ∃ a, as[i]? = some a ∧ is a v)
    (hkind : scope.kind = .function) (hx : ∀ C, (compEnvC scope cl C env).kindOf x = some .local)
    (test : ∀ a v ys (C D I : Nat) oL oI (mC : PySem.Str → Option Value) h tk (E' : Value → Shared → Prop), a ∈ as → is a v → (∀ p ∈ led, p.1 ≠ L ∧ p.1 ≠ D ∧ p.1 ≠ I) → L ≠ C → L ≠ D → L ≠ I → D ≠ C → I ≠ C → D ≠ I → Fr h₀ C h (fun y => if y = x then some v else mC y) → News h₀ C h ((L, oL) :: (D, lst ys) :: (I, oI) :: led) →
      wpAny (model prog w) A (eval elt (compEnvC scope cl C env)) (fun y s₅ => ∃ t h' tk' mC', y = .int (f a) t ∧ s₅ = { s₁ with heap := h', toks := tk' } ∧ Fr h₀ C h' mC' ∧ News h₀ C h' ((L, oL) :: (D, lst ys) :: (I, oI) :: led)) E' { s₁ with heap := h, toks := tk })
    (done : ∀ (D : Nat) h tk ys, IntsAre ys (as.map f) → Fr h₀ L h (m' D) → News h₀ L h ((D, lst ys) :: led) → (∀ p ∈ led, p.1 ≠ D) → Qe D { s₁ with heap := h, toks := tk }) :
    CSrc prog w A h₀ L m (.Name x px) elt [] scope cl env m' Qe (.ref l) s₁ := by
  refine CSrc.intro (fun i ys nx => nx = led ∧ IntsAre ys ((as.take i).map f)) hh hl hc hd hsz hL (fun I v s i Q E _ h => wpAny_pure h) (hsrc.imp id fun h i ys nx hj => hj.1 ▸ h) F N ⟨rfl, .nil⟩ ?_ ?_
  · intro i v hv ys C D I oL oI nx mC h tk E' ⟨hnx, hys⟩ hoff n1 n2 n3 n4 n5 n6 F1 N1
    subst hnx
    obtain ⟨a, ha, hav⟩ := hI i v hv
    have hkd : (compEnvC scope cl C env).scope.kind = .function := hkind
    refine assignC F1 N1 (hx C) (by rw [hkd]; rfl) ?_
    intro h1 F2 N2
    refine wpAny_tests_nil ?_
    simp only [if_true]
    refine wpAny_mono (test a v ys C D I oL oI mC h1 _ E' (List.mem_of_getElem? ha) hav hoff n1 n2 n3 n4 n5 n6 F2 N2) (fun y s₅ h₅ => ?_) fun _ _ e => e
    obtain ⟨t, h5, tk5, m5, rfl, rfl, F5, N5⟩ := h₅
    refine CEnd.intro F5 N5 (fun p hp => hp) hoff ⟨rfl, ?_⟩
    rw [List.take_add_one, ha]
    simp only [Option.toList_some, List.map_append, List.map_cons, List.map_nil]
    exact IntsAre.append hys (.cons _ t .nil)
  · intro D h tk ys nx F1 N1 hoff ⟨hnx, hys⟩
    subst hnx
    rw [hlen, List.take_length] at hys
    exact done D h tk ys hys F1 N1 hoff
/-- [e for x in xs]: ints out -/
theorem CSrc.mapB {α : Type} {x : PySem.Str} {px : Pos} {elt : PySem.Expr} {scope : Scope} {cl : List (PySem.Str × Addr)} {m' : Nat → PySem.Str → Option Value} {Qe : Nat → Shared → Prop} {s₁ : Shared}
    {l : Nat} {ol : Obj} {k : Nat} {vs : List Value} (as : List α) (is : α → Value → Prop) (f : α → Int) (led : List (Addr × Obj)) (hh : A.handled = none) (hl : s₁.heap.get? l = some ol) (hc : ol.cls = .type "list") (hd : ol.data = .seq vs.toArray k) (hsz : vs.length ≤ sizeLine) (hL : l ≠ L)
    (hsrc : h₀.get? l = some ol ∨ (l, ol) ∈ led) (F : Fr h₀ L s₁.heap m) (N : News h₀ L s₁.heap led) (hlen : vs.length = as.length) (hI : ∀ (i : Nat) (v : Value), vs[i]? = some v → ∃ a, as[i]? = some a ∧ is a v)
    (hkind : scope.kind = .function) (hx : ∀ C, (compEnvC scope cl C env).kindOf x = some .local)
    (test : ∀ a v ys (C D I : Nat) oL oI (mC : PySem.Str → Option Value) h tk (E' : Value → Shared → Prop), a ∈ as → is a v → (∀ p ∈ led, p.1 ≠ L ∧ p.1 ≠ D ∧ p.1 ≠ I) → L ≠ C → L ≠ D → L ≠ I → D ≠ C → I ≠ C → D ≠ I → Fr h₀ C h (fun y => if y = x then some v else mC y) → News h₀ C h ((L, oL) :: (D, lst ys) :: (I, oI) :: led) →
      wpAny (model prog w) A (eval elt (compEnvC scope cl C env)) (fun y s₅ => ∃ t h' tk' mC', y = .int (f a) t ∧ s₅ = { s₁ with heap := h', toks := tk' } ∧ Fr h₀ C h' mC' ∧ News h₀ C h' ((L, oL) :: (D, lst ys) :: (I, oI) :: led)) E' { s₁ with heap := h, toks := tk })
    (done : ∀ (D : Nat) h tk ys, s₁.heap.objs.size < D → IntsAre ys (as.map f) → Fr h₀ L h (m' D) → News h₀ L h ((D, lst ys) :: led) → (∀ p ∈ led, p.1 ≠ D) → Qe D { s₁ with heap := h, toks := tk }) :
    CSrc prog w A h₀ L m (.Name x px) elt [] scope cl env m' Qe (.ref l) s₁ := by
  refine CSrc.introB (fun i ys nx => nx = led ∧ IntsAre ys ((as.take i).map f)) hh hl hc hd hsz hL (fun I v s i Q E _ h => wpAny_pure h) (hsrc.imp id fun h i ys nx hj => hj.1 ▸ h) F N ⟨rfl, .nil⟩ ?_ ?_
  · intro i v hv ys C D I oL oI nx mC h tk E' ⟨hnx, hys⟩ hoff n1 n2 n3 n4 n5 n6 F1 N1
    subst hnx
    obtain ⟨a, ha, hav⟩ := hI i v hv
    have hkd : (compEnvC scope cl C env).scope.kind = .function := hkind
    refine assignC F1 N1 (hx C) (by rw [hkd]; rfl) ?_
    intro h1 F2 N2
    refine wpAny_tests_nil ?_
    simp only [if_true]
    refine wpAny_mono (test a v ys C D I oL oI mC h1 _ E' (List.mem_of_getElem? ha) hav hoff n1 n2 n3 n4 n5 n6 F2 N2) (fun y s₅ h₅ => ?_) fun _ _ e => e
    obtain ⟨t, h5, tk5, m5, rfl, rfl, F5, N5⟩ := h₅
    refine CEnd.intro F5 N5 (fun p hp => hp) hoff ⟨rfl, ?_⟩
    rw [List.take_add_one, ha]
    simp only [Option.toList_some, List.map_append, List.map_cons, List.map_nil]
    exact IntsAre.append hys (.cons _ t .nil)
  · intro D h tk ys nx hDs F1 N1 hoff ⟨hnx, hys⟩
    subst hnx
    rw [hlen, List.take_length] at hys
    exact done D h tk ys hDs hys F1 N1 hoff
theorem letgo_tuple {elts : List PySem.Expr} {kk : Nat} {tp : Pos} {l : Addr} (I : Addr) (v : Value) (s : Shared) (i : Nat) (Q : Unit → Shared → Prop) (E : Value → Shared → Prop) (hit : s.heap.IsListIter I l i) (h : Q () s) : wpAny (model prog w) A (letOwnedTupleGo (.Tuple elts kk tp) (.ref I) v) Q E s := by
  obtain ⟨o, ho, hc, hd⟩ := hit
  cases v with
  | ref a =>
    show wpAny _ A (load I >>= _) _ _ _
    refine wpAny_bind (wpAny_load ho ?_)
    rw [hc, hd]
    exact wpAny_pure h
  | _ => exact wpAny_pure h
end
theorem Tups.dat {ts : List (Addr × Obj)} {ys : List Value} {ps : List (Int × Int)} (h : Tups ts ys ps) : DatAll ts ys (ps.map fun p => Dat.tuple [Dat.int p.1, Dat.int p.2]) := by
  induction h with
  | nil => exact .nil
  | cons a x y t u h ih =>
    exact .cons (.tuple (vs := [.int x t, .int y u]) (n := 0) (.head _) (.cons (.int x t) (.cons (.int y u) .nil))) (ih.mono fun p hp => .tail _ hp)
theorem ints_dat {ys : List Value} {ns : List Int} (h : IntsAre ys ns) : DatAll [] ys (ns.map Dat.int) := by
  induction h with
  | nil => exact .nil
  | cons i t _ ih => exact .cons (.int i t) ih
theorem Tups.at {ts : List (Addr × Obj)} {ys : List Value} {ps : List (Int × Int)} (h : Tups ts ys ps) {i : Nat} {v : Value} (hv : ys[i]? = some v) : ∃ a x y t u, ps[i]? = some (x, y) ∧ v = .ref a ∧ (a, tupOf x y t u) ∈ ts := by
  induction h generalizing i with
  | nil => simp at hv
  | cons a x y t u _ ih =>
    cases i with
    | zero =>
      simp only [List.getElem?_cons_zero, Option.some.injEq] at hv
      exact ⟨a, x, y, t, u, rfl, hv.symm, .head _⟩
    | succ i =>
      obtain ⟨a', x', y', t', u', e1, e2, e3⟩ := ih (by simpa using hv)
      exact ⟨a', x', y', t', u', by simpa using e1, e2, .tail _ e3⟩
theorem Tups.len {ts : List (Addr × Obj)} {ys : List Value} {ps : List (Int × Int)} (h : Tups ts ys ps) : ys.length = ps.length := by
  induction h with
  | nil => rfl
  | cons _ _ _ _ _ _ ih => simp [ih]
theorem ne_data {h₀ h : Heap} {L a b : Addr} {news : List (Addr × Obj)} {o o' : Obj} (N : News h₀ L h news) (h1 : (a, o) ∈ news) (h2 : (b, o') ∈ news) (hne : o ≠ o') : @Ne Nat a b := by
  intro e
  have e1 := (N _ h1).1
  have e2 := (N _ h2).1
  dsimp only at e1 e2
  rw [show a = b from e, e2] at e1
  exact hne (Option.some.inj e1).symm
theorem News.dup {h₀ h : Heap} {L : Addr} {ex news : List (Addr × Obj)} (N : News h₀ L h news) (hs : ∀ p ∈ ex, p ∈ news) : News h₀ L h (ex ++ news) := fun p hp => (List.mem_append.mp hp).elim (fun h => N p (hs p h)) fun h => N p h
end

theorem fresh_LawOff : True := by
  w_top off
  trivial
section
open PySem PySem.W PyProof.Rows PySem.Calls PySem.Spec PyProof.Rows.LCg
/-- an object that is no part of the home or its markers -/
def Dull (o : Obj) : Prop := o.data ≠ .plain ∧ ∀ es n, o.data ≠ .dict es n
theorem dull_list (xs : Array Value) (n : Nat) : Dull (listOf xs n) := ⟨by simp [W.listOf], by intro es k; simp [W.listOf]⟩
theorem dull_tup (x y : Int) (t u : Tok) : Dull (tupOf x y t u) := ⟨by simp, by intro es k; simp⟩
theorem dull_cell {o : Obj} {v : Option Value} (h : o.data = .cell v) : Dull o := ⟨by rw [h]; simp, by intro es k; rw [h]; simp⟩
theorem Tups.dull {ts : List (Addr × Obj)} {ys : List Value} {ps : List (Int × Int)} (h : Tups ts ys ps) : ∀ p ∈ ts, Dull p.2 := by
  induction h with
  | nil => intro p hp; cases hp
  | cons a x y t u _ ih =>
    intro p hp
    rcases List.mem_cons.mp hp with h | h
    · rw [h]; exact dull_tup ..
    · exact ih p h
section
variable {w : World} {h₀ h : Heap} {L : Addr} {news : List (Addr × Obj)} {hm hd' rd : Nat} {kr : Tok} {rO : Obj} {ms : List Mk} {kvs : List (Int × Value)}
theorem ne_dull {b : Addr} {a : Nat} {o o' : Obj} (N : News h₀ L h news) (h1 : (b, o) ∈ news) (hd : Dull o) (h2 : (a, o') ∈ news) (hp : o'.data = .plain ∨ ∃ es n, o'.data = .dict es n) : b ≠ a := by
  refine ne_data N h1 h2 ?_
  rintro rfl
  rcases hp with e | ⟨es, n, e⟩
  · exact hd.1 e
  · exact hd.2 es n e
theorem off_led (N : News h₀ L h news) (h1 : ∀ p ∈ homeLed w hm hd' rd kr rO, p ∈ news) (h2 : ∀ p ∈ marksLed w ms, p ∈ news) (hR : rO.IsDictOf (intKind PySem.Challenge.rw_ok0046_01.row.prog w) kvs) {p : Addr × Obj} (hp : p ∈ news) (hd : Dull p.2) :
    (p.1 ≠ hm ∧ p.1 ≠ hd' ∧ p.1 ≠ rd) ∧ ∀ k ∈ ms, p.1 ≠ k.x ∧ p.1 ≠ k.d := by
  obtain ⟨b, o⟩ := p
  obtain ⟨es, ep, _, hdd, _⟩ := hR
  refine ⟨⟨ne_dull N hp hd (h1 (hm, instObj 155 hd') (.head _)) (.inl rfl), ne_dull N hp hd (h1 _ (.tail _ (.head _))) (.inr ⟨_, _, rfl⟩), ne_dull N hp hd (h1 (rd, rO) (.tail _ (.tail _ (.head _)))) (.inr ⟨_, _, hdd⟩)⟩, ?_⟩
  intro k hk
  have h3 : ∀ q ∈ k.objs w, q ∈ news := fun q hq => h2 q (List.mem_flatMap.mpr ⟨k, hk, hq⟩)
  exact ⟨ne_dull N hp hd (h3 (k.x, instObj 87 k.d) (.head _)) (.inl rfl), ne_dull N hp hd (h3 (k.d, k.dict w) (.tail _ (.head _))) (.inr ⟨_, _, rfl⟩)⟩
end
section
variable {prog : Program} {w : World} {A : Around} {E : Value → Shared → Prop} {s : Shared} {env : Env} {h₀ : Heap} {C : Addr} {scope : Scope} {cl : List (PySem.Str × Addr)} {m : PySem.Str → Option Value} {news : List (Addr × Obj)}
theorem assignT {Q : Unit → Shared → Prop} {a b : PySem.Str} {pa pb tp : Pos} {kk : Nat} {T : Addr} {x y : Int} {t u : Tok} (hh : A.handled = none) (F : Fr h₀ C s.heap m) (N : News h₀ C s.heap news) (hT : (T, tupOf x y t u) ∈ news)
    (ha : (compEnvC scope cl C env).kindOf a = some .local) (hb : (compEnvC scope cl C env).kindOf b = some .local) (hf : (compEnvC scope cl C env).scope.kind = .function)
    (h : ∀ h' tk, Fr h₀ C h' (fun z => if z = b then some (.int y u) else if z = a then some (.int x t) else m z) → News h₀ C h' news → Q () { s with heap := h', toks := tk }) :
    wpAny (model prog w) A (assign (.Tuple [.Name a pa, .Name b pb] kk tp) (compEnvC scope cl C env) (.ref T)) Q E s := by
  refine kcp_assign hh ⟨_, (N _ hT).1, rfl, 0, rfl⟩ ha hb (by rw [hf]; rfl) F.ns fun h' tk hn hk => h h' tk ⟨hn, fun c o e => ?_, F.above⟩ fun p hp => ⟨hk _ _ (N p hp).2.1 (N p hp).1, (N p hp).2⟩
  refine hk c o (fun e' => ?_) (F.keep c o e)
  have := Heap.lt_size e
  have h9 := F.above
  subst e'
  exact absurd (Nat.lt_of_lt_of_le this h9) (Nat.lt_irrefl _)
end
end

theorem fresh_Check : True := by
  w_top off
  trivial
section
open PySem PySem.W PyProof.Rows PySem.Calls PySem.Spec PyProof.Rows.LCg
local macro_rules | `(tactic| walk_at "Mine.stop") => `(tactic| (with_reducible show Exists _))
local macro_rules | `(tactic| walk_at "Mine.stop") => `(tactic| (with_reducible show wpAny _ _ (compareOp .NotEq (Value.ref _) (Value.ref _)) _ _ _))
local macro_rules | `(tactic| walk_at "Mine.stop") => `(tactic| (with_reducible show wpAny _ _ (subscriptTail _ _ (Value.ref _) (Value.int _ _)) _ _ _))
theorem okT (l : List (Int × Int)) : ∀ d ∈ l.map fun p => Dat.tuple [Dat.int p.1, Dat.int p.2], kqdOk 8 d = true := by
  intro d hd
  obtain ⟨p, _, rfl⟩ := List.mem_map.mp hd
  simp [kqdOk]
theorem okI (l : List Int) : ∀ d ∈ l.map Dat.int, kqdOk 8 d = true := by
  intro d hd
  obtain ⟨p, _, rfl⟩ := List.mem_map.mp hd
  simp [kqdOk]
section
variable {w : World} {mean : ExcName → Option Value} {mg mb : PySem.Str → Option Value} {dp un : Nat} {gd : Option (List Code)} {cn : PySem.Str} {cs : Scope} {a : Addr} {ccd : Value} {cl : List (PySem.Str × Addr)} {outer : List Env} {A₀ : Around} {base h₀ : Heap} {L : Addr} {m : PySem.Str → Option Value} {s : Shared} {Q E : Value → Shared → Prop} {rest : List (Addr × Obj)}
theorem check {hm hd' rd : Nat} {kr : Tok} {rO : Obj} {kvs : List (Int × Value)} {ms : List Mk} {st en : Int} {ts te : Tok} {cH cS cE : Obj} {IT : Addr} {ys : List Value} {its : List Int} {ki : Nat} {u : PySem.Str → Option Value} {ps : List (PySem.Str × Value)} {Qf : Flow → Shared → Prop}
  (B : Below callerA base [] h₀) (F : Fr h₀ L s.heap (fun y => if y = PySem.Str.ofString "items" then some (.ref IT) else u y)) (X : (hd.heap_1 w.params).In h₀) (T : Top viewOf (looseW viewOf []) mean mg mb h₀)
  (N : News h₀ L s.heap (homeLed w hm hd' rd kr rO ++ (marksLed w ms ++ rest))) (W : Apart hm hd' rd ms) (hoff : ∀ p ∈ rest, (p.1 ≠ hm ∧ p.1 ≠ hd' ∧ p.1 ≠ rd) ∧ ∀ k ∈ ms, p.1 ≠ k.x ∧ p.1 ≠ k.d)
  (hR : rO.IsDictOf (intKind PySem.Challenge.rw_ok0046_01.row.prog w) kvs) (hb : Bears kvs ms) (h64 : kvs.length < 64) (lo : (rd == sysModules) = false)
  (m1 : (L + 1, cH) ∈ rest) (d1 : cH.data = .cell (some (.ref hm))) (m2 : (L + 1 + 1 + 1, cS) ∈ rest) (d2 : cS.data = .cell (some (.int st ts))) (m3 : (L + 1 + 1 + 1 + 1, cE) ∈ rest) (d3 : cE.data = .cell (some (.int en te)))
  (m4 : (IT, listOf ys.toArray ki) ∈ rest) (hI : IntsAre ys its) (hlen : its.length ≤ 1000) (hnd : ((marksOf 1 its).map (·.1)).Nodup) (hlt : (marksOf 1 its).length < 64)
  (same : ((marksOf 1 its).map (·.1)).Perm (kvs.map (·.1))) (pos : ∀ q ∈ kvs.map (·.1), posOf (marksOf 1 its) q = mposOf ms q)
  (hret : ∀ D h' tk', Fr h₀ L h' (fun y => if y = PySem.Str.ofString "due" then some (.ref D) else if y = PySem.Str.ofString "items" then some (.ref IT) else u y) → News h₀ L h' (homeLed w hm hd' rd kr rO ++ (marksLed w ms ++ rest)) → Qf .next { s with heap := h', toks := tk' }) :
  wpAny (model PySem.Challenge.rw_ok0046_01.row.prog w) (callerA.deeper (lawEnv a ccd L)) (execs lapRest (lawEnv a ccd L)) Qf E s := by
  have N3 := N
  replace N := News.dup (ex := (L + 1, cH) :: (L + 1 + 1 + 1, cS) :: (L + 1 + 1 + 1 + 1, cE) :: (IT, listOf ys.toArray ki) :: homeLed w hm hd' rd kr rO) N3 (by
    intro p hp
    simp only [List.mem_cons, List.mem_append, List.not_mem_nil, or_false] at hp ⊢
    rcases hp with h | h | h | h | h | h | h
    all_goals first | (rw [h]; exact .inr (.inr m1)) | (rw [h]; exact .inr (.inr m2)) | (rw [h]; exact .inr (.inr m3)) | (rw [h]; exact .inr (.inr m4)) | simp [h])
  have hl : s.heap.IsList IT ys.toArray := ⟨_, (N (IT, listOf ys.toArray ki) (by simp)).1, rfl, _, rfl⟩
  revert X
  k_fill
  intro X
  dsimp only [lapRest, lapBody, lawEnv, lawFn, nth, bodyOf, scopeOf, PySem.Challenge.pw_ok0046_01, List.drop]
  walk_at "Mine.steps"
  refine' places_call (by assumption) (by assumption) (by assumption) (by assumption) (by rfl) N hl hI hlen hnd hlt (by ktr_room) (by ktr_units) ?_
  intro DU us ku ts ks h6 tk6 hperm hpw hts F6 N6
  have N8 : News h₀ L h6 (homeLed w hm hd' rd kr rO ++ (marksLed w ms ++ ((DU, listOf us.toArray ku) :: ts ++ rest))) := fun p hp => N6 p (by
    simp only [List.mem_cons, List.mem_append, List.not_mem_nil, or_false] at hp ⊢
    rcases hp with (h | h | h) | h | (h | h) | h <;> simp [h])
  have hoff8 : ∀ p ∈ (DU, listOf us.toArray ku) :: ts ++ rest, (p.1 ≠ hm ∧ p.1 ≠ hd' ∧ p.1 ≠ rd) ∧ ∀ k ∈ ms, p.1 ≠ k.x ∧ p.1 ≠ k.d := by
    intro p hp
    rcases List.mem_append.mp hp with h | h
    · refine off_led N8 (fun q hq => List.mem_append_left _ hq) (fun q hq => List.mem_append_right _ (List.mem_append_left _ hq)) hR (List.mem_append_right _ (List.mem_append_right _ hp)) ?_
      rcases List.mem_cons.mp h with h | h
      · rw [h]; exact dull_list ..
      · exact hts.dull p h
    · exact hoff p h
  have N7 := News.dup (ex := (DU, listOf us.toArray ku) :: (L + 1, cH) :: (L + 1 + 1 + 1, cS) :: (L + 1 + 1 + 1 + 1, cE) :: homeLed w hm hd' rd kr rO) N8 (by
    intro p hp
    simp only [List.mem_cons, List.mem_append, List.not_mem_nil, or_false] at hp ⊢
    rcases hp with h | h | h | h | h | h | h
    all_goals first | (rw [h]; exact .inr (.inr (.inr m1))) | (rw [h]; exact .inr (.inr (.inr m2))) | (rw [h]; exact .inr (.inr (.inr m3))) | simp [h])
  clear N6 N8
  walk_at "Mine.steps"
  walk_at "Mine.comp"
  walk_at "Mine.steps"
  rename News _ _ _ _ => kN
  refine' numbers_call (rest := marksLed w ms ++ ((DU, listOf us.toArray ku) :: ts ++ rest)) (kr := kr) (rO := rO) (hd' := hd') (rd := rd) (by assumption) (by assumption) (by assumption) (by assumption) (by rfl) (fun p hp => kN p (List.mem_append_right _ hp)) ?off hR lo h64 (by ktr_room) (by ktr_units) ?_
  case off =>
    intro p hp
    rcases List.mem_append.mp hp with h | h
    · exact marks_off W p h
    · exact (hoff8 p h).1
  intro DN nv nks nn h7 tk7 hIn hpn hpwn F9 N9 _
  generalize hled : (DN, listOf nv.toArray nn) :: (homeLed w hm hd' rd kr rO ++ (marksLed w ms ++ ((DU, listOf us.toArray ku) :: ts ++ rest))) = led at N9
  have sN : (DN, listOf nv.toArray nn) ∈ led := hled ▸ .head _
  have sH : ∀ p ∈ homeLed w hm hd' rd kr rO, p ∈ led := fun p hp => hled ▸ .tail _ (List.mem_append_left _ hp)
  have sM : ∀ p ∈ marksLed w ms, p ∈ led := fun p hp => hled ▸ .tail _ (List.mem_append_right _ (List.mem_append_left _ hp))
  have sR : ∀ p ∈ rest, p ∈ led := fun p hp => hled ▸ .tail _ (List.mem_append_right _ (List.mem_append_right _ (List.mem_append_right _ hp)))
  have hnn : nks = ks := lks_uniq (hpn.trans (same.symm.trans hperm.symm)) hpwn hpw
  subst hnn
  refine CSrc.intro (fun i zs nx => ∃ tz, nx = led ++ tz ∧ Tups tz zs ((nks.take i).map fun q => (q, mposOf ms q))) (by rfl) (N9 _ sN).1 rfl rfl (by rw [sizeLine_eq, hIn.length, hpn.length_eq, List.length_map]; omega) (N9 _ sN).2.1 (fun I v s i Q E _ h => wpAny_pure h) (.inr (by rintro i zs nx ⟨tz, rfl, _⟩; exact List.mem_append_left _ sN)) F9 N9 ⟨[], by rw [List.append_nil], .nil⟩ ?_ ?_
  · intro i v hv zs C D I oL oI nx mC h10 tk10 E' ⟨tz, hnx, htz⟩ hoffx n1 n2 n3 n4 n5 n6 F10 N10
    subst hnx
    obtain ⟨q, t, hq, rfl⟩ := int_at hIn hv
    obtain ⟨k, hk, hkn, hval⟩ := valueAt_bears (isDict_nodup hR) (hpn.mem_iff.mp (List.mem_of_getElem? hq)) hb
    subst hkn
    refine assignC F10 N10 (by rfl) (by rfl) ?_
    intro h11 F11 N11
    refine wpAny_tests_nil ?_
    simp only [if_true]
    have N12 := News.dup (ex := k.objs w ++ ((L + 1, cH) :: homeLed w hm hd' rd kr rO)) N11 (by
      intro p hp
      refine .tail _ (.tail _ (.tail _ (List.mem_append_left _ ?_)))
      rcases List.mem_append.mp hp with h | h
      · exact sM p (List.mem_flatMap.mpr ⟨k, hk, h⟩)
      · rcases List.mem_cons.mp h with h | h
        · rw [h]; exact sR _ m1
        · exact sH p h)
    have hp2 := mposOf_eq W hk
    simp only [Mk.objs, Mk.dict, List.cons_append, List.nil_append] at N12
    clear N11 N10 N9
    walk_at "Mine.steps"
    refine item_dict (knd := intKind PySem.Challenge.rw_ok0046_01.row.prog w) (k := k.num) N12 (o := rO) (by k_mem) hR (intKind_is _ _ _ _) hval ?_
    walk_at "Mine.steps"
    rename_i TA _ kF kN lT
    refine CEnd.intro (nx := led ++ (tz ++ [(TA, tupOf k.num (mposOf ms k.num) t k.tp)])) kF kN ?_ ?_ ⟨_, rfl, ?_⟩
    · intro p hp
      simp only [List.mem_cons, List.mem_append, List.not_mem_nil, or_false, hp2] at hp ⊢
      rcases hp with h | h | h | h | h | h <;> simp [h]
    · intro p hp
      have h4 : p ∈ led ++ tz ∨ p = (TA, tupOf k.num (mposOf ms k.num) t k.tp) := by
        simp only [List.mem_cons, List.mem_append, List.not_mem_nil, or_false] at hp ⊢
        rcases hp with h | h | h <;> simp [h]
      rcases h4 with h | h
      · exact hoffx p h
      · rw [h]
        exact ⟨Nat.ne_of_gt lT.2.2.2.2.2.2.1, Nat.ne_of_gt lT.2.2.2.2.2.2.2.1, Nat.ne_of_gt lT.2.2.2.2.2.2.2.2.1⟩
    · rw [List.take_add_one, hq]
      simp only [Option.toList_some, List.map_append, List.map_cons, List.map_nil]
      rw [hp2]
      exact htz.snoc _ _ _ _ _
  · intro D h13 tk13 zs nx F13 N13 hoff13 ⟨tz, hnx, htz⟩
    subst hnx
    rw [hIn.length, List.take_length] at htz
    have htz2 : Tups tz zs (nks.map fun q => (q, posOf (marksOf 1 its) q)) := by
      have e : (nks.map fun q => (q, posOf (marksOf 1 its) q)) = nks.map fun q => (q, mposOf ms q) := List.map_congr_left fun q hq => by rw [pos q (hpn.mem_iff.mp hq)]
      rw [e]; exact htz
    have sU : (DU, listOf us.toArray ku) ∈ led := hled ▸ .tail _ (List.mem_append_right _ (List.mem_append_right _ (.head _)))
    have sT : ∀ p ∈ ts, p ∈ led := fun p hp => hled ▸ .tail _ (List.mem_append_right _ (List.mem_append_right _ (List.mem_append_left _ (.tail _ hp))))
    walk_at "Mine.steps"
    rename News _ _ _ _ => kN
    refine kqd_ne kN (oa := lst zs) (xs := zs) (n₁ := tz) (n₂ := ts) (ds := (nks.map fun q => (q, posOf (marksOf 1 its) q)).map fun p => Dat.tuple [Dat.int p.1, Dat.int p.2]) (ob := listOf us.toArray ku) (es := (nks.map fun q => (q, posOf (marksOf 1 its) q)).map fun p => Dat.tuple [Dat.int p.1, Dat.int p.2]) (by simp) rfl rfl htz2.dat (by intro p hp; simp [hp]) (by simp [sU]) rfl rfl hts.dat (by intro p hp; simp [sT p hp]) ?_ ?_ (by ktr_units) ?_
    · exact okT _
    · exact okT _
    · simp only [decide_true, Bool.not_true]
      have N14 : News h₀ L h13 (homeLed w hm hd' rd kr rO ++ (marksLed w ms ++ ((DU, listOf us.toArray ku) :: ts ++ rest))) := fun p hp => kN p (.tail _ (List.mem_append_left _ (hled ▸ .tail _ hp)))
      have N15 := News.dup (ex := (DU, listOf us.toArray ku) :: (L + 1, cH) :: (L + 1 + 1 + 1, cS) :: (L + 1 + 1 + 1 + 1, cE) :: homeLed w hm hd' rd kr rO) N14 (by
        intro p hp
        simp only [List.mem_cons, List.mem_append, List.not_mem_nil, or_false] at hp ⊢
        rcases hp with h | h | h | h | h | h | h
        all_goals first | (rw [h]; exact .inr (.inr (.inr m1))) | (rw [h]; exact .inr (.inr (.inr m2))) | (rw [h]; exact .inr (.inr (.inr m3))) | simp [h])
      clear N14 kN
      walk_at "Mine.steps"
      walk_at "Mine.comp"
      walk_at "Mine.steps"
      refine' within_call (rest := (DU, listOf us.toArray ku) :: ts ++ rest) (kr := kr) (rO := rO) (hd' := hd') (rd := rd) (ms := ms) (kvs := kvs) (by assumption) (by assumption) (by assumption) (by assumption) (by rfl) (fun p hp => N15 p (List.mem_append_right _ hp)) W hoff8 hR hb h64 lo (by ktr_room) (by ktr_units) ?_
      intro DW ks2 fs nw h16 tk16 hp16 hw16 hfs hfn F16 N16
      obtain rfl : ks2 = nks := lks_uniq (hp16.trans hpn.symm) hw16 hpwn
      have hfl : fs.length ≤ 64 := by
        have e1 := congrArg List.length hfn
        rw [List.length_map] at e1
        have e2 := List.length_filter_le (fun q => decide (st ≤ mposOf ms q ∧ mposOf ms q ≤ en)) ks2
        have e4 := hp16.length_eq
        rw [List.length_map] at e4
        omega
      generalize hled2 : (DW, listOf (fs.map fun k : Mk => Value.ref k.x).toArray nw) :: (homeLed w hm hd' rd kr rO ++ (marksLed w ms ++ ((DU, listOf us.toArray ku) :: ts ++ rest))) = led2 at N16
      have sW : (DW, listOf (fs.map fun k : Mk => Value.ref k.x).toArray nw) ∈ led2 := hled2 ▸ .head _
      have sM2 : ∀ p ∈ marksLed w ms, p ∈ led2 := fun p hp => hled2 ▸ .tail _ (List.mem_append_right _ (List.mem_append_left _ hp))
      have sR2 : ∀ p ∈ rest, p ∈ led2 := fun p hp => hled2 ▸ .tail _ (List.mem_append_right _ (List.mem_append_right _ (List.mem_append_right _ hp)))
      have sU2 : (DU, listOf us.toArray ku) ∈ led2 := hled2 ▸ .tail _ (List.mem_append_right _ (List.mem_append_right _ (.head _)))
      have sT2 : ∀ p ∈ ts, p ∈ led2 := fun p hp => hled2 ▸ .tail _ (List.mem_append_right _ (List.mem_append_right _ (List.mem_append_left _ (.tail _ hp))))
      refine CSrc.mapI fs (fun k v => v = .ref k.x) Mk.num led2 (by rfl) (N16 _ sW).1 rfl rfl (by rw [sizeLine_eq, List.length_map]; omega) (N16 _ sW).2.1 (.inr sW) F16 N16 (by simp) ?_ (by rfl) (fun _ => by rfl) ?_ ?_
      · intro i v hv
        rw [List.getElem?_map] at hv
        cases hf : fs[i]? with
        | none => rw [hf] at hv; cases hv
        | some k => rw [hf] at hv; exact ⟨k, rfl, (Option.some.inj hv).symm⟩
      · intro k v zs C D I oL oI mC h17 tk17 E' hk hkv hoffx n1 n2 n3 n4 n5 n6 F17 N17
        subst hkv
        have N18 := News.dup (ex := k.objs w) N17 (fun p hp => .tail _ (.tail _ (.tail _ (sM2 p (List.mem_flatMap.mpr ⟨k, hfs k hk, hp⟩)))))
        simp only [Mk.objs, Mk.dict, List.cons_append, List.nil_append] at N18
        clear N17
        walk_at "Mine.steps"
        rename Fr _ _ _ _ => kF
        rename News _ _ _ _ => kN
        exact ⟨_, _, _, _, rfl, rfl, kF, fun p hp => kN p (.tail _ (.tail _ hp))⟩
      · intro D h19 tk19 zs hzs F19 N19 hoff19
        rw [hfn] at hzs
        have N20 := News.dup (ex := [(DU, listOf us.toArray ku)]) N19 (by intro p hp; rw [List.mem_singleton.mp hp]; exact .tail _ sU2)
        simp only [List.cons_append, List.nil_append] at N20
        clear N19
        walk_at "Mine.steps"
        walk_at "Mine.comp"
        walk_at "Mine.steps"
        rename Fr _ _ _ _ => kF
        rename News _ _ _ _ => kN
        generalize hled3 : (DU, listOf us.toArray ku) :: (D, lst zs) :: led2 = led3 at kN
        have sU3 : (DU, listOf us.toArray ku) ∈ led3 := hled3 ▸ .head _
        have sT3 : ∀ p ∈ ts, p ∈ led3 := fun p hp => hled3 ▸ .tail _ (.tail _ (sT2 p hp))
        have sR3 : ∀ p ∈ rest, p ∈ led3 := fun p hp => hled3 ▸ .tail _ (.tail _ (sR2 p hp))
        refine CSrc.intro (fun i zs nx => nx = led3 ∧ IntsAre zs ((ks2.take i).filter fun q => decide (st ≤ mposOf ms q ∧ mposOf ms q ≤ en))) (by rfl) (kN _ sU3).1 rfl rfl ?_ (kN _ sU3).2.1 (fun I v s i Q E hit h => letgo_tuple I v s i Q E hit h) (.inr (by rintro i zs nx ⟨rfl, _⟩; exact sU3)) kF kN ⟨rfl, .nil⟩ ?_ ?_
        · have e1 := hts.len
          have e2 := hp16.length_eq
          rw [List.length_map] at e1 e2
          rw [sizeLine_eq]
          omega
        · intro i v hv zz C D2 I oL oI nx mC h21 tk21 E' ⟨hnx, hzz⟩ hoffx n1 n2 n3 n4 n5 n6 F21 N21
          subst hnx
          obtain ⟨ta, q, pq, t1, t2, hq, rfl, hta⟩ := hts.at hv
          rw [List.getElem?_map] at hq
          obtain ⟨q', hq', e9⟩ := Option.map_eq_some_iff.mp hq
          obtain ⟨rfl, rfl⟩ : q' = q ∧ posOf (marksOf 1 its) q' = pq := by simpa using e9
          have hpq := pos q' (hp16.mem_iff.mp (List.mem_of_getElem? hq'))
          rw [hpq] at hta
          refine assignT (by rfl) F21 N21 (.tail _ (.tail _ (.tail _ (sT3 _ hta)))) (by rfl) (by rfl) (by rfl) ?_
          intro h22 tk22 F22 N22
          have N23 := News.dup (ex := [(L + 1 + 1 + 1, cS), (L + 1 + 1 + 1 + 1, cE)]) N22 (by
            intro p hp
            simp only [List.mem_cons, List.not_mem_nil, or_false] at hp
            rcases hp with h | h
            · rw [h]; exact .tail _ (.tail _ (.tail _ (sR3 _ m2)))
            · rw [h]; exact .tail _ (.tail _ (.tail _ (sR3 _ m3))))
          simp only [List.cons_append, List.nil_append] at N23
          clear N22 N21
          have hs : ks2.take (i + 1) = ks2.take i ++ [q'] := by rw [List.take_add_one, hq']; rfl
          refine wpAny_tests_one ?_
          walk_at "Mine.steps"
          · rename Fr _ _ _ _ => kF
            rename News _ _ _ _ => kN
            refine CEnd.intro kF kN (fun p hp => .tail _ (.tail _ hp)) hoffx ⟨rfl, ?_⟩
            have hd9 : decide (st ≤ mposOf ms q' ∧ mposOf ms q' ≤ en) = true := decide_eq_true ⟨by assumption, by assumption⟩
            rw [hs, List.filter_append, List.filter_cons, hd9]
            exact IntsAre.append hzz (.cons q' t1 .nil)
          · rename Fr _ _ _ _ => kF
            rename News _ _ _ _ => kN
            refine CEnd.intro kF kN (fun p hp => .tail _ (.tail _ hp)) hoffx ⟨rfl, ?_⟩
            have hd9 : decide (st ≤ mposOf ms q' ∧ mposOf ms q' ≤ en) = false := decide_eq_false (fun h => absurd h.2 (by assumption))
            rw [hs, List.filter_append, List.filter_cons, hd9]
            simpa using hzz
          · rename Fr _ _ _ _ => kF
            rename News _ _ _ _ => kN
            refine CEnd.intro kF kN (fun p hp => .tail _ (.tail _ hp)) hoffx ⟨rfl, ?_⟩
            have hd9 : decide (st ≤ mposOf ms q' ∧ mposOf ms q' ≤ en) = false := decide_eq_false (fun h => absurd h.1 (by assumption))
            rw [hs, List.filter_append, List.filter_cons, hd9]
            simpa using hzz
        · intro D2 h24 tk24 zz nx F24 N24 hoff24 ⟨hnx, hzz⟩
          subst hnx
          have e1 := hts.len
          rw [List.length_map] at e1
          rw [e1, List.take_length] at hzz
          have sD3 : (D, lst zs) ∈ nx := hled3 ▸ .tail _ (.head _)
          clear kN kF
          walk_at "Mine.steps"
          refine kqd_ne N24 (oa := lst zs) (xs := zs) (n₁ := []) (n₂ := []) (ds := (ks2.filter fun q => decide (st ≤ mposOf ms q ∧ mposOf ms q ≤ en)).map Dat.int) (ob := lst zz) (ys := zz) (es := (ks2.filter fun q => decide (st ≤ mposOf ms q ∧ mposOf ms q ≤ en)).map Dat.int) (.tail _ sD3) rfl rfl (ints_dat hzs) (by simp) (.head _) rfl rfl (ints_dat hzz) (by simp) (okI _) (okI _) (by ktr_units) ?_
          simp only [decide_true, Bool.not_true]
          walk_at "Mine.steps"
          refine hret DU _ _ F24 fun p hp => N24 p (.tail _ ?_)
          rw [← hled3, ← hled2]
          refine .tail _ (.tail _ (.tail _ ?_))
          rcases List.mem_append.mp hp with h | h
          · exact List.mem_append_left _ h
          · refine List.mem_append_right _ ?_
            rcases List.mem_append.mp h with h | h
            · exact List.mem_append_left _ h
            · exact List.mem_append_right _ (List.mem_append_right _ h)
end
end

theorem fresh_Plain : True := by
  w_top off
  trivial
section
open PySem PySem.W PyProof.Rows PySem.Calls PySem.Spec
set_option linter.unusedSimpArgs false
theorem marksOf_keys : ∀ (ns : List Int) (p : Int), (marksOf p ns).map (·.1) = ns.filter (fun x => decide (0 ≤ x))
  | [], _ => rfl
  | x :: r, p => by
    unfold marksOf
    by_cases h : x < 0
    · rw [if_pos h, marksOf_keys r, List.filter_cons_of_neg]
      simp; omega
    · rw [if_neg h, List.map_cons, marksOf_keys r, List.filter_cons_of_pos]
      simp; omega
theorem marksOf_len : ∀ (ns : List Int) (p : Int), nch ns + (marksOf p ns).length = ns.length
  | [], _ => rfl
  | x :: r, p => by
    unfold marksOf nch
    by_cases h : x < 0
    · have := marksOf_len r (p + 1)
      rw [if_pos h, if_pos h, List.length_cons]; omega
    · have := marksOf_len r p
      rw [if_neg h, if_neg h, List.length_cons, List.length_cons]; omega
theorem marksOf_shift : ∀ (ns : List Int) (p d : Int), marksOf (p + d) ns = (marksOf p ns).map fun x => (x.1, x.2 + d)
  | [], _, _ => rfl
  | x :: r, p, d => by
    unfold marksOf
    by_cases h : x < 0
    · rw [if_pos h, if_pos h, ← marksOf_shift r]
      congr 1; omega
    · rw [if_neg h, if_neg h, List.map_cons, ← marksOf_shift r]
theorem marksOf_ge : ∀ (ns : List Int) (p : Int), ∀ x ∈ marksOf p ns, p ≤ x.2
  | [], _ => by intro x hx; cases hx
  | y :: r, p => by
    intro x hx
    unfold marksOf at hx
    by_cases h : y < 0
    · rw [if_pos h] at hx
      have := marksOf_ge r _ x hx
      omega
    · rw [if_neg h] at hx
      rcases List.mem_cons.mp hx with e | hx
      · rw [e]; exact Int.le_refl _
      · exact marksOf_ge r _ x hx
theorem nch_append : ∀ (a b : List Int), nch (a ++ b) = nch a + nch b
  | [], b => by simp [nch]
  | x :: r, b => by simp only [List.cons_append, nch, nch_append r b]; omega
theorem nch_rep : ∀ (n : Nat), nch (List.replicate n (-1)) = n
  | 0 => rfl
  | n + 1 => by rw [List.replicate_succ]; simp only [nch, nch_rep n]; simp; omega
theorem marksOf_rep : ∀ (n : Nat) (p : Int), marksOf p (List.replicate n (-1)) = []
  | 0, _ => rfl
  | n + 1, p => by rw [List.replicate_succ]; unfold marksOf; rw [if_pos (by decide)]; exact marksOf_rep n _
theorem marksOf_pure : ∀ (ns : List Int) (p : Int), (∀ x ∈ ns, ¬ x < 0) → marksOf p ns = ns.map fun x => (x, p)
  | [], _, _ => rfl
  | x :: r, p, h => by
    unfold marksOf
    rw [if_neg (h x (.head _)), List.map_cons, marksOf_pure r p fun y hy => h y (.tail _ hy)]
theorem nch_pure : ∀ (ns : List Int), (∀ x ∈ ns, ¬ x < 0) → nch ns = 0
  | [], _ => rfl
  | x :: r, h => by
    unfold nch
    rw [if_neg (h x (.head _)), nch_pure r fun y hy => h y (.tail _ hy)]
/-- the head before a gap: its signs, and its marks stand before -/
theorem gap_head : ∀ (ns : List Int) (k : Nat), k ≤ nch ns → nch (ns.take (gapN ns k)) = k ∧ ∀ p, ∀ x ∈ marksOf p (ns.take (gapN ns k)), x.2 < p + k
  | ns, 0, _ => by
    have e : gapN ns 0 = 0 := by cases ns <;> rfl
    rw [e]
    exact ⟨rfl, fun p x hx => by simp [marksOf] at hx⟩
  | [], k + 1, h => by simp [nch] at h
  | y :: r, k + 1, h => by
    unfold gapN
    rw [Nat.add_comm 1, List.take_succ_cons]
    by_cases hy : y < 0
    · simp only [nch, if_pos hy] at h ⊢
      have ih := gap_head r k (by omega)
      refine ⟨by rw [ih.1]; omega, fun p x hx => ?_⟩
      unfold marksOf at hx
      rw [if_pos hy] at hx
      have := ih.2 _ x hx
      push_cast
      omega
    · simp only [nch, if_neg hy] at h ⊢
      have ih := gap_head r (k + 1) (by omega)
      refine ⟨by rw [ih.1]; omega, fun p x hx => ?_⟩
      unfold marksOf at hx
      rw [if_neg hy] at hx
      rcases List.mem_cons.mp hx with e | hx
      · rw [e]; push_cast; omega
      · exact ih.2 _ x hx
theorem goneN_cons (a b c x : Int) (r : List Int) : goneN a b c (x :: r) = if 0 ≤ x ∨ ¬ (a ≤ stepC c x ∧ stepC c x < b) then x :: goneN a b (stepC c x) r else goneN a b (stepC c x) r := rfl
theorem gone_marks {a b : Int} (hab : a ≤ b) : ∀ (ns : List Int) (c : Int), marksOf (fDel a b (c + 1) true) (goneN a b c ns) = (marksOf (c + 1) ns).map fun x => (x.1, fDel a b x.2 true)
  | [], _ => rfl
  | x :: r, c => by
    by_cases h : x < 0
    · have e : stepC c x = c + 1 := by unfold stepC; rw [if_pos h]
      have ih := gone_marks hab r (c + 1)
      have e2 : marksOf (c + 1) (x :: r) = marksOf (c + 1 + 1) r := by
        conv => lhs; unfold marksOf
        rw [if_pos h]
      rw [e2, ← ih, goneN_cons, e]
      by_cases h2 : 0 ≤ x ∨ ¬ (a ≤ c + 1 ∧ c + 1 < b)
      · rw [if_pos h2]
        conv => lhs; unfold marksOf
        rw [if_pos h]
        congr 1
        unfold fDel
        split <;> split <;> (try split) <;> omega
      · rw [if_neg h2]
        congr 1
        unfold fDel
        split <;> split <;> (try split) <;> omega
    · have e : stepC c x = c := by unfold stepC; rw [if_neg h]; omega
      have ih := gone_marks hab r c
      have e2 : marksOf (c + 1) (x :: r) = (x, c + 1) :: marksOf (c + 1) r := by
        conv => lhs; unfold marksOf
        rw [if_neg h]
      rw [e2, List.map_cons, ← ih, goneN_cons]
      rw [e, if_pos (.inl (by omega))]
      conv => lhs; unfold marksOf
      rw [if_neg h]
theorem gone_nch (a b : Int) : ∀ (ns : List Int) (c : Int), nch (goneN a b c ns) ≤ nch ns
  | [], _ => Nat.le_refl _
  | x :: r, c => by
    rw [goneN_cons]
    have ih := gone_nch a b r (stepC c x)
    split
    · simp only [nch]; omega
    · simp only [nch]; omega
theorem filter_marks (q : Int) (hq : 0 ≤ q) : ∀ (ns : List Int) (p : Int), marksOf p (ns.filter fun x => decide (x ≠ q)) = (marksOf p ns).filter fun x => decide (x.1 ≠ q)
  | [], _ => rfl
  | x :: r, p => by
    by_cases h : x < 0
    · rw [List.filter_cons_of_pos (by simp; omega)]
      unfold marksOf
      rw [if_pos h, if_pos h, filter_marks q hq r]
    · by_cases hx : x = q
      · rw [List.filter_cons_of_neg (by simp [hx])]
        conv => rhs; unfold marksOf
        rw [if_neg h, List.filter_cons_of_neg (by simp [hx]), filter_marks q hq r]
      · rw [List.filter_cons_of_pos (by simp [hx])]
        unfold marksOf
        rw [if_neg h, if_neg h, List.filter_cons_of_pos (by simp [hx]), filter_marks q hq r]
theorem filter_nch (q : Int) (hq : 0 ≤ q) : ∀ (ns : List Int), nch (ns.filter fun x => decide (x ≠ q)) = nch ns
  | [] => rfl
  | x :: r => by
    have ih := filter_nch q hq r
    by_cases hx : x = q
    · rw [List.filter_cons_of_neg (by simp [hx])]
      unfold nch
      rw [if_neg (by omega), ← ih]
      simp
      cases List.filter (fun x => !decide (x = q)) r <;> rfl
    · rw [List.filter_cons_of_pos (by simp [hx])]
      simp only [nch]; rw [ih]
end

theorem fresh_Same : True := by
  w_top off
  trivial
section
open PySem PySem.W PyProof.Rows PySem.Calls PySem.Spec
set_option linter.unusedSimpArgs false
/-- the row and the table say the same -/
structure Same (its : List Int) (ms : List Mk) (kvs : List (Int × Value)) : Prop where
  nd : ((marksOf 1 its).map (·.1)).Nodup
  mem : ∀ q, q ∈ (marksOf 1 its).map (·.1) ↔ q ∈ kvs.map (·.1)
  pos : ∀ q p, (q, p) ∈ marksOf 1 its → mposOf ms q = p
theorem posOf_mem {M : List (Int × Int)} (hn : (M.map (·.1)).Nodup) {q p : Int} (h : (q, p) ∈ M) : posOf M q = p := by
  induction M with
  | nil => cases h
  | cons x r ih =>
    simp only [List.map_cons, List.nodup_cons] at hn
    unfold posOf
    rcases List.mem_cons.mp h with e | h
    · subst e; simp
    · have hx : ¬ x.1 = q := fun e => hn.1 (e ▸ List.mem_map.mpr ⟨(q, p), h, rfl⟩)
      rw [List.find?_cons_of_neg (by simpa using hx)]
      exact ih hn.2 h
theorem Same.perm {its : List Int} {ms : List Mk} {kvs : List (Int × Value)} (S : Same its ms kvs) (hn : (kvs.map (·.1)).Nodup) : ((marksOf 1 its).map (·.1)).Perm (kvs.map (·.1)) :=
  (List.perm_ext_iff_of_nodup S.nd hn).mpr S.mem
theorem Same.at {its : List Int} {ms : List Mk} {kvs : List (Int × Value)} (S : Same its ms kvs) : ∀ q ∈ kvs.map (·.1), posOf (marksOf 1 its) q = mposOf ms q := by
  intro q hq
  obtain ⟨x, hx, rfl⟩ := List.mem_map.mp ((S.mem q).mpr hq)
  rw [posOf_mem S.nd hx, S.pos _ _ hx]
section
variable {hm hd' rd : Nat} {its its' : List Int} {ms : List Mk} {kvs : List (Int × Value)} {f : Int → Bool → Int} {g : Mk → Mk} {a b many : Int} {before : Bool}
theorem Same.mv (S : Same its ms kvs) (W : Apart hm hd' rd ms) (hb : Bears kvs ms) (hg : ∀ m ∈ ms, Mv f (kvs.map (·.1)) m (g m)) (hp : ((marksOf 1 its').map (·.1)).Perm ((marksOf 1 its).map (·.1)))
    (hm' : ∀ q p', (q, p') ∈ marksOf 1 its' → ∃ p, (q, p) ∈ marksOf 1 its ∧ ∀ m ∈ ms, m.num = q → f p m.adv = p') : Same its' (ms.map g) kvs where
  nd := hp.nodup_iff.mpr S.nd
  mem := fun q => hp.mem_iff.trans (S.mem q)
  pos := by
    intro q p' h
    obtain ⟨p, h1, h2⟩ := hm' q p' h
    have hq : q ∈ kvs.map (·.1) := (S.mem q).mp (List.mem_map.mpr ⟨_, h1, rfl⟩)
    obtain ⟨⟨q', v⟩, hmem, e⟩ := List.mem_map.mp hq
    dsimp only at e
    subst e
    obtain ⟨m, hmm, hnum, _⟩ := hb _ v hmem
    have e1 := S.pos _ _ h1
    have hgm := hg m hmm
    rw [← hnum, mposOf_eq W hmm] at e1
    have e2 := mposOf_eq (W.mv hg) (m := g m) (List.mem_map.mpr ⟨m, hmm, rfl⟩)
    rw [hgm.num, hnum] at e2
    rw [e2, hgm.pos, if_pos (by rw [hnum]; exact hq), e1]
    exact h2 m hmm hnum
theorem runN_split : ∀ ns : List Int, ns = runN ns ++ ns.drop (runN ns).length
  | [] => rfl
  | x :: r => by
    by_cases h : x < 0
    · have e : runN (x :: r) = [] := by unfold runN; rw [List.takeWhile_cons_of_neg (by simp; omega)]
      rw [e]; rfl
    · have e : runN (x :: r) = x :: runN r := by unfold runN; rw [List.takeWhile_cons_of_pos (by simp; omega)]
      rw [e, List.length_cons, List.drop_succ_cons, List.cons_append, ← runN_split r]
theorem runN_pure (ns : List Int) : ∀ x ∈ runN ns, ¬ x < 0 := by
  induction ns with
  | nil => intro x hx; cases hx
  | cons y r ih =>
    intro x hx
    by_cases h : y < 0
    · have e : runN (y :: r) = [] := by unfold runN; rw [List.takeWhile_cons_of_neg (by simp; omega)]
      rw [e] at hx; cases hx
    · have e : runN (y :: r) = y :: runN r := by unfold runN; rw [List.takeWhile_cons_of_pos (by simp; omega)]
      rw [e] at hx
      rcases List.mem_cons.mp hx with e | hx
      · rw [e]; exact h
      · exact ih x hx
theorem run_after : ∀ (ns : List Int) (p : Int), ∀ x ∈ marksOf p (ns.drop (runN ns).length), p < x.2
  | [], p => by intro x hx; simp [runN, marksOf] at hx
  | y :: r, p => by
    intro x hx
    by_cases h : y < 0
    · have e : runN (y :: r) = [] := by unfold runN; rw [List.takeWhile_cons_of_neg (by simp; omega)]
      rw [e, List.length_nil, List.drop_zero] at hx
      unfold marksOf at hx
      rw [if_pos h] at hx
      have := marksOf_ge r _ x hx
      omega
    · have e : runN (y :: r) = y :: runN r := by unfold runN; rw [List.takeWhile_cons_of_pos (by simp; omega)]
      rw [e, List.length_cons, List.drop_succ_cons] at hx
      exact run_after r p x hx
theorem ins_same (S : Same its ms kvs) (W : Apart hm hd' rd ms) (hb : Bears kvs ms) (ha : 1 ≤ a) (ha2 : a ≤ 1 + nch its) (h0 : 0 ≤ many) (hg : ∀ m ∈ ms, Mv (fIns a (a + many) before) (kvs.map (·.1)) m (g m)) {mv : List Int}
    (hmv : ∀ q, q ∈ mv ↔ ∃ m ∈ ms, m.num = q ∧ (before = true ∨ m.adv = true)) :
    Same (insN its a many mv) (ms.map g) kvs ∧ (nch (insN its a many mv) : Int) = nch its + many := by
  have hgap := gap_head its (a - 1).toNat (by omega)
  have hsplit := List.take_append_drop (gapN its (a - 1).toNat) its
  unfold insN
  rw [← List.drop_drop]
  generalize hA : its.take (gapN its (a - 1).toNat) = A at *
  generalize hD : its.drop (gapN its (a - 1).toNat) = D at *
  have hrs := runN_split D
  have hrp := runN_pure D
  have hra := run_after D
  generalize hR : runN D = R at *
  generalize hZ : D.drop R.length = Z at *
  have hnA : (nch A : Int) = a - 1 := by rw [hgap.1]; omega
  have hA1 : ∀ x ∈ marksOf 1 A, x.2 < a := fun x hx => by have := hgap.2 1 x hx; omega
  have p1 : ∀ x ∈ R.filter (fun q => !(mv.any (· == q))), ¬ x < 0 := fun x hx => hrp x (List.mem_filter.mp hx).1
  have p2 : ∀ x ∈ R.filter (fun q => mv.any (· == q)), ¬ x < 0 := fun x hx => hrp x (List.mem_filter.mp hx).1
  have n1 := nch_pure _ p1
  have n2 := nch_pure _ p2
  have nR := nch_pure _ hrp
  have e0 : its = A ++ (R ++ Z) := by rw [← hrs, hsplit]
  have M0 : marksOf 1 its = marksOf 1 A ++ (R.map (fun x => (x, a)) ++ marksOf a Z) := by
    rw [e0, marksOf_append, marksOf_append, nR, marksOf_pure R _ hrp]
    rw [show (1 + (nch A : Int)) = a by omega]
    simp
  have M1 : marksOf 1 (A ++ R.filter (fun q => !(mv.any (· == q))) ++ List.replicate many.toNat (-1) ++ R.filter (fun q => mv.any (· == q)) ++ Z) = marksOf 1 A ++ ((R.filter (fun q => !(mv.any (· == q)))).map (fun x => (x, a)) ++ ((R.filter (fun q => mv.any (· == q))).map (fun x => (x, a + many)) ++ (marksOf a Z).map fun x => (x.1, x.2 + many))) := by
    rw [List.append_assoc, List.append_assoc, List.append_assoc, marksOf_append, marksOf_append, marksOf_append, marksOf_append, marksOf_rep, nch_rep, n1, n2, marksOf_pure _ _ p1, marksOf_pure _ _ p2, ← marksOf_shift]
    rw [show (1 + (nch A : Int)) = a by omega]
    rw [show a + ((0 : Nat) : Int) + (many.toNat : Int) = a + many by omega]
    simp
  refine ⟨S.mv W hb hg ?_ ?_, ?_⟩
  · rw [M1, M0]
    simp only [List.map_append, List.map_map]
    refine List.Perm.append_left _ ?_
    rw [← List.append_assoc]
    refine List.Perm.append ?_ (by rw [show ((fun x : Int × Int => x.1) ∘ fun x : Int × Int => (x.1, x.2 + many)) = fun x => x.1 from rfl])
    have i1 : ∀ (l : List Int) (c : Int), l.map ((fun x : Int × Int => x.1) ∘ fun x => (x, c)) = l := fun l c => by
      rw [show ((fun x : Int × Int => x.1) ∘ fun x : Int => (x, c)) = id from rfl, List.map_id]
    rw [i1, i1, i1]
    refine List.perm_append_comm.trans ?_
    exact List.filter_append_perm (fun q => mv.any (· == q)) R
  · intro q p' h
    rw [M1] at h
    rcases List.mem_append.mp h with h | h
    · refine ⟨p', by rw [M0]; exact List.mem_append_left _ h, fun m _ _ => ?_⟩
      have := hA1 _ h
      dsimp only at this
      unfold fIns
      rw [if_neg (by omega)]
    · rcases List.mem_append.mp h with h | h
      · obtain ⟨x, hx, e⟩ := List.mem_map.mp h
        obtain ⟨rfl, rfl⟩ : x = q ∧ a = p' := by simpa using e
        have hx' := List.mem_filter.mp hx
        refine ⟨a, by rw [M0]; exact List.mem_append_right _ (List.mem_append_left _ (List.mem_map.mpr ⟨x, hx'.1, rfl⟩)), fun m hmm hn => ?_⟩
        have hnot : ¬ (before = true ∨ m.adv = true) := fun hc => by
          have h9 : x ∈ mv := (hmv x).mpr ⟨m, hmm, hn, hc⟩
          have h8 := hx'.2
          simp at h8
          exact h8 x h9 rfl
        unfold fIns
        rw [if_neg]
        rintro (h | h)
        · omega
        · exact hnot h.2
      · rcases List.mem_append.mp h with h | h
        · obtain ⟨x, hx, e⟩ := List.mem_map.mp h
          obtain ⟨rfl, rfl⟩ : x = q ∧ a + many = p' := by simpa using e
          have hx' := List.mem_filter.mp hx
          refine ⟨a, by rw [M0]; exact List.mem_append_right _ (List.mem_append_left _ (List.mem_map.mpr ⟨x, hx'.1, rfl⟩)), fun m hmm hn => ?_⟩
          have h9 : x ∈ mv := by simpa using hx'.2
          obtain ⟨m', hm', hn', hc⟩ := (hmv x).mp h9
          obtain rfl := W.num m hmm m' hm' (hn.trans hn'.symm)
          unfold fIns
          rw [if_pos (.inr ⟨rfl, hc⟩)]
          omega
        · obtain ⟨x, hx, e⟩ := List.mem_map.mp h
          obtain ⟨rfl, rfl⟩ : x.1 = q ∧ x.2 + many = p' := by simpa using e
          refine ⟨x.2, by rw [M0]; exact List.mem_append_right _ (List.mem_append_right _ hx), fun m hmm hn => ?_⟩
          have h9 := hra a x hx
          unfold fIns
          rw [if_pos (.inl (by omega))]
          omega
  · rw [List.append_assoc, List.append_assoc, List.append_assoc, nch_append, nch_append, nch_append, nch_append, n1, n2, nch_rep]
    conv => rhs; rw [e0, nch_append, nch_append, nR]
    omega
theorem gone_same (S : Same its ms kvs) (W : Apart hm hd' rd ms) (hb : Bears kvs ms) (ha : 1 ≤ a) (hab : a ≤ b) (hg : ∀ m ∈ ms, Mv (fDel a b) (kvs.map (·.1)) m (g m)) : Same (goneN a b 0 its) (ms.map g) kvs ∧ nch (goneN a b 0 its) ≤ nch its := by
  have h1 := gone_marks hab its 0
  have e1 : fDel a b (0 + 1) true = 1 := by
    unfold fDel
    split
    · omega
    · split <;> omega
  rw [e1] at h1
  refine ⟨S.mv W hb hg ?_ ?_, gone_nch ..⟩
  · rw [h1, List.map_map]
    rw [show ((fun x : Int × Int => x.1) ∘ fun x : Int × Int => (x.1, fDel a b x.2 true)) = fun x => x.1 from rfl]
    rw [show (0 + 1 : Int) = 1 from rfl]
  · intro q p' h
    rw [h1] at h
    obtain ⟨x, hx, e⟩ := List.mem_map.mp h
    obtain ⟨rfl, rfl⟩ : x.1 = q ∧ fDel a b x.2 true = p' := by simpa using e
    exact ⟨x.2, hx, fun _ _ _ => rfl⟩
theorem gapN_mono : ∀ (ns : List Int) (i j : Nat), i ≤ j → gapN ns i ≤ gapN ns j
  | ns, 0, j, _ => by
    have e : gapN ns 0 = 0 := by cases ns <;> rfl
    omega
  | [], i + 1, 0, h => by omega
  | [], i + 1, j + 1, _ => Nat.le_refl _
  | x :: r, i + 1, 0, h => by omega
  | x :: r, i + 1, j + 1, h => by
    unfold gapN
    split
    · have := gapN_mono r i j (by omega); omega
    · have := gapN_mono r (i + 1) (j + 1) h; omega
theorem keep_marks : ∀ (ns : List Int) (p c : Int), (marksOf p ns).map (fun x => (x.1, c)) = marksOf c (ns.filter fun x => decide (0 ≤ x))
  | [], _, _ => rfl
  | x :: r, p, c => by
    by_cases h : x < 0
    · rw [List.filter_cons_of_neg (by simp; omega), ← keep_marks r (p + 1)]
      conv => lhs; unfold marksOf
      rw [if_pos h]
    · rw [List.filter_cons_of_pos (by simp; omega)]
      unfold marksOf
      rw [if_neg h, if_neg h, List.map_cons, keep_marks r p]
theorem keep_nch (ns : List Int) : nch (ns.filter fun x => decide (0 ≤ x)) = 0 := nch_pure _ fun x hx => by
  have := (List.mem_filter.mp hx).2
  simp at this
  omega
theorem repl_same (S : Same its ms kvs) (W : Apart hm hd' rd ms) (hb : Bears kvs ms) (ha : 1 ≤ a) (hab : a < b) (hb2 : b ≤ 1 + nch its) (h0 : 0 ≤ many) (hg : ∀ m ∈ ms, Mv (fRep a b many) (kvs.map (·.1)) m (g m)) :
    Same (replN its a b many) (ms.map g) kvs ∧ (nch (replN its a b many) : Int) ≤ nch its + many := by
  have hgA := gap_head its (a - 1).toNat (by omega)
  have hgB := gap_head its (b - 1).toNat (by omega)
  have hmono := gapN_mono its (a - 1).toNat (b - 1).toNat (by omega)
  have hsA := List.take_append_drop (gapN its (a - 1).toNat) its
  have hsD := List.take_append_drop (gapN its (b - 1).toNat - gapN its (a - 1).toNat) (its.drop (gapN its (a - 1).toNat))
  have hZ0 : (its.drop (gapN its (a - 1).toNat)).drop (gapN its (b - 1).toNat - gapN its (a - 1).toNat) = its.drop (gapN its (b - 1).toNat) := by rw [List.drop_drop]; congr 1; omega
  have hTB : its.take (gapN its (b - 1).toNat) = its.take (gapN its (a - 1).toNat) ++ (its.drop (gapN its (a - 1).toNat)).take (gapN its (b - 1).toNat - gapN its (a - 1).toNat) := by
    rw [← List.take_add]; congr 1; omega
  unfold replN
  rw [hZ0] at hsD
  generalize its.take (gapN its (b - 1).toNat) = TB at *
  generalize its.take (gapN its (a - 1).toNat) = A at *
  generalize (its.drop (gapN its (a - 1).toNat)).take (gapN its (b - 1).toNat - gapN its (a - 1).toNat) = Y at *
  generalize its.drop (gapN its (b - 1).toNat) = Z at *
  have e0 : its = A ++ (Y ++ Z) := by rw [hsD, hsA]
  subst hTB
  have nA : (nch A : Int) = a - 1 := by rw [hgA.1]; omega
  have nY : (nch A : Int) + nch Y = b - 1 := by have := hgB.1; rw [nch_append] at this; omega
  have bA : ∀ x ∈ marksOf 1 A, x.2 < a := fun x hx => by have := hgA.2 1 x hx; omega
  have bY : ∀ x ∈ marksOf a Y, x.2 < b := fun x hx => by
    have := hgB.2 1 x (by rw [marksOf_append, show (1 + (nch A : Int)) = a by omega]; exact List.mem_append_right _ hx)
    omega
  have M0 : marksOf 1 its = marksOf 1 A ++ (marksOf a Y ++ marksOf b Z) := by
    rw [e0, marksOf_append, marksOf_append, show (1 + (nch A : Int)) = a by omega, show a + (nch Y : Int) = b by omega]
  have M1 : marksOf 1 (A ++ Y.filter (fun x => decide (0 ≤ x)) ++ List.replicate many.toNat (-1) ++ Z) = marksOf 1 A ++ ((marksOf a Y).map (fun x => (x.1, a)) ++ (marksOf b Z).map fun x => (x.1, x.2 + (a + many - b))) := by
    rw [List.append_assoc, List.append_assoc, marksOf_append, marksOf_append, marksOf_append, keep_nch, nch_rep, marksOf_rep, keep_marks, ← marksOf_shift]
    rw [show (1 + (nch A : Int)) = a by omega, show a + ((0 : Nat) : Int) + (many.toNat : Int) = b + (a + many - b) by omega]
    simp
  refine ⟨S.mv W hb hg ?_ ?_, ?_⟩
  · rw [M1, M0]
    simp only [List.map_append, List.map_map]
    exact List.Perm.refl _
  · intro q p' h
    rw [M1] at h
    rcases List.mem_append.mp h with h | h
    · refine ⟨p', by rw [M0]; exact List.mem_append_left _ h, fun m _ _ => ?_⟩
      have := bA _ h
      dsimp only at this
      unfold fRep
      rw [if_neg (by omega), if_neg (by omega)]
    · rcases List.mem_append.mp h with h | h
      · obtain ⟨x, hx, e⟩ := List.mem_map.mp h
        obtain ⟨rfl, rfl⟩ : x.1 = q ∧ a = p' := by simpa using e
        refine ⟨x.2, by rw [M0]; exact List.mem_append_right _ (List.mem_append_left _ hx), fun m _ _ => ?_⟩
        have h1 := bY x hx
        have h2 := marksOf_ge _ _ x hx
        unfold fRep
        rw [if_neg (by omega)]
        split <;> omega
      · obtain ⟨x, hx, e⟩ := List.mem_map.mp h
        obtain ⟨rfl, rfl⟩ : x.1 = q ∧ x.2 + (a + many - b) = p' := by simpa using e
        refine ⟨x.2, by rw [M0]; exact List.mem_append_right _ (List.mem_append_right _ hx), fun m _ _ => ?_⟩
        have h2 := marksOf_ge _ _ x hx
        unfold fRep
        rw [if_pos (by omega)]
        omega
  · rw [List.append_assoc, List.append_assoc, nch_append, nch_append, nch_append, keep_nch, nch_rep]
    conv => rhs; rw [e0, nch_append, nch_append]
    omega
theorem mem_stored {k : Int} {v : Value} {q : Int} : q ∈ (stored kvs k v).map (·.1) ↔ q ∈ kvs.map (·.1) ∨ q = k := by
  unfold stored
  split
  · rename_i h
    obtain ⟨x, hx, e⟩ := List.any_eq_true.mp h
    have e' : x.1 = k := by simpa using e
    have : (kvs.map fun y : Int × Value => (y.1, if y.1 = k then v else y.2)).map (·.1) = kvs.map (·.1) := by
      rw [List.map_map]; rfl
    constructor
    · intro h
      obtain ⟨y, hy, rfl⟩ := List.mem_map.mp h
      obtain ⟨z, hz, rfl⟩ := List.mem_map.mp hy
      refine .inl (List.mem_map.mpr ⟨z, hz, ?_⟩)
      split <;> simp_all
    · rintro (h | h)
      · obtain ⟨y, hy, rfl⟩ := List.mem_map.mp h
        refine List.mem_map.mpr ⟨_, List.mem_map.mpr ⟨y, hy, rfl⟩, ?_⟩
        split <;> simp_all
      · refine List.mem_map.mpr ⟨_, List.mem_map.mpr ⟨x, hx, rfl⟩, ?_⟩
        split <;> simp_all
  · simp [or_comm, eq_comm]
/-- a marker set to a place -/
noncomputable def setTo (q p : Int) (t : Tok) (m : Mk) : Mk := if m.num = q then { m with pos := p, tp := t } else m
theorem setTo_x (q p : Int) (t : Tok) (m : Mk) : (setTo q p t m).x = m.x := by unfold setTo; split <;> rfl
theorem setTo_d (q p : Int) (t : Tok) (m : Mk) : (setTo q p t m).d = m.d := by unfold setTo; split <;> rfl
theorem setTo_num (q p : Int) (t : Tok) (m : Mk) : (setTo q p t m).num = m.num := by unfold setTo; split <;> rfl
theorem setTo_adv (q p : Int) (t : Tok) (m : Mk) : (setTo q p t m).adv = m.adv := by unfold setTo; split <;> rfl
theorem setTo_pos (q p : Int) (t : Tok) (m : Mk) : (setTo q p t m).pos = if m.num = q then p else m.pos := by unfold setTo; split <;> rfl
theorem Apart.set (W : Apart hm hd' rd ms) (q p : Int) (t : Tok) : Apart hm hd' rd (ms.map (setTo q p t)) :=
  W.mv (f := fun _ _ => p) (S := [q]) fun m _ => ⟨setTo_x .., setTo_d .., setTo_num .., setTo_adv .., by rw [setTo_pos]; simp⟩
theorem put_same (S : Same its ms kvs) (W : Apart hm hd' rd ms) (hb : Bears kvs ms) {k : Mk} (hk : k ∈ ms) (hq : 0 ≤ k.num) (ha : 1 ≤ a) (ha2 : a ≤ 1 + nch its) {t : Tok} {v : Value} :
    Same ((its.filter fun x => decide (x ≠ k.num)).take (gapN (its.filter fun x => decide (x ≠ k.num)) (a - 1).toNat) ++ [k.num] ++ (its.filter fun x => decide (x ≠ k.num)).drop (gapN (its.filter fun x => decide (x ≠ k.num)) (a - 1).toNat)) (ms.map (setTo k.num a t)) (stored kvs k.num v)
    ∧ nch ((its.filter fun x => decide (x ≠ k.num)).take (gapN (its.filter fun x => decide (x ≠ k.num)) (a - 1).toNat) ++ [k.num] ++ (its.filter fun x => decide (x ≠ k.num)).drop (gapN (its.filter fun x => decide (x ≠ k.num)) (a - 1).toNat)) = nch its := by
  have hF := filter_marks k.num hq its 1
  have hN := filter_nch k.num hq its
  generalize its.filter (fun x => decide (x ≠ k.num)) = its0 at *
  have hgA := gap_head its0 (a - 1).toNat (by omega)
  have hsA := List.take_append_drop (gapN its0 (a - 1).toNat) its0
  generalize its0.take (gapN its0 (a - 1).toNat) = A at *
  generalize its0.drop (gapN its0 (a - 1).toNat) = D at *
  subst hsA
  have nA : (nch A : Int) = a - 1 := by rw [hgA.1]; omega
  have eA : 1 + (nch A : Int) = a := by omega
  rw [marksOf_append, eA] at hF
  have M1 : marksOf 1 (A ++ [k.num] ++ D) = marksOf 1 A ++ (k.num, a) :: marksOf a D := by
    rw [List.append_assoc, marksOf_append, eA]
    congr 1
    show marksOf a (k.num :: D) = _
    conv => lhs; unfold marksOf
    rw [if_neg (by omega)]
  have hperm : (marksOf 1 (A ++ [k.num] ++ D)).Perm ((k.num, a) :: (marksOf 1 its).filter fun x => decide (x.1 ≠ k.num)) := by
    rw [M1, ← hF]
    exact List.perm_middle
  have hkeys := hperm.map (·.1)
  have hmem : ∀ x, x ∈ marksOf 1 (A ++ [k.num] ++ D) ↔ x = (k.num, a) ∨ (x ∈ marksOf 1 its ∧ x.1 ≠ k.num) := fun x => by
    rw [hperm.mem_iff, List.mem_cons, List.mem_filter]; simp
  refine ⟨⟨?_, ?_, ?_⟩, ?_⟩
  · rw [hkeys.nodup_iff, List.map_cons, List.nodup_cons]
    refine ⟨fun hc => ?_, (List.filter_sublist.map _).nodup S.nd⟩
    obtain ⟨x, hx, e⟩ := List.mem_map.mp hc
    have := (List.mem_filter.mp hx).2
    simp at this
    exact this e
  · intro q
    rw [mem_stored, ← S.mem]
    constructor
    · intro h
      obtain ⟨x, hx, rfl⟩ := List.mem_map.mp h
      rcases (hmem x).mp hx with e | ⟨h1, h2⟩
      · exact .inr (by rw [e])
      · exact .inl (List.mem_map.mpr ⟨x, h1, rfl⟩)
    · intro h
      by_cases e : q = k.num
      · exact List.mem_map.mpr ⟨(k.num, a), (hmem _).mpr (.inl rfl), e.symm⟩
      · rcases h with h | h
        · obtain ⟨x, hx, rfl⟩ := List.mem_map.mp h
          exact List.mem_map.mpr ⟨x, (hmem x).mpr (.inr ⟨hx, e⟩), rfl⟩
        · exact absurd h e
  · intro q p h
    have hg : ∀ m ∈ ms, Mv (fun _ _ => a) [k.num] m (setTo k.num a t m) := fun m _ => ⟨setTo_x .., setTo_d .., setTo_num .., setTo_adv .., by rw [setTo_pos]; simp⟩
    have key : ∀ m ∈ ms, mposOf (ms.map (setTo k.num a t)) m.num = if m.num = k.num then a else m.pos := fun m hmm => by
      have e2 := mposOf_eq (W.mv hg) (m := setTo k.num a t m) (List.mem_map.mpr ⟨m, hmm, rfl⟩)
      rw [setTo_num, setTo_pos] at e2
      exact e2
    rcases (hmem _).mp h with e | ⟨h1, h2⟩
    · obtain ⟨rfl, rfl⟩ : q = k.num ∧ p = a := by simpa using e
      rw [key k hk, if_pos rfl]
    · have hq' := (S.mem q).mp (List.mem_map.mpr ⟨_, h1, rfl⟩)
      obtain ⟨⟨q', v'⟩, hmm, e⟩ := List.mem_map.mp hq'
      dsimp only at e
      subst e
      obtain ⟨m, hmem', hnum, _⟩ := hb _ _ hmm
      have e1 := S.pos _ _ h1
      rw [← hnum, mposOf_eq W hmem'] at e1
      rw [← hnum, key m hmem', if_neg (by rw [hnum]; exact h2), e1]
  · rw [List.append_assoc, nch_append]
    rw [nch_append] at hN
    show nch A + nch (k.num :: D) = _
    have e5 : nch (k.num :: D) = nch D := by
      conv => lhs; unfold nch
      rw [if_neg (by omega)]; omega
    omega
theorem drop_same (S : Same its ms kvs) {q : Int} (hq : 0 ≤ q) : Same (its.filter fun x => decide (x ≠ q)) ms (without kvs q) ∧ nch (its.filter fun x => decide (x ≠ q)) = nch its := by
  have hF := filter_marks q hq its 1
  refine ⟨⟨?_, ?_, ?_⟩, filter_nch q hq its⟩
  · rw [hF]; exact (List.filter_sublist.map _).nodup S.nd
  · intro r
    rw [hF]
    have h := S.mem r
    simp only [List.mem_map, List.mem_filter, without, decide_eq_true_eq] at h ⊢
    constructor
    · rintro ⟨x, ⟨h1, h2⟩, rfl⟩
      obtain ⟨y, hy, e⟩ := h.mp ⟨x, h1, rfl⟩
      exact ⟨y, ⟨hy, by rw [e]; exact h2⟩, e⟩
    · rintro ⟨x, ⟨h1, h2⟩, rfl⟩
      obtain ⟨y, hy, e⟩ := h.mpr ⟨x, h1, rfl⟩
      exact ⟨y, ⟨hy, by rw [e]; exact h2⟩, e⟩
  · intro r p h
    rw [hF] at h
    exact S.pos r p (List.mem_filter.mp h).1
end
end

theorem fresh_LapEnd : True := by
  w_top off
  trivial
section
open PySem PySem.W PyProof.Rows PySem.Calls PySem.Spec PyProof.Rows.LCg
theorem nch_cons (x : Int) (r : List Int) : nch (x :: r) = (if x < 0 then 1 else 0) + nch r := rfl
theorem len_of_sub : ∀ (l l' : List Int), l.Nodup → (∀ x ∈ l, x ∈ l') → l.length ≤ l'.length
  | [], _, _, _ => Nat.zero_le _
  | x :: r, l', hn, h => by
    rw [List.nodup_cons] at hn
    have hx := h x (.head _)
    have ih := len_of_sub r (l'.erase x) hn.2 fun y hy => (List.mem_erase_of_ne (fun e : y = x => hn.1 (e ▸ hy))).mpr (h y (.tail _ hy))
    rw [List.length_erase_of_mem hx] at ih
    have := List.length_pos_of_mem hx
    rw [List.length_cons]; omega
theorem filter_nch_len : ∀ ns : List Int, (ns.filter fun x => decide (x < 0)).length = nch ns
  | [] => rfl
  | x :: r => by
    by_cases h : x < 0
    · rw [List.filter_cons_of_pos (by simpa using h), List.length_cons, filter_nch_len r, nch_cons, if_pos h]; omega
    · rw [List.filter_cons_of_neg (by simpa using h), filter_nch_len r, nch_cons, if_neg h]; omega
/-- what a lap of the law bears -/
structure St where
  kd : Int
  tkd : Tok
  nd : Nat
  IT : Nat
  ys : List Value
  its : List Int
  ki : Nat
  ms : List Mk
  rO : Obj
  kvs : List (Int × Value)
  cB : Obj
  cE : Obj
  cS : Obj
  cO : Obj
abbrev cellsOf (L : Nat) (cH : Obj) (c : St) : List (Addr × Obj) := [(L + 1 + 1 + 1 + 1 + 1, c.cB), (L + 1 + 1 + 1 + 1, c.cE), (L + 1 + 1 + 1, c.cS), (L + 1 + 1, c.cO), (L + 1, cH)]
abbrev lawLed (w : World) (L DK CL OM hm hd' rd : Nat) (kr : Tok) (oCL oOM cH : Obj) (c : St) : List (Addr × Obj) :=
  (DK, listOf #[.ref CL, .int c.kd c.tkd] c.nd) :: (CL, oCL) :: (OM, oOM) :: (c.IT, listOf c.ys.toArray c.ki) :: (cellsOf L cH c ++ (homeLed w hm hd' rd kr c.rO ++ marksLed w c.ms))
structure InvL (w : World) (L DK CL OM hm hd' rd : Nat) (xs : List Addr) (top : Int) (lim : Int) (c : St) : Prop where
  k0 : 0 ≤ c.kd
  k1 : c.kd ≤ lim
  il : IntsAre c.ys c.its
  ch : (nch c.its : Int) ≤ top
  W : Apart hm hd' rd c.ms
  xs : c.ms.map Mk.x = xs
  nn : ∀ m ∈ c.ms, 0 ≤ m.num
  R : c.rO.IsDictOf (intKind PySem.Challenge.rw_ok0046_01.row.prog w) c.kvs
  b : Bears c.kvs c.ms
  same : Same c.its c.ms c.kvs
  it : ∀ a ∈ [DK, L + 1 + 1 + 1 + 1 + 1, L + 1 + 1 + 1 + 1, L + 1 + 1 + 1, L + 1 + 1, L + 1], @Ne Nat a c.IT
  cB : ∃ v, c.cB.data = .cell v
  cE : ∃ v, c.cE.data = .cell v
  cS : ∃ v, c.cS.data = .cell v
  cO : ∃ v, c.cO.data = .cell v
theorem bears_len {kvs : List (Int × Value)} {ms : List Mk} (hn : (kvs.map (·.1)).Nodup) (hb : Bears kvs ms) : kvs.length ≤ ms.length := by
  have h1 := len_of_sub (kvs.map (·.1)) (ms.map Mk.num) hn fun q hq => by
    obtain ⟨⟨q', v⟩, h, rfl⟩ := List.mem_map.mp hq
    obtain ⟨m, hm, e, _⟩ := hb _ _ h
    exact List.mem_map.mpr ⟨m, hm, e⟩
  simpa using h1
theorem News.tl {h₀ h : Heap} {L : Addr} {x : Addr × Obj} {y : List (Addr × Obj)} (N : News h₀ L h (x :: y)) : News h₀ L h y := fun p hp => N p (.tail _ hp)
theorem marks_ne {w : World} {h₀ h : Heap} {L : Addr} {news : List (Addr × Obj)} {ms : List Mk} (N : News h₀ L h news) (h2 : ∀ p ∈ marksLed w ms, p ∈ news) {b : Nat} {o : Obj} (hb : (b, o) ∈ news) (hd : Dull o) : ∀ p ∈ marksLed w ms, p.1 ≠ b := by
  intro p hp
  have h3 := h2 p hp
  simp only [List.mem_flatMap] at hp
  obtain ⟨k, hk, hp⟩ := hp
  simp only [Mk.objs, List.mem_cons, List.not_mem_nil, or_false] at hp
  rcases hp with rfl | rfl
  · exact fun e => ne_dull N hb hd h3 (.inl rfl) e.symm
  · exact fun e => ne_dull N hb hd h3 (.inr ⟨_, _, rfl⟩) e.symm
theorem fr_name {h₀ h : Heap} {L : Addr} {x : PySem.Str} {v : Value} {m : PySem.Str → Option Value} (hx : m x = some v) (F : Fr h₀ L h m) : Fr h₀ L h (fun y => if y = x then some v else m y) := by
  have e : (fun y => if y = x then some v else m y) = m := by
    funext y
    by_cases h : y = x
    · rw [if_pos h, h, hx]
    · rw [if_neg h]
  rw [e]; exact F
theorem genA {h₀ h : Heap} {L : Addr} {pI : Addr × Obj} {P Q M : List (Addr × Obj)} (N : News h₀ L h (pI :: (P ++ (Q ++ M)))) : News h₀ L h (Q ++ (M ++ (pI :: P))) := fun p hp => N p (by
  rcases List.mem_append.mp hp with h | h
  · exact .tail _ (List.mem_append_right _ (List.mem_append_left _ h))
  · rcases List.mem_append.mp h with h | h
    · exact .tail _ (List.mem_append_right _ (List.mem_append_right _ h))
    · rcases List.mem_cons.mp h with h | h
      · exact h ▸ .head _
      · exact .tail _ (List.mem_append_left _ h))
theorem genB {h₀ h : Heap} {L : Addr} {pI : Addr × Obj} {P Q M : List (Addr × Obj)} (N : News h₀ L h (Q ++ (M ++ (pI :: P)))) : News h₀ L h (pI :: (P ++ (Q ++ M))) := fun p hp => N p (by
  rcases List.mem_cons.mp hp with h | h
  · exact List.mem_append_right _ (List.mem_append_right _ (h ▸ .head _))
  · rcases List.mem_append.mp h with h | h
    · exact List.mem_append_right _ (List.mem_append_right _ (.tail _ h))
    · rcases List.mem_append.mp h with h | h
      · exact List.mem_append_left _ h
      · exact List.mem_append_right _ (List.mem_append_left _ h))
theorem genR {h₀ h : Heap} {L : Addr} {pI : Addr × Obj} {P R : List (Addr × Obj)} (N : News h₀ L h (pI :: (P ++ R))) : News h₀ L h (P ++ (pI :: R)) := fun p hp => N p (by
  rcases List.mem_append.mp hp with h | h
  · exact .tail _ (List.mem_append_left _ h)
  · rcases List.mem_cons.mp h with h | h
    · exact h ▸ .head _
    · exact .tail _ (List.mem_append_right _ h))
section
variable {w : World} {mean : ExcName → Option Value} {mg mb : PySem.Str → Option Value} {dp un : Nat} {gd : Option (List Code)} {cn : PySem.Str} {cs : Scope} {a : Addr} {ccd : Value} {cl : List (PySem.Str × Addr)} {outer : List Env} {A₀ : Around} {base h₀ : Heap} {L : Addr} {m : PySem.Str → Option Value} {s : Shared} {Q E : Value → Shared → Prop} {rest : List (Addr × Obj)}
theorem lap_end {DK CL OM hm hd' rd : Nat} {kr : Tok} {xs : List Addr} {oOM oCL cH : Obj} {top lim : Int} {c : St} {I : Nat} {oI : Obj} {st en : Int} {ts te : Tok} {Qf : Flow → Shared → Prop}
  (B : Below callerA base [] h₀) (X : (hd.heap_1 w.params).In h₀) (T : Top viewOf (looseW viewOf []) mean mg mb h₀)
  (F : Fr h₀ L s.heap m) (f1 : m (PySem.Str.ofString "deck") = some (.ref DK)) (f2 : m (PySem.Str.ofString "own_marks") = some (.ref OM)) (f3 : m (PySem.Str.ofString "items") = some (.ref c.IT))
  (hIv : InvL w L DK CL OM hm hd' rd xs top lim c) (htop : top ≤ 60) (hx5 : xs.length ≤ 5) (lo : (rd == sysModules) = false) (dH : cH.data = .cell (some (.ref hm)))
  (dS : c.cS.data = .cell (some (.int st ts))) (dE : c.cE.data = .cell (some (.int en te))) (dOM : Dull oOM) (dCL : Dull oCL)
  (N : News h₀ L s.heap ((I, oI) :: lawLed w L DK CL OM hm hd' rd kr oCL oOM cH c))
  (hoff : ∀ p ∈ lawLed w L DK CL OM hm hd' rd kr oCL oOM cH c, p.1 ≠ I)
  (hret : ∀ h' tk' m', Fr h₀ L h' m' → m' (PySem.Str.ofString "deck") = some (.ref DK) → m' (PySem.Str.ofString "own_marks") = some (.ref OM) → m' (PySem.Str.ofString "items") = some (.ref c.IT) →
    News h₀ L h' ((I, oI) :: lawLed w L DK CL OM hm hd' rd kr oCL oOM cH c) → Qf .next { s with heap := h', toks := tk' }) :
  wpAny (model PySem.Challenge.rw_ok0046_01.row.prog w) (callerA.deeper (lawEnv a ccd L)) (execs lapRest (lawEnv a ccd L)) Qf E s := by
  obtain ⟨kd, tkd, nd, IT, ys, its, ki, ms, rO, kvs, cB, cE, cS, cO⟩ := c
  obtain ⟨k0, k1, hI, hch, W, hxs, hnn, hR, hb, hS, hit, ⟨vB, dB⟩, _, _, ⟨vO, dO⟩⟩ := hIv
  dsimp only at *
  have hml : ms.length = xs.length := by rw [← hxs, List.length_map]
  have h64 : kvs.length ≤ 5 := Nat.le_trans (bears_len (isDict_nodup hR) hb) (by omega)
  have e2 := (hS.perm (isDict_nodup hR)).length_eq
  rw [List.length_map, List.length_map] at e2
  have hlen : its.length ≤ 70 := by
    have e1 := marksOf_len its 1
    omega
  have hoN := offN hoff
  simp only [lawLed, cellsOf, homeLed, List.cons_append, List.nil_append, OffN] at hoN
  obtain ⟨i1, i2, i3, i4, i5, i6, i7, i8, i9, i10, i11, i12, i13⟩ := hoN
  have N2 : News h₀ L s.heap (homeLed w hm hd' rd kr rO ++ (marksLed w ms ++ ((I, oI) :: (DK, listOf #[.ref CL, .int kd tkd] nd) :: (CL, oCL) :: (OM, oOM) :: (IT, listOf ys.toArray ki) :: cellsOf L cH ⟨kd, tkd, nd, IT, ys, its, ki, ms, rO, kvs, cB, cE, cS, cO⟩))) :=
    genA (pI := (I, oI)) (P := [(DK, listOf #[.ref CL, .int kd tkd] nd), (CL, oCL), (OM, oOM), (IT, listOf ys.toArray ki), (L + 1 + 1 + 1 + 1 + 1, cB), (L + 1 + 1 + 1 + 1, cE), (L + 1 + 1 + 1, cS), (L + 1 + 1, cO), (L + 1, cH)]) (Q := homeLed w hm hd' rd kr rO) (M := marksLed w ms) N
  have oI' : ∀ p ∈ marksLed w ms, p.1 ≠ I := offN_mem i13
  refine check (ps := []) (cH := cH) (cS := cS) (cE := cE) (IT := IT) (ys := ys) (its := its) (ki := ki) (u := m) (ms := ms) (kvs := kvs) (hm := hm) (hd' := hd') (rd := rd) (kr := kr) (rO := rO) B (fr_name f3 F) X T N2 W ?_ hR hb (by omega) lo (by simp [cellsOf]) dH (by simp [cellsOf]) dS (by simp [cellsOf]) dE (by simp) hI (by omega) hS.nd (by omega) (hS.perm (isDict_nodup hR)) hS.at ?_
  · intro p hp
    have hdl : ∀ q ∈ (DK, listOf #[.ref CL, .int kd tkd] nd) :: (CL, oCL) :: (OM, oOM) :: (IT, listOf ys.toArray ki) :: cellsOf L cH ⟨kd, tkd, nd, IT, ys, its, ki, ms, rO, kvs, cB, cE, cS, cO⟩, Dull q.2 := by
      intro q hq
      simp only [cellsOf, List.mem_cons, List.not_mem_nil, or_false] at hq
      rcases hq with rfl | rfl | rfl | rfl | rfl | rfl | rfl | rfl | rfl
      · exact dull_list ..
      · exact dCL
      · exact dOM
      · exact dull_list ..
      · exact dull_cell dB
      · exact dull_cell dE
      · exact dull_cell dS
      · exact dull_cell dO
      · exact dull_cell dH
    rcases List.mem_cons.mp hp with h | h
    · rw [h]
      refine ⟨⟨fun e => i10 e.symm, fun e => i11 e.symm, fun e => i12 e.symm⟩, fun k hk => ⟨fun e => ?_, fun e => ?_⟩⟩
      · exact oI' (k.x, instObj 87 k.d) (List.mem_flatMap.mpr ⟨k, hk, .head _⟩) e.symm
      · exact oI' (k.d, k.dict w) (List.mem_flatMap.mpr ⟨k, hk, .tail _ (.head _)⟩) e.symm
    · exact off_led N2 (fun q hq => List.mem_append_left _ hq) (fun q hq => List.mem_append_right _ (List.mem_append_left _ hq)) hR (List.mem_append_right _ (List.mem_append_right _ hp)) (hdl p h)
  · intro D h' tk' F' N'
    refine hret h' tk' _ F' ?_ ?_ ?_ ?_
    · rw [if_neg (by decide), if_neg (by decide)]; exact f1
    · rw [if_neg (by decide), if_neg (by decide)]; exact f2
    · rw [if_neg (by decide), if_pos rfl]
    · exact genB (pI := (I, oI)) (P := [(DK, listOf #[.ref CL, .int kd tkd] nd), (CL, oCL), (OM, oOM), (IT, listOf ys.toArray ki), (L + 1 + 1 + 1 + 1 + 1, cB), (L + 1 + 1 + 1 + 1, cE), (L + 1 + 1 + 1, cS), (L + 1 + 1, cO), (L + 1, cH)]) (Q := homeLed w hm hd' rd kr rO) (M := marksLed w ms) N'
end
end

theorem fresh_Perm : True := by
  w_top off
  trivial
section
open PySem PySem.W PyProof.Rows PySem.Calls PySem.Spec
section
variable {h₀ h : Heap} {L : Addr} {p1 p2 p3 p4 p5 p6 p7 p8 p9 pI q1 q2 q3 : Addr × Obj} {M : List (Addr × Obj)}
theorem genL {P R : List (Addr × Obj)} (N : News h₀ L h (P ++ (pI :: R))) : News h₀ L h (pI :: (P ++ R)) := fun p hp => N p (by
  rcases List.mem_cons.mp hp with h | h
  · exact List.mem_append_right _ (h ▸ .head _)
  · rcases List.mem_append.mp h with h | h
    · exact List.mem_append_left _ h
    · exact List.mem_append_right _ (.tail _ h))
theorem genT {P Q M : List (Addr × Obj)} (N : News h₀ L h (P ++ (pI :: (Q ++ M)))) : News h₀ L h (Q ++ (M ++ (pI :: P))) := fun p hp => N p (by
  rcases List.mem_append.mp hp with h | h
  · exact List.mem_append_right _ (.tail _ (List.mem_append_left _ h))
  · rcases List.mem_append.mp h with h | h
    · exact List.mem_append_right _ (.tail _ (List.mem_append_right _ h))
    · rcases List.mem_cons.mp h with h | h
      · exact List.mem_append_right _ (h ▸ .head _)
      · exact List.mem_append_left _ h)
theorem genF {P Q M : List (Addr × Obj)} (N : News h₀ L h (Q ++ (M ++ (pI :: P)))) : News h₀ L h (P ++ (pI :: (Q ++ M))) := fun p hp => N p (by
  rcases List.mem_append.mp hp with h | h
  · exact List.mem_append_right _ (List.mem_append_right _ (.tail _ h))
  · rcases List.mem_cons.mp h with h | h
    · exact List.mem_append_right _ (List.mem_append_right _ (h ▸ .head _))
    · rcases List.mem_append.mp h with h | h
      · exact List.mem_append_left _ h
      · exact List.mem_append_right _ (List.mem_append_left _ h))
theorem toLaw (N : News h₀ L h (p1 :: p2 :: p3 :: p4 :: p5 :: p6 :: p7 :: p8 :: p9 :: pI :: q1 :: q2 :: q3 :: M)) : News h₀ L h (pI :: p1 :: p2 :: p3 :: p4 :: ([p5, p6, p7, p8, p9] ++ ([q1, q2, q3] ++ M))) :=
  genL (P := [p1, p2, p3, p4, p5, p6, p7, p8, p9]) (R := [q1, q2, q3] ++ M) N
theorem newIT {d : Addr × Obj} (N : News h₀ L h (d :: p1 :: p2 :: p3 :: p4 :: M)) : News h₀ L h (p1 :: p2 :: p3 :: d :: M) := fun p hp => N p (by
  simp only [List.mem_cons] at hp ⊢
  rcases hp with h | h | h | h | h <;> simp [h])
theorem toM (N : News h₀ L h (p1 :: p2 :: p3 :: p4 :: p5 :: p6 :: p7 :: p8 :: p9 :: pI :: q1 :: q2 :: q3 :: M)) : News h₀ L h ([q1, q2, q3] ++ (M ++ (pI :: p1 :: p2 :: p3 :: p4 :: [p5, p6, p7, p8, p9]))) :=
  genT (P := [p1, p2, p3, p4, p5, p6, p7, p8, p9]) (Q := [q1, q2, q3]) N
theorem fromM (N : News h₀ L h ([q1, q2, q3] ++ (M ++ (pI :: p1 :: p2 :: p3 :: p4 :: [p5, p6, p7, p8, p9])))) : News h₀ L h (p1 :: p2 :: p3 :: p4 :: p5 :: p6 :: p7 :: p8 :: p9 :: pI :: q1 :: q2 :: q3 :: M) :=
  genF (P := [p1, p2, p3, p4, p5, p6, p7, p8, p9]) (Q := [q1, q2, q3]) N
end
end

theorem fresh_Sel : True := by
  w_top off
  trivial
section
open PySem PySem.W PyProof.Rows PySem.Calls PySem.Spec PyProof.Rows.LCg
section
variable {prog : Program} {w : World} {A : Around} {E : Value → Shared → Prop} {s : Shared} {env : Env} {h₀ : Heap} {L : Nat} {m : PySem.Str → Option Value}
/-- [e for x in xs if test]: ints out -/
theorem CSrc.selI {α : Type} {x : PySem.Str} {px : Pos} {elt c : PySem.Expr} {scope : Scope} {cl : List (PySem.Str × Addr)} {m' : Nat → PySem.Str → Option Value} {Qe : Nat → Shared → Prop} {s₁ : Shared}
    {l : Nat} {ol : Obj} {k : Nat} {vs : List Value} (as : List α) (is : α → Value → Prop) (f : α → Int) (p : α → Bool) (led : List (Addr × Obj)) (hh : A.handled = none) (hl : s₁.heap.get? l = some ol) (hc : ol.cls = .type "list") (hd : ol.data = .seq vs.toArray k) (hsz : vs.length ≤ sizeLine) (hL : l ≠ L)
    (hsrc : h₀.get? l = some ol ∨ (l, ol) ∈ led) (F : Fr h₀ L s₁.heap m) (N : News h₀ L s₁.heap led) (hlen : vs.length = as.length) (hI : ∀ (i : Nat) (v : Value), vs[i]? = some v → ∃ a, as[i]? = some a ∧ is a v)
    (hkind : scope.kind = .function) (hx : ∀ C, (compEnvC scope cl C env).kindOf x = some .local)
    (test : ∀ a v ys (C D I : Nat) oL oI (mC : PySem.Str → Option Value) h tk (E' : Value → Shared → Prop), a ∈ as → is a v → (∀ p ∈ led, p.1 ≠ L ∧ p.1 ≠ D ∧ p.1 ≠ I) → L ≠ C → L ≠ D → L ≠ I → D ≠ C → I ≠ C → D ≠ I → Fr h₀ C h (fun y => if y = x then some v else mC y) → News h₀ C h ((L, oL) :: (D, lst ys) :: (I, oI) :: led) →
      wpAny (model prog w) A (isTrue c (compEnvC scope cl C env) (eval c (compEnvC scope cl C env))) (TestEnd h₀ C x v ((L, oL) :: (D, lst ys) :: (I, oI) :: led) { s₁ with heap := h, toks := tk } (p a)) E' { s₁ with heap := h, toks := tk })
    (elm : ∀ a v ys (C D I : Nat) oL oI (mC : PySem.Str → Option Value) h tk (E' : Value → Shared → Prop), a ∈ as → is a v → (∀ p ∈ led, p.1 ≠ L ∧ p.1 ≠ D ∧ p.1 ≠ I) → L ≠ C → L ≠ D → L ≠ I → D ≠ C → I ≠ C → D ≠ I → Fr h₀ C h (fun y => if y = x then some v else mC y) → News h₀ C h ((L, oL) :: (D, lst ys) :: (I, oI) :: led) →
      wpAny (model prog w) A (eval elt (compEnvC scope cl C env)) (fun y s₅ => ∃ t h' tk' mC', y = .int (f a) t ∧ s₅ = { s₁ with heap := h', toks := tk' } ∧ Fr h₀ C h' mC' ∧ News h₀ C h' ((L, oL) :: (D, lst ys) :: (I, oI) :: led)) E' { s₁ with heap := h, toks := tk })
    (done : ∀ (D : Nat) h tk ys, IntsAre ys ((as.filter p).map f) → Fr h₀ L h (m' D) → News h₀ L h ((D, lst ys) :: led) → (∀ p ∈ led, p.1 ≠ D) → Qe D { s₁ with heap := h, toks := tk }) :
    CSrc prog w A h₀ L m (.Name x px) elt [c] scope cl env m' Qe (.ref l) s₁ := by
  refine CSrc.intro (fun i ys nx => nx = led ∧ IntsAre ys (((as.take i).filter p).map f)) hh hl hc hd hsz hL (fun I v s i Q E _ h => wpAny_pure h) (hsrc.imp id fun h i ys nx hj => hj.1 ▸ h) F N ⟨rfl, .nil⟩ ?_ ?_
  · intro i v hv ys C D I oL oI nx mC h tk E' ⟨hnx, hys⟩ hoff n1 n2 n3 n4 n5 n6 F1 N1
    subst hnx
    obtain ⟨a, ha, hav⟩ := hI i v hv
    have hkd : (compEnvC scope cl C env).scope.kind = .function := hkind
    refine assignC F1 N1 (hx C) (by rw [hkd]; rfl) ?_
    intro h1 F2 N2
    refine wpAny_tests_one (wpAny_mono (test a v ys C D I oL oI mC h1 _ E' (List.mem_of_getElem? ha) hav hoff n1 n2 n3 n4 n5 n6 F2 N2) (fun ok s₄ h₄ => ?_) fun _ _ e => e)
    obtain ⟨rfl, h5, tk5, m5, rfl, F5, hx5, N5⟩ := h₄
    have hs : as.take (i + 1) = as.take i ++ [a] := by rw [List.take_add_one, ha]; rfl
    cases hp : p a with
    | true =>
      simp only [if_true]
      have F6 : Fr h₀ C h5 (fun y => if y = x then some v else m5 y) := by
        have e : (fun y => if y = x then some v else m5 y) = m5 := by
          funext y
          by_cases h : y = x
          · rw [if_pos h, h, hx5]
          · rw [if_neg h]
        rw [e]; exact F5
      refine wpAny_mono (elm a v ys C D I oL oI m5 h5 _ E' (List.mem_of_getElem? ha) hav hoff n1 n2 n3 n4 n5 n6 F6 N5) (fun y s₅ h₅ => ?_) fun _ _ e => e
      obtain ⟨t, h6, tk6, m6, rfl, rfl, F7, N7⟩ := h₅
      refine CEnd.intro F7 N7 (fun p hp => hp) hoff ⟨rfl, ?_⟩
      rw [hs, List.filter_append]
      simp only [List.filter_cons, hp, if_true, List.filter_nil, List.map_append, List.map_cons, List.map_nil]
      exact IntsAre.append hys (.cons _ t .nil)
    | false =>
      simp only [Bool.false_eq_true, if_false]
      refine CEnd.intro F5 N5 (fun p hp => hp) hoff ⟨rfl, ?_⟩
      rw [hs, List.filter_append]
      simp only [List.filter_cons, hp, Bool.false_eq_true, if_false, List.filter_nil, List.append_nil]
      exact hys
  · intro D h tk ys nx F1 N1 hoff ⟨hnx, hys⟩
    subst hnx
    rw [hlen, List.take_length] at hys
    exact done D h tk ys hys F1 N1 hoff
end
end

theorem fresh_CFor : True := by
  w_top off
  trivial
section
open PySem PySem.W PyProof.Rows PySem.Calls PySem.Spec PyProof.Rows.LCg
section
variable {prog : Program} {w : World} {A : Around} {E : Value → Shared → Prop} {s : Shared} {env : Env} {h₀ : Heap} {x : PySem.Str} {body : List Stmt} {Q : Flow → Shared → Prop}
/-- the end of a turn of a for whose target is a cell's -/
def TurnC {σ : Type} (h₀ : Heap) (L C I : Addr) (oI : Obj) (Led : σ → List (Addr × Obj)) (ps : σ → List (PySem.Str × Value)) (P : σ → Prop) (s₁ : Shared) (Q : Flow → Shared → Prop) (f : Flow) (s₂ : Shared) : Prop :=
  match f with
  | .ret v => Q (.ret v) s₂
  | .brk => Q .next s₂
  | _ => ∃ h' tk m' c' oC v', s₂ = { s₁ with heap := h', toks := tk } ∧ Fr h₀ L h' m' ∧ News h₀ L h' ((I, oI) :: (C, oC) :: Led c') ∧ (∀ p ∈ Led c', p.1 ≠ I ∧ p.1 ≠ C) ∧ oC.data = .cell v' ∧ (∀ p ∈ ps c', m' p.1 = some p.2) ∧ P c'
/-- a for over a list of the ledger, its target a cell's -/
def CellFor (prog : Program) (w : World) (A : Around) (h₀ : Heap) (env : Env) (C : Addr) (body : List Stmt) (Q : Flow → Shared → Prop) (E : Value → Shared → Prop) (xv : Value) (s₁ : Shared) : Prop :=
  ∃ (σ : Type) (Led : σ → List (Addr × Obj)) (ps : σ → List (PySem.Str × Value)) (P : Nat → σ → Prop) (c₀ : σ) (l : Addr) (ol : Obj) (k : Nat) (vs : List Value) (m₀ : PySem.Str → Option Value) (oC : Obj) (v₀ : Option Value),
    xv = .ref l ∧ A.handled = none ∧ s₁.heap.get? l = some ol ∧ ol.cls = .type "list" ∧ ol.data = .seq vs.toArray k ∧ (∀ c, (l, ol) ∈ Led c) ∧ Fr h₀ env.locals s₁.heap m₀ ∧ News h₀ env.locals s₁.heap ((C, oC) :: Led c₀) ∧ (∀ p ∈ Led c₀, p.1 ≠ C) ∧ oC.data = .cell v₀ ∧ (∀ p ∈ ps c₀, m₀ p.1 = some p.2) ∧ P 0 c₀ ∧
    (∀ i v (c : σ) (u : PySem.Str → Option Value) I oI oC h tk, vs[i]? = some v → P i c → (∀ p ∈ Led c, p.1 ≠ I ∧ p.1 ≠ C) → C ≠ I → Fr h₀ env.locals h (kstB u (ps c)) → oC.data = .cell (some v) → News h₀ env.locals h ((I, oI) :: (C, oC) :: Led c) →
      wpAny (model prog w) A (execs body env) (TurnC h₀ env.locals C I oI Led ps (P (i + 1)) { s₁ with heap := h, toks := tk } Q) E { s₁ with heap := h, toks := tk }) ∧
    (∀ (c : σ) (u : PySem.Str → Option Value) h tk oC v', P vs.length c → Fr h₀ env.locals h (kstB u (ps c)) → oC.data = .cell v' → News h₀ env.locals h ((C, oC) :: Led c) → (∀ p ∈ Led c, p.1 ≠ C) → Q .next { s₁ with heap := h, toks := tk })
theorem CellFor.intro {C : Addr} {s₁ : Shared} {σ : Type} {l : Addr} {ol : Obj} {k : Nat} {vs : List Value} {m₀ : PySem.Str → Option Value} {oC : Obj} {v₀ : Option Value} (Led : σ → List (Addr × Obj)) (ps : σ → List (PySem.Str × Value)) (P : Nat → σ → Prop) (c₀ : σ)
    (hh : A.handled = none) (hl : s₁.heap.get? l = some ol) (hc : ol.cls = .type "list") (hd : ol.data = .seq vs.toArray k) (hsrc : ∀ c, (l, ol) ∈ Led c)
    (F : Fr h₀ env.locals s₁.heap m₀) (N : News h₀ env.locals s₁.heap ((C, oC) :: Led c₀)) (hoff : ∀ p ∈ Led c₀, p.1 ≠ C) (dC : oC.data = .cell v₀) (hk : ∀ p ∈ ps c₀, m₀ p.1 = some p.2) (hp : P 0 c₀)
    (turn : ∀ i v (c : σ) (u : PySem.Str → Option Value) I oI oC h tk, vs[i]? = some v → P i c → (∀ p ∈ Led c, p.1 ≠ I ∧ p.1 ≠ C) → C ≠ I → Fr h₀ env.locals h (kstB u (ps c)) → oC.data = .cell (some v) → News h₀ env.locals h ((I, oI) :: (C, oC) :: Led c) →
      wpAny (model prog w) A (execs body env) (TurnC h₀ env.locals C I oI Led ps (P (i + 1)) { s₁ with heap := h, toks := tk } Q) E { s₁ with heap := h, toks := tk })
    (done : ∀ (c : σ) (u : PySem.Str → Option Value) h tk oC v', P vs.length c → Fr h₀ env.locals h (kstB u (ps c)) → oC.data = .cell v' → News h₀ env.locals h ((C, oC) :: Led c) → (∀ p ∈ Led c, p.1 ≠ C) → Q .next { s₁ with heap := h, toks := tk }) :
    CellFor prog w A h₀ env C body Q E (.ref l) s₁ := ⟨σ, Led, ps, P, c₀, l, ol, k, vs, m₀, oC, v₀, rfl, hh, hl, hc, hd, hsrc, F, N, hoff, dC, hk, hp, turn, done⟩
theorem TurnC.intro {σ : Type} {Led : σ → List (Addr × Obj)} {ps : σ → List (PySem.Str × Value)} {P : σ → Prop} {L C I : Addr} {oI oC : Obj} {s₁ : Shared} {h' : Heap} {tk : Nat} {m' : PySem.Str → Option Value} {v' : Option Value} (c : σ)
    (F : Fr h₀ L h' m') (N : News h₀ L h' ((I, oI) :: (C, oC) :: Led c)) (ho : ∀ p ∈ Led c, p.1 ≠ I ∧ p.1 ≠ C) (hd : oC.data = .cell v') (hk : ∀ p ∈ ps c, m' p.1 = some p.2) (hp : P c) :
    TurnC h₀ L C I oI Led ps P s₁ Q .next { s₁ with heap := h', toks := tk } := ⟨h', tk, m', c, oC, v', rfl, F, N, ho, hd, hk, hp⟩
theorem forC {C : Addr} {px pos : Pos} {iter : PySem.Expr} (hx : env.kindOf x = some .cell) (hk : env.scope.kind = .function) (hc : env.cells.lookup x = some C)
    (h : wpAny (model prog w) A (eval iter env) (CellFor prog w A h₀ env C body Q E) E s)
    (hs : ∀ x, foldedSetIterable iter env x = pure x := by intro _; rfl) (hE : PassesOwn (model prog w) A env E := by passes_own) :
    wpAny (model prog w) A (exec (.For (.Name x px) iter body [] pos) env) Q E s := by
  refine wpAny_For (wpAny_mono h (fun xv s₁ h₁ => ?_) fun _ _ e => e) hs
  obtain ⟨σ, Led, ps, P, c₀, l, ol, k, vs, m₀, oC, v₀, rfl, hh, hl, hcl, hd, hsrc, F, N, hoff, dC, hkk, hp, turn, done⟩ := h₁
  have hls : s₁.heap.IsList l vs.toArray := ⟨_, hl, hcl, k, hd⟩
  have hne : l ≠ s₁.heap.objs.size := Nat.ne_of_lt (Heap.lt_size hl)
  refine wpAny_pyIter_list hls ?_
  have W := Walks.list (prog := prog) (w := w) hh s₁.heap.objs.size l hne vs.toArray
  have hI0 : h₀.get? s₁.heap.objs.size = none := next_is_new F
  have hIL : s₁.heap.objs.size ≠ env.locals := fun e => absurd F.ns.lt (e ▸ Nat.lt_irrefl _)
  have hCI : C ≠ s₁.heap.objs.size := Nat.ne_of_lt (Heap.lt_size (N (C, oC) (.head _)).1)
  generalize hI : s₁.heap.objs.size = I at *
  have push : ∀ b o, s₁.heap.get? b = some o → (s₁.heap.push { cls := .type "list_iterator", data := .fields #[.ref l, .int 0 0] }).get? b = some o := fun b o e => Heap.get?_push_of_some _ e
  refine codeAny_forLoop
    (fun n s' => ∃ h' tk m' c i oC v', s' = { s₁ with heap := h', toks := tk } ∧ h'.IsListIter I l i ∧ Fr h₀ env.locals h' m' ∧ News h₀ env.locals h' ((C, oC) :: Led c) ∧ (∀ p ∈ Led c, p.1 ≠ I ∧ p.1 ≠ C) ∧ oC.data = .cell v' ∧ (∀ p ∈ ps c, m' p.1 = some p.2) ∧ P i c ∧ i ≤ vs.length ∧ n = vs.length + 1 - i) ?_ (vs.length + 1)
    ⟨_, _, m₀, c₀, 0, oC, v₀, rfl, ⟨_, hI ▸ Heap.get?_push_size _ rfl, rfl, rfl⟩, F.push _, fun p hp => ⟨push _ _ (N p hp).1, (N p hp).2⟩, fun p hp => ⟨fun e => absurd (Heap.lt_size (N p (.tail _ hp)).1) (by rw [hI, e]; exact Nat.lt_irrefl _), hoff p hp⟩, dC, hkk, hp, Nat.zero_le _, rfl⟩
  rintro n s' ⟨h', tk, m', c, i, oC', v', rfl, hit, F', N', off', dC', hk', hP, hi, rfl⟩
  have hl' : h'.IsList l vs.toArray := ⟨ol, (N' _ (.tail _ (hsrc c))).1, hcl, k, hd⟩
  by_cases hlt : i < vs.length
  · refine W.item i _ _ _ (by simpa using hlt) ⟨hit, hl'⟩ fun v h₁ tk₁ hPv hst₁ hk₁ => ?_
    have up : ∀ (b : Nat) o, b ≠ I → h'.get? b = some o → h₁.get? b = some o := fun b o hb e => hk₁ b o (by simpa using hb) e
    obtain ⟨oI, hoI, hcI, hdI⟩ := hst₁.1
    have F₁ : Fr h₀ env.locals h₁ m' := ⟨F'.ns.at' fun o e => up _ o (Ne.symm hIL) e, fun b o e => up b o (fun q => by rw [q, hI0] at e; cases e) (F'.keep b o e), F'.above⟩
    have hmC := N' (C, oC') (.head _)
    refine wpAny_assign_Name (wpAny_storeName_cell hk hx hc ⟨oC', up _ _ hCI hmC.1, dC'⟩ fun h₂ hv hs₂ => ?_)
    obtain ⟨oC₂, hoC₂, dC₂⟩ := hv
    have F₂ : Fr h₀ env.locals h₂ m' := F₁.change hs₂ hmC.2.1 hmC.2.2
    have N₂ : News h₀ env.locals h₂ ((I, oI) :: (C, oC₂) :: Led c) := fun p hp => by
      rcases List.mem_cons.mp hp with rfl | hp
      · exact ⟨(hs₂.2 _ (Ne.symm hCI)).trans hoI, hIL, hI0⟩
      · rcases List.mem_cons.mp hp with rfl | hp
        · exact ⟨hoC₂, hmC.2⟩
        · have z := N' p (.tail _ hp)
          exact ⟨(hs₂.2 _ (off' p hp).2).trans (up _ _ (off' p hp).1 z.1), z.2⟩
    have hv : vs[i]? = some v := by simpa using hPv
    refine wpAny_mono (wpAny_passesOwn hE (turn i v c m' I oI oC₂ h₂ tk₁ hv hP off' hCI (ku_fr hk' F₂) dC₂ N₂)) (fun f s₃ h₃ => ?_) fun _ _ e => e
    have fin : TurnC h₀ env.locals C I oI Led ps (P (i + 1)) { s₁ with heap := h₂, toks := tk₁ } Q .next s₃ → ∃ m, m < vs.length + 1 - i ∧ ∃ h' tk m' c i oC v', s₃ = { s₁ with heap := h', toks := tk } ∧ h'.IsListIter I l i ∧ Fr h₀ env.locals h' m' ∧ News h₀ env.locals h' ((C, oC) :: Led c) ∧ (∀ p ∈ Led c, p.1 ≠ I ∧ p.1 ≠ C) ∧ oC.data = .cell v' ∧ (∀ p ∈ ps c, m' p.1 = some p.2) ∧ P i c ∧ i ≤ vs.length ∧ m = vs.length + 1 - i := by
      rintro ⟨hp3, tk₃, m₃, c₃, oC₃, v₃, rfl, F₃, N₃, off₃, dC₃, hk₃, hP₃⟩
      exact ⟨vs.length + 1 - (i + 1), by omega, hp3, tk₃, m₃, c₃, i + 1, oC₃, v₃, rfl, ⟨oI, (N₃ (I, oI) (.head _)).1, hcI, hdI⟩, F₃, fun p hp => N₃ p (.tail _ hp), off₃, dC₃, hk₃, hP₃, hlt, rfl⟩
    cases f with
    | ret v => exact h₃
    | brk => exact h₃
    | cont => exact fin h₃
    | next => exact fin h₃
  · have hin : i = vs.length := by omega
    subst hin
    refine W.done _ _ _ (by rw [List.size_toArray]; exact ⟨hit, hl'⟩) fun h₁ tk₁ hk₁ => wpAny_execs_nil ?_
    have up : ∀ (b : Nat) o, b ≠ I → h'.get? b = some o → h₁.get? b = some o := fun b o hb e => hk₁ b o (by simpa using hb) e
    have F₁ : Fr h₀ env.locals h₁ m' := ⟨F'.ns.at' fun o e => up _ o (Ne.symm hIL) e, fun b o e => up b o (fun q => by rw [q, hI0] at e; cases e) (F'.keep b o e), F'.above⟩
    exact done c m' h₁ tk₁ oC' v' hP (ku_fr hk' F₁) dC' (fun p hp => by
      rcases List.mem_cons.mp hp with rfl | hp
      · exact ⟨up _ _ hCI (N' _ (.head _)).1, (N' _ (.head _)).2⟩
      · exact ⟨up _ _ (off' p hp).1 (N' p (.tail _ hp)).1, (N' p (.tail _ hp)).2⟩) fun p hp => (off' p hp).2
end
end

theorem fresh_LapT : True := by
  w_top off
  trivial
section
open PySem PySem.W PyProof.Rows PySem.Calls PySem.Spec PyProof.Rows.LCg
section
variable {prog : Program} {w : World} {A : Around} {E : Value → Shared → Prop} {s : Shared}
/-- xs[i], i in bounds -/
theorem item_list {l : Addr} {items : Array Value} {k : Int} {t : Tok} {x : Value} {value slice : PySem.Expr} {Q : Value → Shared → Prop} (hl : s.heap.IsList l items) (h0 : 0 ≤ k) (hfit : k < 2 ^ 63) (hx : items[k.toNat]? = some x) (h : Q x s)
    (hs : subscripted slice false (.ref l) (.int k t) = operate [.ref l, .int k t] (getItem (.ref l) (.int k t)) := by with_unfolding_all rfl) :
    wpAny (model prog w) A (subscriptTail value slice (.ref l) (.int k t)) Q E s :=
  tail_any hl.typeIs slot_list_getitem.lookup (wpAny_getItem_list hl h0 hfit hx h) hs
end
theorem at_x {ms : List Mk} {xs : List Addr} (h : ms.map Mk.x = xs) (i : Nat) (v : Value) (hv : (xs.map Value.ref)[i]? = some v) : ∃ a, ms[i]? = some a ∧ v = .ref a.x := by
  subst h
  rw [List.map_map, List.getElem?_map] at hv
  obtain ⟨a, ha, e⟩ := Option.map_eq_some_iff.mp hv
  exact ⟨a, ha, e.symm⟩
theorem at_lt {ms : List Mk} {xs : List Addr} (h : ms.map Mk.x = xs) {i : Nat} (hi : i < xs.length) : ∃ k ∈ ms, (xs.map Value.ref)[i]? = some (.ref k.x) := by
  subst h
  rw [List.length_map] at hi
  exact ⟨ms[i], List.getElem_mem hi, by rw [List.map_map, List.getElem?_map, List.getElem?_eq_getElem hi]; rfl⟩
theorem movers_mem {ms : List Mk} {g : Mk → Mk} {b : Bool} (hg : ∀ k ∈ ms, (g k).num = k.num ∧ (g k).adv = k.adv) : ∀ q, q ∈ ((ms.map g).filter (fun k => b || k.adv)).map Mk.num ↔ ∃ m ∈ ms, m.num = q ∧ (b = true ∨ m.adv = true) := by
  intro q
  simp only [List.mem_map, List.mem_filter, Bool.or_eq_true]
  constructor
  · rintro ⟨k, ⟨⟨k', hk', rfl⟩, h⟩, rfl⟩
    rw [(hg k' hk').2] at h
    exact ⟨k', hk', (hg k' hk').1.symm, h⟩
  · rintro ⟨k, hk, rfl, h⟩
    exact ⟨g k, ⟨⟨k, hk, rfl⟩, by rw [(hg k hk).2]; exact h⟩, (hg k hk).1⟩
end

theorem fresh_LapP : True := by
  w_top off
  trivial
section
open PySem PySem.W PyProof.Rows PySem.Calls PySem.Spec PyProof.Rows.LCg
section
variable {w : World} {h₀ h : Heap} {L : Addr} {hm hd' rd : Nat} {ms : List Mk} {k : Mk} {H R : List (Addr × Obj)} {kvs : List (Int × Value)}
theorem openM (hk : k ∈ ms) (N : News h₀ L h (H ++ (marksLed w ms ++ R))) : News h₀ L h (H ++ (k.objs w ++ (others w ms id k.num ++ R))) := fun p hp => N p (by
  rcases List.mem_append.mp hp with h | h
  · exact List.mem_append_left _ h
  · refine List.mem_append_right _ ?_
    rcases List.mem_append.mp h with h | h
    · exact List.mem_append_left _ (List.mem_flatMap.mpr ⟨k, hk, h⟩)
    · rcases List.mem_append.mp h with h | h
      · exact List.mem_append_left _ (others_sub h)
      · exact List.mem_append_right _ h)
theorem closeI (W : Apart hm hd' rd ms) (hk : k ∈ ms) (N : News h₀ L h (H ++ (k.objs w ++ (others w ms id k.num ++ R)))) : News h₀ L h (H ++ (marksLed w ms ++ R)) := fun p hp => N p (by
  rcases List.mem_append.mp hp with h | h
  · exact List.mem_append_left _ h
  · refine List.mem_append_right _ ?_
    rcases List.mem_append.mp h with h | h
    · rcases marks_split W hk h with h | h
      · exact List.mem_append_left _ h
      · exact List.mem_append_right _ (List.mem_append_left _ h)
    · exact List.mem_append_right _ (List.mem_append_right _ h))
theorem closeM (W : Apart hm hd' rd ms) (hk : k ∈ ms) {a : Int} {t : Tok} (N : News h₀ L h (H ++ (({ k with pos := a, tp := t } : Mk).objs w ++ (others w ms id k.num ++ R)))) : News h₀ L h (H ++ (marksLed w (ms.map (setTo k.num a t)) ++ R)) := fun p hp => N p (by
  rcases List.mem_append.mp hp with h | h
  · exact List.mem_append_left _ h
  · refine List.mem_append_right _ ?_
    rcases List.mem_append.mp h with h | h
    · obtain ⟨m, hm, h⟩ := mem_marksLed.mp h
      by_cases e : m.num = k.num
      · have := W.num m hm k hk e
        subst this
        unfold setTo at h
        rw [if_pos rfl] at h
        exact List.mem_append_left _ h
      · refine List.mem_append_right _ (List.mem_append_left _ (mem_others.mpr ⟨m, hm, e, ?_⟩))
        unfold setTo at h
        rw [if_neg e] at h
        exact h
    · exact List.mem_append_right _ (List.mem_append_right _ h))
theorem rest_off (W : Apart hm hd' rd ms) (hk : k ∈ ms) (hR : ∀ p ∈ R, (p.1 ≠ hm ∧ p.1 ≠ hd' ∧ p.1 ≠ rd) ∧ ∀ k ∈ ms, p.1 ≠ k.x ∧ p.1 ≠ k.d) : ∀ p ∈ others w ms id k.num ++ R, (p.1 ≠ hm ∧ p.1 ≠ hd' ∧ p.1 ≠ rd) ∧ p.1 ≠ k.x ∧ p.1 ≠ k.d := by
  intro p hp
  rcases List.mem_append.mp hp with h | h
  · have h2 := others_off W (w := w) (f := fun x _ => x) (S := []) (g := id) mv_id hk p h
    exact ⟨marks_off W p (others_sub h), h2 k.x (.head _), h2 k.d (.tail _ (.head _))⟩
  · exact ⟨(hR p h).1, (hR p h).2 k hk⟩
theorem nodup5 (W : Apart hm hd' rd ms) (hk : k ∈ ms) : [hm, hd', rd, k.x, k.d].Nodup := by
  have h1 := W.home
  have h2 := W.self k hk
  have h3 := W.away k hk
  simp only [List.nodup_cons, List.mem_cons, List.not_mem_nil, or_false, not_or, not_false_eq_true, List.nodup_nil, and_true]
  exact ⟨⟨h1.1, h1.2.1, fun e => h3.1.1 e.symm, fun e => h3.2.1 e.symm⟩, ⟨h1.2.2, fun e => h3.1.2.1 e.symm, fun e => h3.2.2.1 e.symm⟩, ⟨fun e => h3.1.2.2 e.symm, fun e => h3.2.2.2 e.symm⟩, h2⟩
theorem bears_stored (hb : Bears kvs ms) (hk : k ∈ ms) : Bears (stored kvs k.num (.ref k.x)) ms := by
  intro q v hq
  unfold stored at hq
  split at hq
  · obtain ⟨z, hz, e⟩ := List.mem_map.mp hq
    by_cases e2 : z.1 = k.num
    · rw [if_pos e2] at e
      obtain ⟨e3, e4⟩ := Prod.ext_iff.mp e
      dsimp only at e3 e4
      exact ⟨k, hk, by rw [← e3, e2], e4.symm⟩
    · rw [if_neg e2] at e
      exact hb q v (e ▸ hz)
  · rcases List.mem_append.mp hq with h | h
    · exact hb q v h
    · obtain ⟨rfl, rfl⟩ : q = k.num ∧ v = Value.ref k.x := by simpa using h
      exact ⟨k, hk, rfl, rfl⟩
theorem bears_without (hb : Bears kvs ms) {q : Int} : Bears (without kvs q) ms := fun a v h => hb a v (List.mem_filter.mp h).1
variable {p1 p2 p3 p4 p5 p6 p7 p8 p9 pI q1 q2 q3 d : Addr × Obj} {M : List (Addr × Obj)}
theorem toMD (N : News h₀ L h (d :: p1 :: p2 :: p3 :: p4 :: p5 :: p6 :: p7 :: p8 :: p9 :: pI :: q1 :: q2 :: q3 :: M)) : News h₀ L h ([q1, q2, q3] ++ (M ++ (d :: pI :: p1 :: p2 :: p3 :: p4 :: [p5, p6, p7, p8, p9]))) :=
  fun p hp => by
    have N2 := genT (P := [d, p1, p2, p3, p4, p5, p6, p7, p8, p9]) (Q := [q1, q2, q3]) N
    rcases List.mem_append.mp hp with h | h
    · exact N2 p (List.mem_append_left _ h)
    · rcases List.mem_append.mp h with h | h
      · exact N2 p (List.mem_append_right _ (List.mem_append_left _ h))
      · rcases List.mem_cons.mp h with h | h
        · exact N2 p (List.mem_append_right _ (List.mem_append_right _ (h ▸ .tail _ (.head _))))
        · rcases List.mem_cons.mp h with h | h
          · exact N2 p (List.mem_append_right _ (List.mem_append_right _ (h ▸ .head _)))
          · exact N2 p (List.mem_append_right _ (List.mem_append_right _ (.tail _ (.tail _ h))))
theorem fromMD (N : News h₀ L h ([q1, q2, q3] ++ (M ++ (d :: pI :: p1 :: p2 :: p3 :: p4 :: [p5, p6, p7, p8, p9])))) : News h₀ L h (d :: p1 :: p2 :: p3 :: p4 :: p5 :: p6 :: p7 :: p8 :: p9 :: pI :: q1 :: q2 :: q3 :: M) :=
  fun p hp => by
    have N2 := genF (pI := d) (P := [pI, p1, p2, p3, p4, p5, p6, p7, p8, p9]) (Q := [q1, q2, q3]) N
    have h10 : p ∈ [d] ++ ([p1, p2, p3, p4, p5, p6, p7, p8, p9] ++ (pI :: (q1 :: q2 :: q3 :: M))) := hp
    rcases List.mem_append.mp h10 with h | h
    · exact N2 p (List.mem_append_right _ (by rw [List.mem_singleton.mp h]; exact .head _))
    · rcases List.mem_append.mp h with h | h
      · exact N2 p (List.mem_append_left _ (.tail _ h))
      · rcases List.mem_cons.mp h with h | h
        · exact N2 p (List.mem_append_left _ (h ▸ .head _))
        · exact N2 p (List.mem_append_right _ (.tail _ h))
end
end

theorem fresh_Lap : True := by
  w_top off
  trivial
section
open PySem PySem.W PyProof.Rows PySem.Calls PySem.Spec PyProof.Rows.LCg
local macro_rules | `(tactic| walk_at "Mine.stop") => `(tactic| (with_reducible show Exists _))
local macro_rules | `(tactic| walk_at "Mine.stop") => `(tactic| (with_reducible show wpAny _ _ (execs (Stmt.Assign [Expr.Name (PySem.Str.ofString "due") _] _ _ :: _) _) _ _ _))
theorem marks_off_map {w : World} {ms : List Mk} {g : Mk → Mk} {I : Nat} (hg : ∀ k ∈ ms, (g k).x = k.x ∧ (g k).d = k.d) (h : ∀ p ∈ marksLed w ms, p.1 ≠ I) : ∀ p ∈ marksLed w (ms.map g), p.1 ≠ I := by
  intro p hp
  obtain ⟨k, hk, hp'⟩ := mem_marksLed.mp hp
  rcases objs_addr hp' with e | e <;> rw [e]
  · rw [(hg k hk).1]; exact h (k.x, instObj 87 k.d) (List.mem_flatMap.mpr ⟨k, hk, .head _⟩)
  · rw [(hg k hk).2]; exact h (k.d, k.dict w) (List.mem_flatMap.mpr ⟨k, hk, .tail _ (.head _)⟩)
theorem xs_map {ms : List Mk} {g : Mk → Mk} {xs : List Addr} (hg : ∀ k ∈ ms, (g k).x = k.x) (h : ms.map Mk.x = xs) : (ms.map g).map Mk.x = xs := by
  rw [List.map_map, ← h]
  exact List.map_congr_left fun k hk => hg k hk
theorem nn_map {ms : List Mk} {g : Mk → Mk} (hg : ∀ k ∈ ms, (g k).num = k.num) (h : ∀ m ∈ ms, 0 ≤ m.num) : ∀ m ∈ ms.map g, 0 ≤ m.num := by
  intro m hm
  obtain ⟨k, hk, rfl⟩ := List.mem_map.mp hm
  rw [hg k hk]; exact h k hk
theorem bears_map {kvs : List (Int × Value)} {ms : List Mk} {g : Mk → Mk} (hg : ∀ k ∈ ms, (g k).num = k.num ∧ (g k).x = k.x) (h : Bears kvs ms) : Bears kvs (ms.map g) := by
  intro q v hq
  obtain ⟨m, hm, e1, e2⟩ := h q v hq
  exact ⟨g m, List.mem_map.mpr ⟨m, hm, rfl⟩, by rw [(hg m hm).1, e1], by rw [(hg m hm).2, e2]⟩
theorem own_off {w : World} {h₀ h : Heap} {L DK CL OM hm hd' rd : Nat} {kr : Tok} {oOM oCL cH : Obj} {I : Nat} {oI : Obj} {kvs : List (Int × Value)} {c : St} {vB vE vS vO vH : Option Value}
  (N : News h₀ L h ((I, oI) :: lawLed w L DK CL OM hm hd' rd kr oCL oOM cH c)) (hoff : ∀ p ∈ lawLed w L DK CL OM hm hd' rd kr oCL oOM cH c, p.1 ≠ I) (hR : c.rO.IsDictOf (intKind PySem.Challenge.rw_ok0046_01.row.prog w) kvs)
  (dOM : Dull oOM) (dCL : Dull oCL) (dB : c.cB.data = .cell vB) (dE : c.cE.data = .cell vE) (dS : c.cS.data = .cell vS) (dO : c.cO.data = .cell vO) (dH : cH.data = .cell vH) :
  ∀ a ∈ [I, DK, CL, OM, c.IT, L + 1 + 1 + 1 + 1 + 1, L + 1 + 1 + 1 + 1, L + 1 + 1 + 1, L + 1 + 1, L + 1], (a ≠ hm ∧ a ≠ hd' ∧ a ≠ rd) ∧ ∀ k ∈ c.ms, a ≠ k.x ∧ a ≠ k.d := by
  intro a ha
  have hH : ∀ p ∈ homeLed w hm hd' rd kr c.rO, p ∈ lawLed w L DK CL OM hm hd' rd kr oCL oOM cH c := fun p hp => .tail _ (.tail _ (.tail _ (.tail _ (List.mem_append_right _ (List.mem_append_left _ hp)))))
  have hM : ∀ p ∈ marksLed w c.ms, p ∈ lawLed w L DK CL OM hm hd' rd kr oCL oOM cH c := fun p hp => .tail _ (.tail _ (.tail _ (.tail _ (List.mem_append_right _ (List.mem_append_right _ hp)))))
  rcases List.mem_cons.mp ha with rfl | ha
  · refine ⟨⟨fun e => hoff _ (hH _ (.head _)) e.symm, fun e => hoff _ (hH _ (.tail _ (.head _))) e.symm, fun e => hoff _ (hH _ (.tail _ (.tail _ (.head _)))) e.symm⟩, fun k hk => ⟨fun e => ?_, fun e => ?_⟩⟩
    · exact hoff _ (hM (k.x, instObj 87 k.d) (List.mem_flatMap.mpr ⟨k, hk, .head _⟩)) e.symm
    · exact hoff _ (hM (k.d, k.dict w) (List.mem_flatMap.mpr ⟨k, hk, .tail _ (.head _)⟩)) e.symm
  · have key : ∀ p ∈ lawLed w L DK CL OM hm hd' rd kr oCL oOM cH c, Dull p.2 → (p.1 ≠ hm ∧ p.1 ≠ hd' ∧ p.1 ≠ rd) ∧ ∀ k ∈ c.ms, p.1 ≠ k.x ∧ p.1 ≠ k.d := fun p hp hd => off_led (News.tl N) hH hM hR hp hd
    simp only [List.mem_cons, List.not_mem_nil, or_false] at ha
    rcases ha with rfl | rfl | rfl | rfl | rfl | rfl | rfl | rfl | rfl
    · exact key _ (.head _) (dull_list ..)
    · exact key (a, oCL) (.tail _ (.head _)) dCL
    · exact key (a, oOM) (.tail _ (.tail _ (.head _))) dOM
    · exact key (c.IT, _) (.tail _ (.tail _ (.tail _ (.head _)))) (dull_list ..)
    · exact key (_, c.cB) (.tail _ (.tail _ (.tail _ (.tail _ (.head _))))) (dull_cell dB)
    · exact key (_, c.cE) (.tail _ (.tail _ (.tail _ (.tail _ (.tail _ (.head _)))))) (dull_cell dE)
    · exact key (_, c.cS) (.tail _ (.tail _ (.tail _ (.tail _ (.tail _ (.tail _ (.head _))))))) (dull_cell dS)
    · exact key (_, c.cO) (.tail _ (.tail _ (.tail _ (.tail _ (.tail _ (.tail _ (.tail _ (.head _)))))))) (dull_cell dO)
    · exact key (_, cH) (.tail _ (.tail _ (.tail _ (.tail _ (.tail _ (.tail _ (.tail _ (.tail _ (.head _))))))))) (dull_cell dH)
section
variable {w : World} {mean : ExcName → Option Value} {mg mb : PySem.Str → Option Value} {dp un : Nat} {gd : Option (List Code)} {cn : PySem.Str} {cs : Scope} {a : Addr} {ccd : Value} {cl : List (PySem.Str × Addr)} {outer : List Env} {A₀ : Around} {base h₀ : Heap} {L : Addr} {m : PySem.Str → Option Value} {s : Shared} {Q E : Value → Shared → Prop} {rest : List (Addr × Obj)}
theorem lap {DK CL OM hm hd' rd : Nat} {kr : Tok} {vcs : List Value} {ld : List Int} {ncl nom : Nat} {xs : List Addr} {cH : Obj} {top lim : Int} {c : St} {I : Nat} {oI : Obj} {lv : Value} {u : PySem.Str → Option Value} {Qf : Flow → Shared → Prop}
  (B : Below callerA base [] h₀) (X : (hd.heap_1 w.params).In h₀) (T : Top viewOf (looseW viewOf []) mean mg mb h₀)
  (F : Fr h₀ L s.heap (fun y => if y = PySem.Str.ofString "lap" then some lv else kstB u [(PySem.Str.ofString "deck", .ref DK), (PySem.Str.ofString "own_marks", .ref OM), (PySem.Str.ofString "items", .ref c.IT)] y))
  (hIv : InvL w L DK CL OM hm hd' rd xs top lim c) (htop : top ≤ 50) (hlim : lim ≤ 900) (hI1 : IntsAre vcs ld) (hld : ld.length ≤ 50) (hx0 : 0 < xs.length) (hx5 : xs.length ≤ 5) (lo : (rd == sysModules) = false) (dH : cH.data = .cell (some (.ref hm)))
  (bd : (L + 5 < DK ∧ L + 5 < CL ∧ L + 5 < OM) ∧ L + 5 < hm ∧ L + 5 < hd' ∧ L + 5 < rd) (dd : (DK ≠ CL ∧ DK ≠ OM) ∧ DK ≠ hm ∧ DK ≠ hd' ∧ DK ≠ rd)
  (N : News h₀ L s.heap ((I, oI) :: lawLed w L DK CL OM hm hd' rd kr (listOf vcs.toArray ncl) (listOf (xs.map Value.ref).toArray nom) cH c))
  (hoff : ∀ p ∈ lawLed w L DK CL OM hm hd' rd kr (listOf vcs.toArray ncl) (listOf (xs.map Value.ref).toArray nom) cH c, p.1 ≠ I)
  (hret : ∀ c' h' tk' m', InvL w L DK CL OM hm hd' rd xs (top + 3) (lim + 8) c' → Fr h₀ L h' m' → m' (PySem.Str.ofString "deck") = some (.ref DK) → m' (PySem.Str.ofString "own_marks") = some (.ref OM) → m' (PySem.Str.ofString "items") = some (.ref c'.IT) →
    News h₀ L h' ((I, oI) :: lawLed w L DK CL OM hm hd' rd kr (listOf vcs.toArray ncl) (listOf (xs.map Value.ref).toArray nom) cH c') → (∀ p ∈ lawLed w L DK CL OM hm hd' rd kr (listOf vcs.toArray ncl) (listOf (xs.map Value.ref).toArray nom) cH c', p.1 ≠ I) → Qf .next { s with heap := h', toks := tk' }) :
  wpAny (model PySem.Challenge.rw_ok0046_01.row.prog w) (callerA.deeper (lawEnv a ccd L)) (execs lapBody (lawEnv a ccd L)) Qf E s := by
  obtain ⟨kd, tkd, nd, IT, ys, its, ki, ms, rO, kvs, cB, cE, cS, cO⟩ := c
  obtain ⟨k0, k1, hI, hch, W, hxs, hnn, hR, hb, hS, hit, ⟨vB, dB⟩, ⟨vE, dE⟩, ⟨vS, dS⟩, ⟨vO, dO⟩⟩ := hIv
  dsimp only at *
  have hml : ms.length = xs.length := by rw [← hxs, List.length_map]
  have h64 : kvs.length ≤ 5 := Nat.le_trans (bears_len (isDict_nodup hR) hb) (by omega)
  have hlen : its.length ≤ 60 := by
    have e1 := marksOf_len its 1
    have e2 := (hS.perm (isDict_nodup hR)).length_eq
    rw [List.length_map, List.length_map] at e2
    omega
  have hylen := hI.length
  generalize hDD : listOf (xs.map Value.ref).toArray nom = oOM at *
  generalize hCC : listOf vcs.toArray ncl = oCL at *
  have hA := own_off N hoff hR (by rw [← hDD]; exact dull_list ..) (by rw [← hCC]; exact dull_list ..) dB dE dS dO dH
  simp only [lawLed, cellsOf, homeLed, List.cons_append, List.nil_append] at N hoff
  have hMI : ∀ p ∈ marksLed w ms, p.1 ≠ I := fun p hp => hoff p (by simp [hp])
  have hoN := offN hoff
  simp only [OffN] at hoN
  obtain ⟨i1, i2, i3, i4, i5, i6, i7, i8, i9, i10, i11, i12, i13⟩ := hoN
  have hsM : ∀ p ∈ marksLed w ms, p ∈ (I, oI) :: (DK, listOf #[.ref CL, .int kd tkd] nd) :: (CL, oCL) :: (OM, oOM) :: (IT, listOf ys.toArray ki) :: (L + 1 + 1 + 1 + 1 + 1, cB) :: (L + 1 + 1 + 1 + 1, cE) :: (L + 1 + 1 + 1, cS) :: (L + 1 + 1, cO) :: (L + 1, cH) :: (hm, instObj 155 hd') :: (hd', dictOf [⟨PyData.keyHash w.params (PySem.Str.ofString "rows"), .str (PySem.Str.ofString "rows") kr, .ref rd⟩] 1) :: (rd, rO) :: marksLed w ms := fun p hp => by
    iterate 13 refine List.mem_cons_of_mem _ ?_
    exact hp
  have hMD : ∀ p ∈ marksLed w ms, p.1 ≠ DK := marks_ne N hsM (o := listOf #[.ref CL, .int kd tkd] nd) (by simp) (dull_list ..)
  have hMC : OwnOff (marksLed w ms) [L + 1 + 1 + 1 + 1 + 1, L + 1 + 1 + 1 + 1, L + 1 + 1 + 1, L + 1 + 1, L + 1] := by
    intro p hp b hb
    simp only [List.mem_cons, List.not_mem_nil, or_false] at hb
    rcases hb with rfl | rfl | rfl | rfl | rfl
    · exact marks_ne N hsM (o := cB) (by simp) (dull_cell dB) p hp
    · exact marks_ne N hsM (o := cE) (by simp) (dull_cell dE) p hp
    · exact marks_ne N hsM (o := cS) (by simp) (dull_cell dS) p hp
    · exact marks_ne N hsM (o := cO) (by simp) (dull_cell dO) p hp
    · exact marks_ne N hsM (o := cH) (by simp) (dull_cell dH) p hp
  obtain ⟨⟨bd1, bd2, bd3⟩, bd4, bd5, bd6⟩ := bd
  obtain ⟨⟨dd1, dd2⟩, dd3, dd4, dd5⟩ := dd
  replace bd1 : @LT.lt Nat _ (L + 5) DK := bd1
  replace bd2 : @LT.lt Nat _ (L + 5) CL := bd2
  replace bd3 : @LT.lt Nat _ (L + 5) OM := bd3
  replace bd4 : @LT.lt Nat _ (L + 5) hm := bd4
  replace bd5 : @LT.lt Nat _ (L + 5) hd' := bd5
  replace bd6 : @LT.lt Nat _ (L + 5) rd := bd6
  have it2 : @Ne Nat DK IT := hit _ (.head _)
  have it3 : @Ne Nat (L + 1 + 1 + 1 + 1 + 1) IT := hit _ (.tail _ (.head _))
  have it4 : @Ne Nat (L + 1 + 1 + 1 + 1) IT := hit _ (.tail _ (.tail _ (.head _)))
  have it5 : @Ne Nat (L + 1 + 1 + 1) IT := hit _ (.tail _ (.tail _ (.tail _ (.head _))))
  have it6 : @Ne Nat (L + 1 + 1) IT := hit _ (.tail _ (.tail _ (.tail _ (.tail _ (.head _)))))
  have it7 : @Ne Nat (L + 1) IT := hit _ (.tail _ (.tail _ (.tail _ (.tail _ (.tail _ (.head _))))))
  have offD : ∀ oCL oOM oIT cB cE cS cO cH oI o1 o2 o3, OffN DK ((CL, oCL) :: (OM, oOM) :: (IT, oIT) :: (L + 1 + 1 + 1 + 1 + 1, cB) :: (L + 1 + 1 + 1 + 1, cE) :: (L + 1 + 1 + 1, cS) :: (L + 1 + 1, cO) :: (L + 1, cH) :: (I, oI) :: (hm, o1) :: (hd', o2) :: (rd, o3) :: marksLed w ms) := by
    intros
    refine ⟨fun e => dd1 e.symm, fun e => dd2 e.symm, fun e => it2 e.symm, ?_, ?_, ?_, ?_, ?_, fun e => i1 e.symm, fun e => dd3 e.symm, fun e => dd4 e.symm, fun e => dd5 e.symm, offN hMD⟩ <;> (show @Ne Nat _ _; omega)
  replace N : News h₀ L s.heap ((DK, listOf #[.ref CL, .int kd tkd] nd) :: (CL, oCL) :: (OM, oOM) :: (IT, listOf ys.toArray ki) :: (L + 1 + 1 + 1 + 1 + 1, cB) :: (L + 1 + 1 + 1 + 1, cE) :: (L + 1 + 1 + 1, cS) :: (L + 1 + 1, cO) :: (L + 1, cH) :: (I, oI) :: (homeLed w hm hd' rd kr rO ++ marksLed w ms)) :=
    genR (pI := (I, oI)) (P := [(DK, listOf #[.ref CL, .int kd tkd] nd), (CL, oCL), (OM, oOM), (IT, listOf ys.toArray ki), (L + 1 + 1 + 1 + 1 + 1, cB), (L + 1 + 1 + 1 + 1, cE), (L + 1 + 1 + 1, cS), (L + 1 + 1, cO), (L + 1, cH)]) (R := homeLed w hm hd' rd kr rO ++ marksLed w ms) N
  have hCl : ∀ h, News h₀ L h [(CL, oCL)] → h.IsList CL vcs.toArray := fun h N => ⟨_, (N _ (.head _)).1, by rw [← hCC], _, by rw [← hCC]⟩
  have eCD : CL ≠ DK := fun e => dd1 e.symm
  clear hsM hoff
  revert X
  k_fill
  intro X
  simp only [homeLed, kstB, List.cons_append, List.nil_append] at N F
  dsimp only [lapRest, lapBody, lawEnv, lawFn, nth, bodyOf, scopeOf, PySem.Challenge.pw_ok0046_01, List.drop]
  walk_at "Mine.steps"
  walk_at "Mine.comp"
  walk_at "Mine.steps"
  rename Fr _ _ _ _ => kF
  rename News _ _ _ _ => kN
  refine CSrc.filter (fun q => decide (q < 0)) _ (by rfl) (kN (IT, listOf ys.toArray ki) (by k_mem)).1 rfl rfl (by rw [sizeLine_eq, hI.length]; omega) (kN (IT, listOf ys.toArray ki) (by k_mem)).2.1 (.inr (by k_mem)) kF kN hI (by rfl) (fun _ => by rfl) (by decide) ?_ ?_
  · intro q t ys C D I oL oI mC h9 tk9 E9 hq hoff n1 n2 n3 n4 n5 n6 F9 N9
    walk_at "Mine.steps"
    exact TestEnd.intro F9 N9 rfl rfl (fun p hp => hp)
  · intro D h9 tk9 ys9 hys F9 N9 hoff9
    have hl9 := hys.length
    rw [filter_nch_len] at hl9
    walk_at "Mine.steps"
    refine call_len_list (items := ys9.toArray) ⟨_, (N9 (D, lst ys9) (.head _)).1, rfl, _, rfl⟩ (by rw [List.size_toArray]; omega) ?_
    rw [List.size_toArray, hl9]
    walk_at "Mine.steps"
    rename Fr _ _ _ _ => kF
    rename News _ _ _ _ => kN
    have hC1 := hCl _ (fun p hp => kN p (by rw [List.mem_singleton.mp hp]; exact .tail _ (.tail _ (.head _))))
    refine' draw_call (by assumption) kF (by assumption) (by assumption) (by rfl) (fun p hp => kN p (.tail _ hp)) (offN_mem (offD ..)) hC1 eCD hI1 hld k0 (by omega) (by decide) (by decide) (by ktr_room) (by ktr_units) ?_
    intro way tw tk1 h10 tk10 w0 w1 F10 N10
    clear kN
    walk_at "Mine.steps"
    rename Fr _ _ _ _ => kF
    rename News _ _ _ _ => kN
    replace kN := News.tl kN
    have hC1 := hCl _ (fun p hp => kN p (by rw [List.mem_singleton.mp hp]; exact .tail _ (.head _)))
    refine' draw_call (by assumption) kF (by assumption) (by assumption) (by rfl) (fun p hp => kN p hp) (offN_mem (offD ..)) hC1 eCD hI1 hld (by omega) (by omega) (by omega) (by omega) (by ktr_room) (by ktr_units) ?_
    intro st ts tk2 h11 tk11 s0 s1 F11 N11
    clear kN
    walk_at "Mine.steps"
    rename Fr _ _ _ _ => kF
    rename News _ _ _ _ => kN
    have hC1 := hCl _ (fun p hp => kN p (by rw [List.mem_singleton.mp hp]; exact .tail _ (.head _)))
    refine' draw_call (by assumption) kF (by assumption) (by assumption) (by rfl) (fun p hp => kN p hp) (offN_mem (offD ..)) hC1 eCD hI1 hld (by omega) (by omega) (by omega) (by omega) (by ktr_room) (by ktr_units) ?_
    intro many tm tk3 h12 tk12 m0 m1 F12 N12
    clear kN
    walk_at "Mine.steps"
    rename Fr _ _ _ _ => kF
    rename News _ _ _ _ => kN
    replace kN := News.tl kN
    have hC1 := hCl _ (fun p hp => kN p (by rw [List.mem_singleton.mp hp]; exact .tail _ (.head _)))
    refine' draw_call (by assumption) kF (by assumption) (by assumption) (by rfl) (fun p hp => kN p hp) (offN_mem (offD ..)) hC1 eCD hI1 hld (by omega) (by omega) (by omega) (by omega) (by ktr_room) (by ktr_units) ?_
    intro en te tk4 h13 tk13 e0 e1 F13 N13
    clear kN
    walk_at "Mine.steps"
    · rename Obj.data _ = Data.cell (some (Value.int (1 + st) _)) => dS2
      rename Obj.data _ = Data.cell (some (Value.int (1 + st + en) _)) => dE2
      obtain ⟨oS, hoS⟩ : ∃ oS : Obj, (oS.data = Data.cell (some (Value.int (1 + st) _))) ∧ oS = _ := ⟨_, dS2, rfl⟩
      clear dS2
      obtain ⟨dS2, hoS⟩ := hoS
      subst hoS
      obtain ⟨oE, hoE⟩ : ∃ oE : Obj, (oE.data = Data.cell (some (Value.int (1 + st + en) _))) ∧ oE = _ := ⟨_, dE2, rfl⟩
      clear dE2
      obtain ⟨dE2, hoE⟩ := hoE
      subst hoE
      rename Fr _ _ _ _ => kF
      rename News _ _ _ _ => kN
      have hC1 := hCl _ (fun p hp => kN p (by rw [List.mem_singleton.mp hp]; exact .tail _ (.head _)))
      refine' draw_call (by assumption) kF (by assumption) (by assumption) (by rfl) (fun p hp => kN p hp) (offN_mem (offD ..)) hC1 eCD hI1 hld (by omega) (by omega) (by omega) (by omega) (by ktr_room) (by ktr_units) ?_
      intro bf tb tk5 h14 tk14 b0 b1 F14 N14
      clear kN
      walk_at "Mine.steps"
      rename Obj.data _ = Data.cell (some (Value.bool (bf == 0))) => dB2
      obtain ⟨oB, hoB⟩ : ∃ oB : Obj, (oB.data = Data.cell (some (Value.bool (bf == 0)))) ∧ oB = _ := ⟨_, dB2, rfl⟩
      clear dB2
      obtain ⟨dB2, hoB⟩ := hoB
      subst hoB
      rename Fr _ _ _ _ => kF
      rename News _ _ _ _ => kN
      refine' insm_call (rest := (I, oI) :: (DK, listOf #[.ref CL, .int (kd + 1 + 1 + 1 + 1 + 1) tk5] nd) :: (CL, oCL) :: (OM, oOM) :: (IT, listOf ys.toArray ki) :: cellsOf L cH ⟨kd, tkd, nd, IT, ys, its, ki, ms, rO, kvs, oB, oE, oS, cO⟩) (kr := kr) (rO := rO) (hm := hm) (hd' := hd') (rd := rd) (ms := ms) (kvs := kvs) (by assumption) kF (by assumption) (by assumption) (by rfl) (toM kN) W (fun p hp => hA p.1 (List.mem_map.mpr ⟨p, hp, rfl⟩)) hR hb (by omega) lo (by ktr_room) (by ktr_units) ?_
      intro g h15 tk15 hg F15 N15
      clear kN
      have N16 := fromM N15
      clear N15
      have hg2 : ∀ k ∈ ms, (g k).x = k.x ∧ (g k).d = k.d := fun k hk => ⟨(hg k hk).x, (hg k hk).d⟩
      have hxs2 := xs_map (fun k hk => (hg k hk).x) hxs
      walk_at "Mine.steps"
      refine' listComp_assign F15 ?c0 ?c9 ?c1 ?c2 ?c3 ?c4 ?c6 ?c7 ?_ ?c5
      case c0 => with_unfolding_all rfl
      case c9 => rfl
      case c1 => with_unfolding_all rfl
      case c2 => decide
      case c3 => rfl
      case c4 => decide
      case c6 => rfl
      case c7 => with_unfolding_all rfl
      case c5 => intro _; with_unfolding_all rfl
      walk_at "Mine.steps"
      rename Fr _ _ _ _ => kF
      rename News _ _ _ _ => kN
      refine CSrc.selI (k := nom) (vs := xs.map Value.ref) (ms.map g) (fun k v => v = .ref k.x) Mk.num (fun k => (bf == 0) || k.adv) _ (by rfl) (kN (OM, oOM) (by k_mem)).1 (by rw [← hDD]) (by rw [← hDD]) (by rw [List.length_map, sizeLine_eq]; omega) (kN (OM, oOM) (by k_mem)).2.1 (.inr (by k_mem)) kF kN (by rw [List.length_map, List.length_map]; omega) (at_x hxs2) (by rfl) (fun _ => by rfl) ?_ ?_ ?_
      · intro k v zs C D I' oL oI' mC h17 tk17 E17 hk hkv hoffx n1 n2 n3 n4 n5 n6 F17 N17
        subst hkv
        have N18 := News.dup (ex := k.objs w ++ [(L + 1 + 1 + 1 + 1 + 1, oB)]) N17 (by
          intro p hp
          refine .tail _ (.tail _ (.tail _ ?_))
          rcases List.mem_append.mp hp with h | h
          · have h2 : p ∈ marksLed w (ms.map g) := List.mem_flatMap.mpr ⟨k, hk, h⟩
            iterate 13 refine List.mem_cons_of_mem _ ?_
            exact h2
          · rw [List.mem_singleton.mp h]
            k_mem)
        simp only [Mk.objs, Mk.dict, List.cons_append, List.nil_append] at N18
        clear N17
        clear kN
        walk_at "Mine.steps"
        · rename bf = 0 => hz
          exact TestEnd.intro F17 N18 (by rw [hz]; rfl) rfl (fun p hp => .tail _ (.tail _ (.tail _ hp)))
        · rename k.adv = true => ha
          exact TestEnd.intro F17 N18 (by rw [ha, Bool.or_true]) rfl (fun p hp => .tail _ (.tail _ (.tail _ hp)))
        · rename k.adv = false => ha
          rename bf ≠ 0 => hz
          exact TestEnd.intro F17 N18 (by rw [ha, Bool.or_false, beq_false_of_ne hz]) rfl (fun p hp => .tail _ (.tail _ (.tail _ hp)))
      · intro k v zs C D I' oL oI' mC h17 tk17 E17 hk hkv hoffx n1 n2 n3 n4 n5 n6 F17 N17
        subst hkv
        have N18 := News.dup (ex := k.objs w) N17 (by
          intro p hp
          refine .tail _ (.tail _ (.tail _ ?_))
          have h2 : p ∈ marksLed w (ms.map g) := List.mem_flatMap.mpr ⟨k, hk, hp⟩
          iterate 13 refine List.mem_cons_of_mem _ ?_
          exact h2)
        simp only [Mk.objs, Mk.dict, List.cons_append, List.nil_append] at N18
        clear N17
        clear kN
        walk_at "Mine.steps"
        exact ⟨_, _, _, _, rfl, rfl, F17, fun p hp => N18 p (.tail _ (.tail _ hp))⟩
      · intro D h17 tk17 zs hzs F17 N17 hoff17
        walk_at "Mine.steps"
        generalize hmv : ((ms.map g).filter fun k => (bf == 0) || k.adv).map Mk.num = mv at hzs
        have hmv2 := movers_mem (b := bf == 0) (fun k hk => ⟨(hg k hk).num, (hg k hk).adv⟩)
        rw [hmv] at hmv2
        rename Fr _ _ _ _ => kF
        rename News _ _ _ _ => kN
        have N19 := News.tl kN
        refine' ins_call (by assumption) kF (by assumption) (by assumption) (by rfl) N19 ⟨_, (N19 (IT, listOf ys.toArray ki) (.tail _ (.tail _ (.tail _ (.head _))))).1, rfl, _, rfl⟩ hI (by omega) (by omega) (by omega) (by omega) (by omega) ⟨_, (kN (D, lst zs) (.head _)).1, rfl, _, rfl⟩ hzs (by ktr_room) (by ktr_units) ?_
        intro D2 ys2 k2 h18 tk18 hI2 F18 N18 hfr
        obtain ⟨hS2, hn2⟩ := ins_same hS W hb (by omega) (by omega) m0 hg hmv2
        have hoff2 : ∀ p ∈ marksLed w (ms.map g), p.1 ≠ I := marks_off_map hg2 hMI
        have hitD : ∀ a ∈ [DK, L + 1 + 1 + 1 + 1 + 1, L + 1 + 1 + 1 + 1, L + 1 + 1 + 1, L + 1 + 1, L + 1], @Ne Nat a D2 := by
          intro a ha
          simp only [List.mem_cons, List.not_mem_nil, or_false] at ha
          rcases ha with rfl | rfl | rfl | rfl | rfl | rfl
          · exact hfr _ (.head _)
          · exact hfr (_, _) (.tail _ (.tail _ (.tail _ (.tail _ (.head _)))))
          · exact hfr (_, _) (.tail _ (.tail _ (.tail _ (.tail _ (.tail _ (.head _))))))
          · exact hfr (_, _) (.tail _ (.tail _ (.tail _ (.tail _ (.tail _ (.tail _ (.head _)))))))
          · exact hfr (_, cO) (.tail _ (.tail _ (.tail _ (.tail _ (.tail _ (.tail _ (.tail _ (.head _))))))))
          · exact hfr (_, cH) (.tail _ (.tail _ (.tail _ (.tail _ (.tail _ (.tail _ (.tail _ (.tail _ (.head _)))))))))
        have hDI : @Ne Nat D2 I := fun e => hfr (I, oI) (.tail _ (.tail _ (.tail _ (.tail _ (.tail _ (.tail _ (.tail _ (.tail _ (.tail _ (.head _)))))))))) e.symm
        clear N19 kN
        walk_at "Mine.steps"
        rename Fr _ _ _ _ => kF
        rename News _ _ _ _ => kN
        have hInv : InvL w L DK CL OM hm hd' rd xs (top + 3) (lim + 8) ⟨kd + 1 + 1 + 1 + 1 + 1, tk5, nd, D2, ys2, insN its (1 + st) many mv, k2, ms.map g, rO, kvs, oB, oE, oS, cO⟩ := ⟨by dsimp only; omega, by dsimp only; omega, hI2, by dsimp only; omega, W.mv hg, hxs2, nn_map (fun k hk => (hg k hk).num) hnn, hR, bears_map (fun k hk => ⟨(hg k hk).num, (hg k hk).x⟩) hb, hS2, hitD, ⟨_, dB2⟩, ⟨_, dE2⟩, ⟨_, dS2⟩, ⟨_, dO⟩⟩
        refine lap_end (c := ⟨kd + 1 + 1 + 1 + 1 + 1, tk5, nd, D2, ys2, insN its (1 + st) many mv, k2, ms.map g, rO, kvs, oB, oE, oS, cO⟩) (DK := DK) (CL := CL) (OM := OM) (hm := hm) (hd' := hd') (rd := rd) (kr := kr) (I := I) (oI := oI) (oCL := oCL) (oOM := oOM) (cH := cH) (xs := xs) (top := top + 3) (lim := lim + 8) B X T kF (by rfl) (by rfl) (by rfl) hInv (by omega) hx5 lo dH dS2 dE2 (by rw [← hDD]; exact dull_list ..) (by rw [← hCC]; exact dull_list ..) (toLaw (newIT kN)) (offN_mem ⟨i1, i2, i3, hDI, i5, i6, i7, i8, i9, i10, i11, i12, offN hoff2⟩) ?_
        intro h' tk' m' F' f1 f2 f3 N'
        exact hret _ h' tk' m' hInv F' f1 f2 f3 N' (offN_mem ⟨i1, i2, i3, hDI, i5, i6, i7, i8, i9, i10, i11, i12, offN hoff2⟩)
    · rename Obj.data _ = Data.cell (some (Value.int (1 + st) _)) => dS2
      rename Obj.data _ = Data.cell (some (Value.int (1 + st + en) _)) => dE2
      obtain ⟨oS, hoS⟩ : ∃ oS : Obj, (oS.data = Data.cell (some (Value.int (1 + st) _))) ∧ oS = _ := ⟨_, dS2, rfl⟩
      clear dS2
      obtain ⟨dS2, hoS⟩ := hoS
      subst hoS
      obtain ⟨oE, hoE⟩ : ∃ oE : Obj, (oE.data = Data.cell (some (Value.int (1 + st + en) _))) ∧ oE = _ := ⟨_, dE2, rfl⟩
      clear dE2
      obtain ⟨dE2, hoE⟩ := hoE
      subst hoE
      rename Fr _ _ _ _ => kF
      rename News _ _ _ _ => kN
      refine' delm_call (rest := (I, oI) :: (DK, listOf #[.ref CL, .int (kd + 1 + 1 + 1 + 1) tk4] nd) :: (CL, oCL) :: (OM, oOM) :: (IT, listOf ys.toArray ki) :: cellsOf L cH ⟨kd, tkd, nd, IT, ys, its, ki, ms, rO, kvs, cB, oE, oS, cO⟩) (kr := kr) (rO := rO) (hm := hm) (hd' := hd') (rd := rd) (ms := ms) (kvs := kvs) (by assumption) kF (by assumption) (by assumption) (by rfl) (toM kN) W (fun p hp => hA p.1 (List.mem_map.mpr ⟨p, hp, rfl⟩)) hR hb (by omega) lo (by ktr_room) (by ktr_units) ?_
      intro g h14 tk14 hg F14 N14
      clear kN
      have N15 := fromM N14
      clear N14
      walk_at "Mine.steps"
      refine' gone_call (by assumption) F14 (by assumption) (by assumption) (by rfl) N15 ⟨_, (N15 (IT, listOf ys.toArray ki) (.tail _ (.tail _ (.tail _ (.head _))))).1, rfl, _, rfl⟩ hI (by omega) (by ktr_room) (by ktr_units) ?_
      intro D ys2 k2 h16 tk16 hI2 F16 N16 hfr
      obtain ⟨hS2, hn2⟩ := gone_same hS W hb (by omega) (by omega) hg
      have hg2 : ∀ k ∈ ms, (g k).x = k.x ∧ (g k).d = k.d := fun k hk => ⟨(hg k hk).x, (hg k hk).d⟩
      have hoff2 : ∀ p ∈ marksLed w (ms.map g), p.1 ≠ I := marks_off_map hg2 hMI
      have hitD : ∀ a ∈ [DK, L + 1 + 1 + 1 + 1 + 1, L + 1 + 1 + 1 + 1, L + 1 + 1 + 1, L + 1 + 1, L + 1], @Ne Nat a D := by
        intro a ha
        simp only [List.mem_cons, List.not_mem_nil, or_false] at ha
        rcases ha with rfl | rfl | rfl | rfl | rfl | rfl
        · exact hfr _ (.head _)
        · exact hfr (_, cB) (.tail _ (.tail _ (.tail _ (.tail _ (.head _)))))
        · exact hfr (_, _) (.tail _ (.tail _ (.tail _ (.tail _ (.tail _ (.head _))))))
        · exact hfr (_, _) (.tail _ (.tail _ (.tail _ (.tail _ (.tail _ (.tail _ (.head _)))))))
        · exact hfr (_, cO) (.tail _ (.tail _ (.tail _ (.tail _ (.tail _ (.tail _ (.tail _ (.head _))))))))
        · exact hfr (_, cH) (.tail _ (.tail _ (.tail _ (.tail _ (.tail _ (.tail _ (.tail _ (.tail _ (.head _)))))))))
      have hDI : @Ne Nat D I := fun e => hfr (I, oI) (.tail _ (.tail _ (.tail _ (.tail _ (.tail _ (.tail _ (.tail _ (.tail _ (.tail _ (.head _)))))))))) e.symm
      clear N15
      walk_at "Mine.steps"
      rename Fr _ _ _ _ => kF
      rename News _ _ _ _ => kN
      have hInv : InvL w L DK CL OM hm hd' rd xs (top + 3) (lim + 8) ⟨kd + 1 + 1 + 1 + 1, tk4, nd, D, ys2, goneN (1 + st) (1 + st + en) 0 its, k2, ms.map g, rO, kvs, cB, oE, oS, cO⟩ := ⟨by dsimp only; omega, by dsimp only; omega, hI2, by dsimp only; omega, W.mv hg, xs_map (fun k hk => (hg k hk).x) hxs, nn_map (fun k hk => (hg k hk).num) hnn, hR, bears_map (fun k hk => ⟨(hg k hk).num, (hg k hk).x⟩) hb, hS2, hitD, ⟨_, dB⟩, ⟨_, dE2⟩, ⟨_, dS2⟩, ⟨_, dO⟩⟩
      refine lap_end (c := ⟨kd + 1 + 1 + 1 + 1, tk4, nd, D, ys2, goneN (1 + st) (1 + st + en) 0 its, k2, ms.map g, rO, kvs, cB, oE, oS, cO⟩) (DK := DK) (CL := CL) (OM := OM) (hm := hm) (hd' := hd') (rd := rd) (kr := kr) (I := I) (oI := oI) (oCL := oCL) (oOM := oOM) (cH := cH) (xs := xs) (top := top + 3) (lim := lim + 8) B X T kF (by rfl) (by rfl) (by rfl) hInv (by omega) hx5 lo dH dS2 dE2 (by rw [← hDD]; exact dull_list ..) (by rw [← hCC]; exact dull_list ..) (toLaw (newIT kN)) (offN_mem ⟨i1, i2, i3, hDI, i5, i6, i7, i8, i9, i10, i11, i12, offN hoff2⟩) ?_
      intro h' tk' m' F' f1 f2 f3 N'
      exact hret _ h' tk' m' hInv F' f1 f2 f3 N' (offN_mem ⟨i1, i2, i3, hDI, i5, i6, i7, i8, i9, i10, i11, i12, offN hoff2⟩)
    · rename Obj.data _ = Data.cell (some (Value.int (1 + st) _)) => dS2
      rename Obj.data _ = Data.cell (some (Value.int (1 + st + en) _)) => dE2
      obtain ⟨oS, hoS⟩ : ∃ oS : Obj, (oS.data = Data.cell (some (Value.int (1 + st) _))) ∧ oS = _ := ⟨_, dS2, rfl⟩
      clear dS2
      obtain ⟨dS2, hoS⟩ := hoS
      subst hoS
      obtain ⟨oE, hoE⟩ : ∃ oE : Obj, (oE.data = Data.cell (some (Value.int (1 + st + en) _))) ∧ oE = _ := ⟨_, dE2, rfl⟩
      clear dE2
      obtain ⟨dE2, hoE⟩ := hoE
      subst hoE
      rename Fr _ _ _ _ => kF
      rename News _ _ _ _ => kN
      refine' repm_call (rest := (I, oI) :: (DK, listOf #[.ref CL, .int (kd + 1 + 1 + 1 + 1) tk4] nd) :: (CL, oCL) :: (OM, oOM) :: (IT, listOf ys.toArray ki) :: cellsOf L cH ⟨kd, tkd, nd, IT, ys, its, ki, ms, rO, kvs, cB, oE, oS, cO⟩) (kr := kr) (rO := rO) (hm := hm) (hd' := hd') (rd := rd) (ms := ms) (kvs := kvs) (by assumption) kF (by assumption) (by assumption) (by rfl) (toM kN) W (fun p hp => hA p.1 (List.mem_map.mpr ⟨p, hp, rfl⟩)) hR hb (by omega) lo (by ktr_room) (by ktr_units) ?_
      intro g h14 tk14 hg F14 N14
      clear kN
      have N15 := fromM N14
      clear N14
      walk_at "Mine.steps"
      refine' repl_call (by assumption) F14 (by assumption) (by assumption) (by rfl) N15 ⟨_, (N15 (IT, listOf ys.toArray ki) (.tail _ (.tail _ (.tail _ (.head _))))).1, rfl, _, rfl⟩ hI (by omega) (by omega) (by omega) (by omega) (by omega) (by omega) (by omega) (by ktr_room) (by ktr_units) ?_
      intro D ys2 k2 h16 tk16 hI2 F16 N16 hfr
      obtain ⟨hS2, hn2⟩ := repl_same hS W hb (by omega) (by omega) (by omega) (by omega) hg
      have hg2 : ∀ k ∈ ms, (g k).x = k.x ∧ (g k).d = k.d := fun k hk => ⟨(hg k hk).x, (hg k hk).d⟩
      have hoff2 : ∀ p ∈ marksLed w (ms.map g), p.1 ≠ I := marks_off_map hg2 hMI
      have hitD : ∀ a ∈ [DK, L + 1 + 1 + 1 + 1 + 1, L + 1 + 1 + 1 + 1, L + 1 + 1 + 1, L + 1 + 1, L + 1], @Ne Nat a D := by
        intro a ha
        simp only [List.mem_cons, List.not_mem_nil, or_false] at ha
        rcases ha with rfl | rfl | rfl | rfl | rfl | rfl
        · exact hfr _ (.head _)
        · exact hfr (_, cB) (.tail _ (.tail _ (.tail _ (.tail _ (.head _)))))
        · exact hfr (_, _) (.tail _ (.tail _ (.tail _ (.tail _ (.tail _ (.head _))))))
        · exact hfr (_, _) (.tail _ (.tail _ (.tail _ (.tail _ (.tail _ (.tail _ (.head _)))))))
        · exact hfr (_, cO) (.tail _ (.tail _ (.tail _ (.tail _ (.tail _ (.tail _ (.tail _ (.head _))))))))
        · exact hfr (_, cH) (.tail _ (.tail _ (.tail _ (.tail _ (.tail _ (.tail _ (.tail _ (.tail _ (.head _)))))))))
      have hDI : @Ne Nat D I := fun e => hfr (I, oI) (.tail _ (.tail _ (.tail _ (.tail _ (.tail _ (.tail _ (.tail _ (.tail _ (.tail _ (.head _)))))))))) e.symm
      clear N15
      walk_at "Mine.steps"
      rename Fr _ _ _ _ => kF
      rename News _ _ _ _ => kN
      have hInv : InvL w L DK CL OM hm hd' rd xs (top + 3) (lim + 8) ⟨kd + 1 + 1 + 1 + 1, tk4, nd, D, ys2, replN its (1 + st) (1 + st + en) many, k2, ms.map g, rO, kvs, cB, oE, oS, cO⟩ := ⟨by dsimp only; omega, by dsimp only; omega, hI2, by dsimp only; omega, W.mv hg, xs_map (fun k hk => (hg k hk).x) hxs, nn_map (fun k hk => (hg k hk).num) hnn, hR, bears_map (fun k hk => ⟨(hg k hk).num, (hg k hk).x⟩) hb, hS2, hitD, ⟨_, dB⟩, ⟨_, dE2⟩, ⟨_, dS2⟩, ⟨_, dO⟩⟩
      refine lap_end (c := ⟨kd + 1 + 1 + 1 + 1, tk4, nd, D, ys2, replN its (1 + st) (1 + st + en) many, k2, ms.map g, rO, kvs, cB, oE, oS, cO⟩) (DK := DK) (CL := CL) (OM := OM) (hm := hm) (hd' := hd') (rd := rd) (kr := kr) (I := I) (oI := oI) (oCL := oCL) (oOM := oOM) (cH := cH) (xs := xs) (top := top + 3) (lim := lim + 8) B X T kF (by rfl) (by rfl) (by rfl) hInv (by omega) hx5 lo dH dS2 dE2 (by rw [← hDD]; exact dull_list ..) (by rw [← hCC]; exact dull_list ..) (toLaw (newIT kN)) (offN_mem ⟨i1, i2, i3, hDI, i5, i6, i7, i8, i9, i10, i11, i12, offN hoff2⟩) ?_
      intro h' tk' m' F' f1 f2 f3 N'
      exact hret _ h' tk' m' hInv F' f1 f2 f3 N' (offN_mem ⟨i1, i2, i3, hDI, i5, i6, i7, i8, i9, i10, i11, i12, offN hoff2⟩)
    · rename Obj.data _ = Data.cell (some (Value.int (1 + st) _)) => dS2
      rename Obj.data _ = Data.cell (some (Value.int (1 + st + en) _)) => dE2
      obtain ⟨oS, hoS⟩ : ∃ oS : Obj, (oS.data = Data.cell (some (Value.int (1 + st) _))) ∧ oS = _ := ⟨_, dS2, rfl⟩
      clear dS2
      obtain ⟨dS2, hoS⟩ := hoS
      subst hoS
      obtain ⟨oE, hoE⟩ : ∃ oE : Obj, (oE.data = Data.cell (some (Value.int (1 + st + en) _))) ∧ oE = _ := ⟨_, dE2, rfl⟩
      clear dE2
      obtain ⟨dE2, hoE⟩ := hoE
      subst hoE
      rename Fr _ _ _ _ => kF
      rename News _ _ _ _ => kN
      have hInv : InvL w L DK CL OM hm hd' rd xs (top + 3) (lim + 8) ⟨kd + 1 + 1 + 1 + 1, tk4, nd, IT, ys, its, ki, ms, rO, kvs, cB, oE, oS, cO⟩ := ⟨by dsimp only; omega, by dsimp only; omega, hI, by dsimp only; omega, W, hxs, hnn, hR, hb, hS, hit, ⟨_, dB⟩, ⟨_, dE2⟩, ⟨_, dS2⟩, ⟨_, dO⟩⟩
      refine lap_end (c := ⟨kd + 1 + 1 + 1 + 1, tk4, nd, IT, ys, its, ki, ms, rO, kvs, cB, oE, oS, cO⟩) (DK := DK) (CL := CL) (OM := OM) (hm := hm) (hd' := hd') (rd := rd) (kr := kr) (I := I) (oI := oI) (oCL := oCL) (oOM := oOM) (cH := cH) (xs := xs) (top := top + 3) (lim := lim + 8) B X T kF (by rfl) (by rfl) (by rfl) hInv (by omega) hx5 lo dH dS2 dE2 (by rw [← hDD]; exact dull_list ..) (by rw [← hCC]; exact dull_list ..) (toLaw kN) (offN_mem ⟨i1, i2, i3, i4, i5, i6, i7, i8, i9, i10, i11, i12, i13⟩) ?_
      intro h' tk' m' F' f1 f2 f3 N'
      exact hret _ h' tk' m' hInv F' f1 f2 f3 N' (offN_mem ⟨i1, i2, i3, i4, i5, i6, i7, i8, i9, i10, i11, i12, i13⟩)
    · rename Obj.data _ = Data.cell (some (Value.int (1 + st) _)) => dS2
      rename Obj.data _ = Data.cell (some (Value.int (1 + st + en) _)) => dE2
      obtain ⟨oS, hoS⟩ : ∃ oS : Obj, (oS.data = Data.cell (some (Value.int (1 + st) _))) ∧ oS = _ := ⟨_, dS2, rfl⟩
      clear dS2
      obtain ⟨dS2, hoS⟩ := hoS
      subst hoS
      obtain ⟨oE, hoE⟩ : ∃ oE : Obj, (oE.data = Data.cell (some (Value.int (1 + st + en) _))) ∧ oE = _ := ⟨_, dE2, rfl⟩
      clear dE2
      obtain ⟨dE2, hoE⟩ := hoE
      subst hoE
      rename News _ _ _ _ => kN
      refine call_len_list (items := (xs.map Value.ref).toArray) ⟨_, (kN (OM, oOM) (by k_mem)).1, by rw [← hDD], _, by rw [← hDD]⟩ (by rw [List.size_toArray, List.length_map]; omega) ?_
      rw [List.size_toArray, List.length_map]
      walk_at "Mine.steps"
      rename Fr _ _ _ _ => kF
      have hC1 := hCl _ (fun p hp => kN p (by rw [List.mem_singleton.mp hp]; exact .tail _ (.head _)))
      refine' draw_call (by assumption) kF (by assumption) (by assumption) (by rfl) (fun p hp => kN p hp) (offN_mem (offD ..)) hC1 eCD hI1 hld (by omega) (by omega) (by omega) (by omega) (by ktr_room) (by ktr_units) ?_
      intro ix tx tk5 h14 tk14 x0 x1 F14 N14
      clear kN
      walk_at "Mine.steps"
      rename News _ _ _ _ => kN
      obtain ⟨k, hk, hkx⟩ := at_lt hxs (i := ix.toNat) (by omega)
      refine item_list (items := (xs.map Value.ref).toArray) (x := .ref k.x) ⟨_, (kN (OM, oOM) (by k_mem)).1, by rw [← hDD], _, by rw [← hDD]⟩ x0 (by omega) (by rw [List.getElem?_toArray]; exact hkx) ?_
      walk_at "Mine.steps"
      rename Obj.data _ = Data.cell (some (Value.ref k.x)) => dO2
      obtain ⟨oO, hoO⟩ : ∃ oO : Obj, (oO.data = Data.cell (some (Value.ref k.x))) ∧ oO = _ := ⟨_, dO2, rfl⟩
      clear dO2
      obtain ⟨dO2, hoO⟩ := hoO
      subst hoO
      rename Fr _ _ _ _ => kF
      rename News _ _ _ _ => kN
      refine' listComp_assign kF ?c0 ?c9 ?c1 ?c2 ?c3 ?c4 ?c6 ?c7 ?_ ?c5
      case c0 => with_unfolding_all rfl
      case c9 => rfl
      case c1 => with_unfolding_all rfl
      case c2 => decide
      case c3 => rfl
      case c4 => decide
      case c6 => rfl
      case c7 => with_unfolding_all rfl
      case c5 => intro _; with_unfolding_all rfl
      walk_at "Mine.steps"
      rename Fr _ _ _ _ => kF
      rename News _ _ _ _ => kN
      refine CSrc.filter (fun q => decide (q ≠ k.num)) _ (by rfl) (kN (IT, listOf ys.toArray ki) (by k_mem)).1 rfl rfl (by rw [sizeLine_eq, hI.length]; omega) (kN (IT, listOf ys.toArray ki) (by k_mem)).2.1 (.inr (by k_mem)) kF kN hI (by rfl) (fun _ => by rfl) (by decide) ?_ ?_
      · intro q t zs C D I' oL oI' mC h17 tk17 E17 hq hoffx n1 n2 n3 n4 n5 n6 F17 N17
        have N18 := News.dup (ex := k.objs w ++ [(L + 1 + 1, oO)]) N17 (by
          intro p hp
          refine .tail _ (.tail _ (.tail _ ?_))
          rcases List.mem_append.mp hp with h | h
          · have h2 : p ∈ marksLed w ms := List.mem_flatMap.mpr ⟨k, hk, h⟩
            iterate 13 refine List.mem_cons_of_mem _ ?_
            exact h2
          · rw [List.mem_singleton.mp h]
            k_mem)
        simp only [Mk.objs, Mk.dict, List.cons_append, List.nil_append] at N18
        clear N17
        clear kN
        walk_at "Mine.steps"
        exact TestEnd.intro F17 N18 (by simp only [decide_not]; rfl) rfl (fun p hp => .tail _ (.tail _ (.tail _ hp)))
      · intro D h17 tk17 zs hzs F17 N17 hoff17
        walk_at "Mine.steps"
        · rename Fr _ _ _ _ => kF
          rename News _ _ _ _ => kN
          have hRo : ∀ p ∈ (D, lst zs) :: (I, oI) :: (DK, listOf #[.ref CL, .int (kd + 1 + 1 + 1 + 1 + 1) tk5] nd) :: (CL, oCL) :: (OM, oOM) :: (IT, listOf ys.toArray ki) :: cellsOf L cH ⟨kd, tkd, nd, IT, ys, its, ki, ms, rO, kvs, cB, oE, oS, oO⟩, (p.1 ≠ hm ∧ p.1 ≠ hd' ∧ p.1 ≠ rd) ∧ ∀ k ∈ ms, p.1 ≠ k.x ∧ p.1 ≠ k.d := by
            intro p hp
            rcases List.mem_cons.mp hp with h | hp
            · rw [h]
              have hfD : ∀ q ∈ homeLed w hm hd' rd kr rO ++ marksLed w ms, @Ne Nat q.1 D := fun q hq => hoff17 q (by
                simp only [homeLed, List.cons_append, List.nil_append, List.mem_cons] at hq
                rcases hq with h | h | h | h <;> simp [h])
              refine ⟨⟨fun e => hfD (hm, instObj 155 hd') (.head _) e.symm, fun e => hfD _ (.tail _ (.head _)) e.symm, fun e => hfD (rd, rO) (.tail _ (.tail _ (.head _))) e.symm⟩, fun m hm' => ⟨fun e => ?_, fun e => ?_⟩⟩
              · exact hfD (m.x, instObj 87 m.d) (List.mem_append_right _ (List.mem_flatMap.mpr ⟨m, hm', .head _⟩)) e.symm
              · exact hfD (m.d, m.dict w) (List.mem_append_right _ (List.mem_flatMap.mpr ⟨m, hm', .tail _ (.head _)⟩)) e.symm
            · exact hA p.1 (List.mem_map.mpr ⟨p, hp, rfl⟩)
          have hro := rest_off (w := w) W hk hRo
          refine' put_call (k := k) (rest := others w ms id k.num ++ ((D, lst zs) :: (I, oI) :: (DK, listOf #[.ref CL, .int (kd + 1 + 1 + 1 + 1 + 1) tk5] nd) :: (CL, oCL) :: (OM, oOM) :: (IT, listOf ys.toArray ki) :: cellsOf L cH ⟨kd, tkd, nd, IT, ys, its, ki, ms, rO, kvs, cB, oE, oS, oO⟩)) (kr := kr) (rO := rO) (hm := hm) (hd' := hd') (rd := rd) (kvs := kvs) (by assumption) kF (by assumption) (by assumption) (by rfl) (openM hk (toMD kN)) (fun p hp => ⟨(hro p hp).1.2.2, (hro p hp).2.2⟩) (nodup5 W hk) (fun p hp => ⟨(hro p hp).1.1, (hro p hp).1.2.1, (hro p hp).2.1⟩) hR (by omega) (by ktr_room) (by ktr_units) ?_
          intro rO' h18 tk18 hR' F18 N18
          clear kN
          have N19 := fromMD (closeM W hk N18)
          clear N18
          walk_at "Mine.steps"
          have hfn := filter_nch k.num (hnn k hk) its
          have hfl := List.length_filter_le (fun q => decide (q ≠ k.num)) its
          rename Fr _ _ _ _ => kF
          rename News _ _ _ _ => kN
          refine' gap_call (by assumption) kF (by assumption) (by assumption) (by rfl) kN ⟨_, (kN (D, lst zs) (.head _)).1, rfl, _, rfl⟩ hzs (by omega) (by omega) (by omega) (by ktr_room) (by ktr_units) ?_
          intro tg h19 tk19 F19 N19
          clear kN
          have hk' : ({ k with pos := 1 + st, tp := tk11 } : Mk) ∈ ms.map (setTo k.num (1 + st) tk11) := List.mem_map.mpr ⟨k, hk, by unfold setTo; rw [if_pos rfl]⟩
          have N20 := News.dup (ex := Mk.objs w ({ k with pos := 1 + st, tp := tk11 } : Mk)) N19 (by
            intro p hp
            have h2 : p ∈ marksLed w (ms.map (setTo k.num (1 + st) tk11)) := List.mem_flatMap.mpr ⟨_, hk', hp⟩
            iterate 14 refine List.mem_cons_of_mem _ ?_
            exact h2)
          simp only [Mk.objs, Mk.dict, List.cons_append, List.nil_append] at N20
          clear N19
          walk_at "Mine.steps"
          rename_i D5 w5 _ hI5 _ hL5 l5 DL _ kF kN lL
          refine add_led kF kN (a := D5) (b := DL) (ws := [.int k.num k.tn]) (by k_mem) (by k_mem) hI5 (.cons _ _ .nil) (by simp only [List.length_take, List.length_cons, List.length_nil]; omega) ?_
          intro D6 w6 h20 hI6 F20 N21 l6
          clear kN
          walk_at "Mine.steps"
          rename Fr _ _ _ _ => kF
          rename News _ _ _ _ => kN
          refine' gap_call (by assumption) kF (by assumption) (by assumption) (by rfl) kN ⟨_, (kN (D, lst zs) (by k_mem)).1, rfl, _, rfl⟩ hzs (by omega) (by omega) (by omega) (by ktr_room) (by ktr_units) ?_
          intro tg2 h21 tk21 F21 N22
          clear kN
          walk_at "Mine.steps"
          rename_i D8 w8 _ kF kN hI8 _ hL8 l8
          refine add_led kF kN (a := D6) (b := D8) (by k_mem) (by k_mem) hI6 hI8 (by simp only [List.length_append, List.length_take, List.length_drop, List.length_cons, List.length_nil]; omega) ?_
          intro D9 w9 h22 hI9 F22 N23 l9
          simp only [Int.toNat_natCast] at hI9
          obtain ⟨hS2, hn2⟩ := put_same hS W hb hk (hnn k hk) (a := 1 + st) (by omega) (by omega) (t := tk11) (v := .ref k.x)
          generalize hits : List.take (gapN (its.filter fun x => decide (x ≠ k.num)) (1 + st - 1).toNat) (its.filter fun x => decide (x ≠ k.num)) ++ [k.num] ++ List.drop (gapN (its.filter fun x => decide (x ≠ k.num)) (1 + st - 1).toNat) (its.filter fun x => decide (x ≠ k.num)) = its9 at *
          have hoff2 : ∀ p ∈ marksLed w (ms.map (setTo k.num (1 + st) tk11)), p.1 ≠ I := marks_off_map (fun _ _ => ⟨setTo_x .., setTo_d ..⟩) hMI
          have hitD : ∀ a ∈ [DK, L + 1 + 1 + 1 + 1 + 1, L + 1 + 1 + 1 + 1, L + 1 + 1 + 1, L + 1 + 1, L + 1], @Ne Nat a D9 := by
            intro a ha
            simp only [List.mem_cons, List.not_mem_nil, or_false] at ha
            rcases ha with rfl | rfl | rfl | rfl | rfl | rfl
            · exact Nat.ne_of_lt (l9 (_, listOf #[.ref CL, .int (kd + 1 + 1 + 1 + 1 + 1) tk5] nd) (by k_mem))
            · exact Nat.ne_of_lt (l9 (_, cB) (by k_mem))
            · exact Nat.ne_of_lt (l9 (_, oE) (by k_mem))
            · exact Nat.ne_of_lt (l9 (_, oS) (by k_mem))
            · exact Nat.ne_of_lt (l9 (_, oO) (by k_mem))
            · exact Nat.ne_of_lt (l9 (_, cH) (by k_mem))
          have hDI : @Ne Nat D9 I := fun e => Nat.ne_of_lt (l9 (I, oI) (by k_mem)) e.symm
          have N24 : News h₀ L h22 ((D9, listOf w9.toArray 0) :: (DK, listOf #[.ref CL, .int (kd + 1 + 1 + 1 + 1 + 1) tk5] nd) :: (CL, oCL) :: (OM, oOM) :: (IT, listOf ys.toArray ki) :: (L + 1 + 1 + 1 + 1 + 1, cB) :: (L + 1 + 1 + 1 + 1, oE) :: (L + 1 + 1 + 1, oS) :: (L + 1 + 1, oO) :: (L + 1, cH) :: (I, oI) :: (hm, instObj 155 hd') :: (hd', dictOf [⟨PyData.keyHash w.params (PySem.Str.ofString "rows"), .str (PySem.Str.ofString "rows") kr, .ref rd⟩] 1) :: (rd, rO') :: marksLed w (ms.map (setTo k.num (1 + st) tk11))) := fun p hp => N23 p (by
            rcases List.mem_cons.mp hp with h | h
            · rw [h]; exact .head _
            · iterate 8 refine List.mem_cons_of_mem _ ?_
              exact h)
          clear N23
          clear kN
          walk_at "Mine.steps"
          rename Fr _ _ _ _ => kF
          rename News _ _ _ _ => kN
          have hInv : InvL w L DK CL OM hm hd' rd xs (top + 3) (lim + 8) ⟨kd + 1 + 1 + 1 + 1 + 1, tk5, nd, D9, w9, its9, 0, ms.map (setTo k.num (1 + st) tk11), rO', stored kvs k.num (.ref k.x), cB, oE, oS, oO⟩ := ⟨by dsimp only; omega, by dsimp only; omega, hI9, by dsimp only; omega, W.set k.num (1 + st) tk11, xs_map (fun _ _ => setTo_x ..) hxs, nn_map (fun _ _ => setTo_num ..) hnn, hR', bears_map (fun _ _ => ⟨setTo_num .., setTo_x ..⟩) (bears_stored hb hk), hS2, hitD, ⟨_, dB⟩, ⟨_, dE2⟩, ⟨_, dS2⟩, ⟨_, dO2⟩⟩
          refine lap_end (c := ⟨kd + 1 + 1 + 1 + 1 + 1, tk5, nd, D9, w9, its9, 0, ms.map (setTo k.num (1 + st) tk11), rO', stored kvs k.num (.ref k.x), cB, oE, oS, oO⟩) (DK := DK) (CL := CL) (OM := OM) (hm := hm) (hd' := hd') (rd := rd) (kr := kr) (I := I) (oI := oI) (oCL := oCL) (oOM := oOM) (cH := cH) (xs := xs) (top := top + 3) (lim := lim + 8) B X T kF (by rfl) (by rfl) (by rfl) hInv (by omega) hx5 lo dH dS2 dE2 (by rw [← hDD]; exact dull_list ..) (by rw [← hCC]; exact dull_list ..) (toLaw (newIT kN)) (offN_mem ⟨i1, i2, i3, hDI, i5, i6, i7, i8, i9, i10, i11, i12, offN hoff2⟩) ?_
          intro h' tk' m' F' f1 f2 f3 N'
          exact hret _ h' tk' m' hInv F' f1 f2 f3 N' (offN_mem ⟨i1, i2, i3, hDI, i5, i6, i7, i8, i9, i10, i11, i12, offN hoff2⟩)
        · rename Fr _ _ _ _ => kF
          rename News _ _ _ _ => kN
          have hRo : ∀ p ∈ (D, lst zs) :: (I, oI) :: (DK, listOf #[.ref CL, .int (kd + 1 + 1 + 1 + 1 + 1) tk5] nd) :: (CL, oCL) :: (OM, oOM) :: (IT, listOf ys.toArray ki) :: cellsOf L cH ⟨kd, tkd, nd, IT, ys, its, ki, ms, rO, kvs, cB, oE, oS, oO⟩, (p.1 ≠ hm ∧ p.1 ≠ hd' ∧ p.1 ≠ rd) ∧ ∀ k ∈ ms, p.1 ≠ k.x ∧ p.1 ≠ k.d := by
            intro p hp
            rcases List.mem_cons.mp hp with h | hp
            · rw [h]
              have hfD : ∀ q ∈ homeLed w hm hd' rd kr rO ++ marksLed w ms, @Ne Nat q.1 D := fun q hq => hoff17 q (by
                simp only [homeLed, List.cons_append, List.nil_append, List.mem_cons] at hq
                rcases hq with h | h | h | h <;> simp [h])
              refine ⟨⟨fun e => hfD (hm, instObj 155 hd') (.head _) e.symm, fun e => hfD _ (.tail _ (.head _)) e.symm, fun e => hfD (rd, rO) (.tail _ (.tail _ (.head _))) e.symm⟩, fun m hm' => ⟨fun e => ?_, fun e => ?_⟩⟩
              · exact hfD (m.x, instObj 87 m.d) (List.mem_append_right _ (List.mem_flatMap.mpr ⟨m, hm', .head _⟩)) e.symm
              · exact hfD (m.d, m.dict w) (List.mem_append_right _ (List.mem_flatMap.mpr ⟨m, hm', .tail _ (.head _)⟩)) e.symm
            · exact hA p.1 (List.mem_map.mpr ⟨p, hp, rfl⟩)
          have hro := rest_off (w := w) W hk hRo
          refine' drop_call (k := k) (rest := others w ms id k.num ++ ((D, lst zs) :: (I, oI) :: (DK, listOf #[.ref CL, .int (kd + 1 + 1 + 1 + 1 + 1) tk5] nd) :: (CL, oCL) :: (OM, oOM) :: (IT, listOf ys.toArray ki) :: cellsOf L cH ⟨kd, tkd, nd, IT, ys, its, ki, ms, rO, kvs, cB, oE, oS, oO⟩)) (kr := kr) (rO := rO) (hm := hm) (hd' := hd') (rd := rd) (kvs := kvs) (by assumption) kF (by assumption) (by assumption) (by rfl) (openM hk (toMD kN)) (fun p hp => ⟨(hro p hp).1.2.2, (hro p hp).2.2⟩) (nodup5 W hk) (fun p hp => ⟨(hro p hp).1.1, (hro p hp).1.2.1, (hro p hp).2.1⟩) hR (by omega) lo (by ktr_room) (by ktr_units) ?_
          intro rO' h18 tk18 hR' F18 N18
          clear kN
          have N19 : News h₀ L h18 ((D, listOf zs.toArray zs.length) :: (DK, listOf #[.ref CL, .int (kd + 1 + 1 + 1 + 1 + 1) tk5] nd) :: (CL, oCL) :: (OM, oOM) :: (IT, listOf ys.toArray ki) :: (L + 1 + 1 + 1 + 1 + 1, cB) :: (L + 1 + 1 + 1 + 1, oE) :: (L + 1 + 1 + 1, oS) :: (L + 1 + 1, oO) :: (L + 1, cH) :: (I, oI) :: (hm, instObj 155 hd') :: (hd', dictOf [⟨PyData.keyHash w.params (PySem.Str.ofString "rows"), .str (PySem.Str.ofString "rows") kr, .ref rd⟩] 1) :: (rd, rO') :: marksLed w ms) := fromMD (closeI W hk N18)
          clear N18
          obtain ⟨hS2, hn2⟩ := drop_same hS (hnn k hk)
          have hitD : ∀ a ∈ [DK, L + 1 + 1 + 1 + 1 + 1, L + 1 + 1 + 1 + 1, L + 1 + 1 + 1, L + 1 + 1, L + 1], @Ne Nat a D := by
            intro a ha
            simp only [List.mem_cons, List.not_mem_nil, or_false] at ha
            rcases ha with rfl | rfl | rfl | rfl | rfl | rfl
            · exact hoff17 (_, listOf #[.ref CL, .int (kd + 1 + 1 + 1 + 1 + 1) tk5] nd) (by k_mem)
            · exact hoff17 (_, cB) (by k_mem)
            · exact hoff17 (_, oE) (by k_mem)
            · exact hoff17 (_, oS) (by k_mem)
            · exact hoff17 (_, oO) (by k_mem)
            · exact hoff17 (_, cH) (by k_mem)
          have hDI : @Ne Nat D I := fun e => hoff17 (I, oI) (by k_mem) e.symm
          walk_at "Mine.steps"
          rename Fr _ _ _ _ => kF
          rename News _ _ _ _ => kN
          have hInv : InvL w L DK CL OM hm hd' rd xs (top + 3) (lim + 8) ⟨kd + 1 + 1 + 1 + 1 + 1, tk5, nd, D, zs, its.filter (fun q => decide (q ≠ k.num)), zs.length, ms, rO', without kvs k.num, cB, oE, oS, oO⟩ := ⟨by dsimp only; omega, by dsimp only; omega, hzs, by dsimp only; omega, W, hxs, hnn, hR', bears_without hb, hS2, hitD, ⟨_, dB⟩, ⟨_, dE2⟩, ⟨_, dS2⟩, ⟨_, dO2⟩⟩
          refine lap_end (c := ⟨kd + 1 + 1 + 1 + 1 + 1, tk5, nd, D, zs, its.filter (fun q => decide (q ≠ k.num)), zs.length, ms, rO', without kvs k.num, cB, oE, oS, oO⟩) (DK := DK) (CL := CL) (OM := OM) (hm := hm) (hd' := hd') (rd := rd) (kr := kr) (I := I) (oI := oI) (oCL := oCL) (oOM := oOM) (cH := cH) (xs := xs) (top := top + 3) (lim := lim + 8) B X T kF (by rfl) (by rfl) (by rfl) hInv (by omega) hx5 lo dH dS2 dE2 (by rw [← hDD]; exact dull_list ..) (by rw [← hCC]; exact dull_list ..) (toLaw (newIT kN)) (offN_mem ⟨i1, i2, i3, hDI, i5, i6, i7, i8, i9, i10, i11, i12, i13⟩) ?_
          intro h' tk' m' F' f1 f2 f3 N'
          exact hret _ h' tk' m' hInv F' f1 f2 f3 N' (offN_mem ⟨i1, i2, i3, hDI, i5, i6, i7, i8, i9, i10, i11, i12, i13⟩)
end
end

theorem fresh_Tail : True := by
  w_top off
  trivial
section
open PySem PySem.W PyProof.Rows PySem.Calls PySem.Spec PyProof.Rows.LCg
section
variable {w : World} {mean : ExcName → Option Value} {mg mb : PySem.Str → Option Value} {dp un : Nat} {gd : Option (List Code)} {cn : PySem.Str} {cs : Scope} {a : Addr} {ccd : Value} {cl : List (PySem.Str × Addr)} {outer : List Env} {A₀ : Around} {base h₀ : Heap} {L : Addr} {m : PySem.Str → Option Value} {s : Shared} {Q E : Value → Shared → Prop} {rest : List (Addr × Obj)}
theorem law_tail {cO : Obj} {vO : Option Value} {Qf : Flow → Shared → Prop}
  (B : Below callerA base [] h₀) (X : (hd.heap_1 w.params).In h₀) (T : Top viewOf (looseW viewOf []) mean mg mb h₀)
  (F : Fr h₀ L s.heap m) (N : News h₀ L s.heap [(L + 1 + 1, cO)]) (dO : cO.data = .cell vO)
  (hret : ∀ h' tk' m', Fr h₀ L h' m' → Qf (.ret (.bool true)) { s with heap := h', toks := tk' }) :
  wpAny (model PySem.Challenge.rw_ok0046_01.row.prog w) (callerA.deeper (lawEnv a ccd L)) (execs ((bodyOf lawFn).drop 5) (lawEnv a ccd L)) Qf E s := by
  revert X
  k_fill
  intro X
  dsimp only [lawEnv, lawFn, nth, bodyOf, scopeOf, PySem.Challenge.pw_ok0046_01, List.drop]
  walk_at "Mine.steps"
  rw [show (PySem.Str.ofString "marker" == PySem.Str.ofString "marker") = true from by decide]
  exact hret _ _ _ (by assumption)
end
end

theorem fresh_Laps : True := by
  w_top off
  trivial
section
open PySem PySem.W PyProof.Rows PySem.Calls PySem.Spec PyProof.Rows.LCg
theorem InvL.drawn {w : World} {L DK CL OM hm hd' rd : Nat} {xs : List Addr} {top lim : Int} {c : St} (I : InvL w L DK CL OM hm hd' rd xs top lim c) (t : Tok) :
    InvL w L DK CL OM hm hd' rd xs top (lim + 1) { c with kd := c.kd + 1, tkd := t } := by
  obtain ⟨k0, k1, hI, hch, W, hxs, hnn, hR, hb, hS, hit, hcB, hcE, hcS, hcO⟩ := I
  exact ⟨by dsimp only; omega, by dsimp only; omega, hI, hch, W, hxs, hnn, hR, hb, hS, hit, hcB, hcE, hcS, hcO⟩
section
variable {w : World} {mean : ExcName → Option Value} {mg mb : PySem.Str → Option Value} {dp un : Nat} {gd : Option (List Code)} {cn : PySem.Str} {cs : Scope} {a : Addr} {ccd : Value} {cl : List (PySem.Str × Addr)} {outer : List Env} {A₀ : Around} {base h₀ : Heap} {L : Addr} {m : PySem.Str → Option Value} {s : Shared} {Q E : Value → Shared → Prop} {rest : List (Addr × Obj)}
theorem law_laps {DK CL OM hm hd' rd : Nat} {kr : Tok} {vcs : List Value} {ld : List Int} {ncl nom : Nat} {xs : List Addr} {cH : Obj} {c : St} {Qf : Flow → Shared → Prop}
  (B : Below callerA base [] h₀) (X : (hd.heap_1 w.params).In h₀) (T : Top viewOf (looseW viewOf []) mean mg mb h₀)
  (F : Fr h₀ L s.heap m) (f1 : m (PySem.Str.ofString "deck") = some (.ref DK)) (f2 : m (PySem.Str.ofString "own_marks") = some (.ref OM)) (f3 : m (PySem.Str.ofString "items") = some (.ref c.IT))
  (hIv : InvL w L DK CL OM hm hd' rd xs 8 12 c) (hI1 : IntsAre vcs ld) (hld : ld.length ≤ 50) (hx0 : 0 < xs.length) (hx5 : xs.length ≤ 5) (lo : (rd == sysModules) = false) (dH : cH.data = .cell (some (.ref hm)))
  (bd : (L + 5 < DK ∧ L + 5 < CL ∧ L + 5 < OM) ∧ L + 5 < hm ∧ L + 5 < hd' ∧ L + 5 < rd) (dd : (DK ≠ CL ∧ DK ≠ OM) ∧ DK ≠ hm ∧ DK ≠ hd' ∧ DK ≠ rd)
  (N : News h₀ L s.heap (lawLed w L DK CL OM hm hd' rd kr (listOf vcs.toArray ncl) (listOf (xs.map Value.ref).toArray nom) cH c))
  (hE : PassesOwn (model PySem.Challenge.rw_ok0046_01.row.prog w) (callerA.deeper (lawEnv a ccd L)) (lawEnv a ccd L) E)
  (hret : ∀ h' tk' m', Fr h₀ L h' m' → Qf (.ret (.bool true)) { s with heap := h', toks := tk' }) :
  wpAny (model PySem.Challenge.rw_ok0046_01.row.prog w) (callerA.deeper (lawEnv a ccd L)) (execs ((bodyOf lawFn).drop 4) (lawEnv a ccd L)) Qf E s := by
  have hit := hIv.it
  have k0 := hIv.k0
  have k1 := hIv.k1
  have offD : ∀ p ∈ (CL, listOf vcs.toArray ncl) :: (OM, listOf (xs.map Value.ref).toArray nom) :: (c.IT, listOf c.ys.toArray c.ki) :: (cellsOf L cH c ++ (homeLed w hm hd' rd kr c.rO ++ marksLed w c.ms)), p.1 ≠ DK := by
    obtain ⟨⟨bd1, bd2, bd3⟩, bd4, bd5, bd6⟩ := bd
    obtain ⟨⟨dd1, dd2⟩, dd3, dd4, dd5⟩ := dd
    replace bd1 : @LT.lt Nat _ (L + 5) DK := bd1
    have it2 : @Ne Nat DK c.IT := hit _ (.head _)
    have hMD : ∀ p ∈ marksLed w c.ms, p.1 ≠ DK := marks_ne N (fun p hp => .tail _ (.tail _ (.tail _ (.tail _ (List.mem_append_right _ (List.mem_append_right _ hp)))))) (o := listOf #[.ref CL, .int c.kd c.tkd] c.nd) (.head _) (dull_list ..)
    refine offN_mem ⟨fun e => dd1 e.symm, fun e => dd2 e.symm, fun e => it2 e.symm, ?_, ?_, ?_, ?_, ?_, fun e => dd3 e.symm, fun e => dd4 e.symm, fun e => dd5 e.symm, offN hMD⟩ <;> (show @Ne Nat _ _; omega)
  have hC1 : s.heap.IsList CL vcs.toArray := ⟨_, (N (CL, listOf vcs.toArray ncl) (.tail _ (.head _))).1, rfl, _, rfl⟩
  have eCD : CL ≠ DK := fun e => dd.1.1 e.symm
  have F0 := ku_fr (ps := [(PySem.Str.ofString "deck", .ref DK), (PySem.Str.ofString "own_marks", .ref OM), (PySem.Str.ofString "items", .ref c.IT)]) (by
    intro p hp
    simp only [List.mem_cons, List.not_mem_nil, or_false] at hp
    rcases hp with rfl | rfl | rfl
    · exact f1
    · exact f2
    · exact f3) F
  clear F
  revert X
  k_fill
  intro X
  simp only [kstB] at F0
  dsimp only [lawEnv, lawFn, nth, bodyOf, scopeOf, PySem.Challenge.pw_ok0046_01, List.drop]
  walk_at "Mine.steps"
  rename Fr _ _ _ _ => kF9
  refine' forV kF9 ?f1 ?f2 ?_ ?f3 ?f4
  case f1 => with_unfolding_all rfl
  case f2 => with_unfolding_all rfl
  case f3 => intro _; with_unfolding_all rfl
  case f4 => exact hE
  walk_at "Mine.steps"
  rename Fr _ _ _ _ => kF
  refine' draw_call (by assumption) kF (by assumption) (by assumption) (by rfl) (fun p hp => N p hp) offD hC1 eCD hI1 hld k0 (by omega) (by decide) (by decide) (by ktr_room) (by ktr_units) ?_
  intro r tr tk1 h10 tk10 r0 r1 F10 N10
  walk_at "Mine.steps"
  rename IsRange _ _ _ _ _ _ _ _ => hrg
  rename Fr _ _ _ _ => kF
  rename News _ _ _ _ => kN
  refine for_rangeU (n := (3 + r - 0).toNat) (fun c => lawLed w L DK CL OM hm hd' rd kr (listOf vcs.toArray ncl) (listOf (xs.map Value.ref).toArray nom) cH c) (fun c => [(PySem.Str.ofString "deck", .ref DK), (PySem.Str.ofString "own_marks", .ref OM), (PySem.Str.ofString "items", .ref c.IT)]) (fun i c => InvL w L DK CL OM hm hd' rd xs (8 + 3 * (i : Nat)) (13 + 8 * (i : Nat)) c) { c with kd := c.kd + 1, tkd := tk1 } (by rfl) hrg (small_one (by omega) (by omega) (by omega) (by omega)) (rangeSize_nat _ _) kF kN ?_ ?_ ?_ ?_
  · intro p hp
    simp only [List.mem_cons, List.not_mem_nil, or_false] at hp
    rcases hp with rfl | rfl | rfl <;> rfl
  · simpa using hIv.drawn tk1
  · intro i t c2 u I oI h tk hi hP hoff F2 N2
    have hi2 : i < 9 := by omega
    refine lap B X T F2 hP (by omega) (by omega) hI1 hld hx0 hx5 lo dH bd dd N2 hoff ?_
    intro c' h' tk' m' I' F' g1 g2 g3 N' ho'
    refine turnU c' F' N' (.head _) (fun p hp => .tail _ hp) ho' ?_ ?_
    · intro p hp
      simp only [List.mem_cons, List.not_mem_nil, or_false] at hp
      rcases hp with rfl | rfl | rfl
      · exact g1
      · exact g2
      · exact g3
    · have e1 : (8 + 3 * ((i + 1 : Nat) : Int)) = 8 + 3 * (i : Nat) + 3 := by omega
      have e2 : (13 + 8 * ((i + 1 : Nat) : Int)) = 13 + 8 * (i : Nat) + 8 := by omega
      show InvL w L DK CL OM hm hd' rd xs (8 + 3 * ((i + 1 : Nat) : Int)) (13 + 8 * ((i + 1 : Nat) : Int)) c'
      rw [e1, e2]
      exact I'
  · intro c2 u h tk hP F2 N2
    obtain ⟨vO, dO⟩ := hP.cO
    refine law_tail B X T F2 (fun p hp => N2 p ?_) dO (fun h' tk' m' F' => hret h' tk' m' F')
    rw [List.mem_singleton.mp hp]
    simp [cellsOf]
end
end

theorem fresh_Puts : True := by
  w_top off
  trivial
section
open PySem PySem.W PyProof.Rows PySem.Calls PySem.Spec PyProof.Rows.LCg
local macro_rules | `(tactic| walk_at "Mine.stop") => `(tactic| (with_reducible show Exists _))
theorem filter_new {its : List Int} {ms : List Mk} {kvs : List (Int × Value)} (S : Same its ms kvs) {q : Int} (hq : 0 ≤ q) (hn : q ∉ kvs.map (·.1)) : (its.filter fun x => decide (x ≠ q)) = its := by
  refine List.filter_eq_self.mpr fun x hx => ?_
  refine decide_eq_true fun e => hn ((S.mem q).mp ?_)
  rw [marksOf_keys]
  exact List.mem_filter.mpr ⟨e ▸ hx, decide_eq_true hq⟩
noncomputable def putBody : List Stmt := bodyOf (nth (bodyOf lawFn) 3)
section
variable {w : World} {mean : ExcName → Option Value} {mg mb : PySem.Str → Option Value} {dp un : Nat} {gd : Option (List Code)} {cn : PySem.Str} {cs : Scope} {a : Addr} {ccd : Value} {cl : List (PySem.Str × Addr)} {outer : List Env} {A₀ : Around} {base h₀ : Heap} {L : Addr} {m : PySem.Str → Option Value} {s : Shared} {Q E : Value → Shared → Prop} {rest : List (Addr × Obj)}
theorem put_turn {DK CL OM hm hd' rd : Nat} {kr : Tok} {vcs : List Value} {ld : List Int} {ncl nom : Nat} {xs : List Addr} {cH : Obj} {top lim : Int} {c : St} {I : Nat} {oI : Obj} {k : Mk} {u : PySem.Str → Option Value} {Qf : Flow → Shared → Prop}
  (B : Below callerA base [] h₀) (X : (hd.heap_1 w.params).In h₀) (T : Top viewOf (looseW viewOf []) mean mg mb h₀)
  (F : Fr h₀ L s.heap (kstB u [(PySem.Str.ofString "deck", .ref DK), (PySem.Str.ofString "own_marks", .ref OM), (PySem.Str.ofString "items", .ref c.IT)]))
  (hIv : InvL w L DK CL OM hm hd' rd xs top lim c) (htop : top ≤ 50) (hlim : lim ≤ 900) (hI1 : IntsAre vcs ld) (hld : ld.length ≤ 50) (hx0 : 0 < xs.length) (hx5 : xs.length ≤ 5) (lo : (rd == sysModules) = false) (dH : cH.data = .cell (some (.ref hm)))
  (bd : (L + 5 < DK ∧ L + 5 < CL ∧ L + 5 < OM) ∧ L + 5 < hm ∧ L + 5 < hd' ∧ L + 5 < rd) (dd : (DK ≠ CL ∧ DK ≠ OM) ∧ DK ≠ hm ∧ DK ≠ hd' ∧ DK ≠ rd)
  (N : News h₀ L s.heap ((I, oI) :: lawLed w L DK CL OM hm hd' rd kr (listOf vcs.toArray ncl) (listOf (xs.map Value.ref).toArray nom) cH c))
  (hoff : ∀ p ∈ lawLed w L DK CL OM hm hd' rd kr (listOf vcs.toArray ncl) (listOf (xs.map Value.ref).toArray nom) cH c, p.1 ≠ I)
  (hk : k ∈ c.ms) (dO : c.cO.data = .cell (some (.ref k.x))) (hnew : k.num ∉ c.kvs.map (·.1))
  (hret : ∀ c' h' tk' m', InvL w L DK CL OM hm hd' rd xs top (lim + 1) c' → c'.cO = c.cO → c'.ms.map Mk.num = c.ms.map Mk.num → (∀ q, q ∈ c'.kvs.map (·.1) ↔ q ∈ c.kvs.map (·.1) ∨ q = k.num) → Fr h₀ L h' m' → m' (PySem.Str.ofString "deck") = some (.ref DK) → m' (PySem.Str.ofString "own_marks") = some (.ref OM) → m' (PySem.Str.ofString "items") = some (.ref c'.IT) →
    News h₀ L h' ((I, oI) :: lawLed w L DK CL OM hm hd' rd kr (listOf vcs.toArray ncl) (listOf (xs.map Value.ref).toArray nom) cH c') → (∀ p ∈ lawLed w L DK CL OM hm hd' rd kr (listOf vcs.toArray ncl) (listOf (xs.map Value.ref).toArray nom) cH c', p.1 ≠ I) → Qf .next { s with heap := h', toks := tk' }) :
  wpAny (model PySem.Challenge.rw_ok0046_01.row.prog w) (callerA.deeper (lawEnv a ccd L)) (execs putBody (lawEnv a ccd L)) Qf E s := by
  obtain ⟨kd, tkd, nd, IT, ys, its, ki, ms, rO, kvs, cB, cE, cS, cO⟩ := c
  obtain ⟨k0, k1, hI, hch, W, hxs, hnn, hR, hb, hS, hit, ⟨vB, dB⟩, ⟨vE, dE⟩, ⟨vS, dS⟩, _⟩ := hIv
  dsimp only at *
  have hml : ms.length = xs.length := by rw [← hxs, List.length_map]
  have h64 : kvs.length ≤ 5 := Nat.le_trans (bears_len (isDict_nodup hR) hb) (by omega)
  have hlen : its.length ≤ 60 := by
    have e1 := marksOf_len its 1
    have e2 := (hS.perm (isDict_nodup hR)).length_eq
    rw [List.length_map, List.length_map] at e2
    omega
  have hylen := hI.length
  generalize hDD : listOf (xs.map Value.ref).toArray nom = oOM at *
  generalize hCC : listOf vcs.toArray ncl = oCL at *
  have hA := own_off N hoff hR (by rw [← hDD]; exact dull_list ..) (by rw [← hCC]; exact dull_list ..) dB dE dS dO dH
  simp only [lawLed, cellsOf, homeLed, List.cons_append, List.nil_append] at N hoff
  have hMI : ∀ p ∈ marksLed w ms, p.1 ≠ I := fun p hp => hoff p (by simp [hp])
  have hoN := offN hoff
  simp only [OffN] at hoN
  obtain ⟨i1, i2, i3, i4, i5, i6, i7, i8, i9, i10, i11, i12, i13⟩ := hoN
  have hsM : ∀ p ∈ marksLed w ms, p ∈ (I, oI) :: (DK, listOf #[.ref CL, .int kd tkd] nd) :: (CL, oCL) :: (OM, oOM) :: (IT, listOf ys.toArray ki) :: (L + 1 + 1 + 1 + 1 + 1, cB) :: (L + 1 + 1 + 1 + 1, cE) :: (L + 1 + 1 + 1, cS) :: (L + 1 + 1, cO) :: (L + 1, cH) :: (hm, instObj 155 hd') :: (hd', dictOf [⟨PyData.keyHash w.params (PySem.Str.ofString "rows"), .str (PySem.Str.ofString "rows") kr, .ref rd⟩] 1) :: (rd, rO) :: marksLed w ms := fun p hp => by
    iterate 13 refine List.mem_cons_of_mem _ ?_
    exact hp
  have hMD : ∀ p ∈ marksLed w ms, p.1 ≠ DK := marks_ne N hsM (o := listOf #[.ref CL, .int kd tkd] nd) (by simp) (dull_list ..)
  have hMC : OwnOff (marksLed w ms) [L + 1 + 1 + 1 + 1 + 1, L + 1 + 1 + 1 + 1, L + 1 + 1 + 1, L + 1 + 1, L + 1] := by
    intro p hp b hb
    simp only [List.mem_cons, List.not_mem_nil, or_false] at hb
    rcases hb with rfl | rfl | rfl | rfl | rfl
    · exact marks_ne N hsM (o := cB) (by simp) (dull_cell dB) p hp
    · exact marks_ne N hsM (o := cE) (by simp) (dull_cell dE) p hp
    · exact marks_ne N hsM (o := cS) (by simp) (dull_cell dS) p hp
    · exact marks_ne N hsM (o := cO) (by simp) (dull_cell dO) p hp
    · exact marks_ne N hsM (o := cH) (by simp) (dull_cell dH) p hp
  obtain ⟨⟨bd1, bd2, bd3⟩, bd4, bd5, bd6⟩ := bd
  obtain ⟨⟨dd1, dd2⟩, dd3, dd4, dd5⟩ := dd
  replace bd1 : @LT.lt Nat _ (L + 5) DK := bd1
  replace bd2 : @LT.lt Nat _ (L + 5) CL := bd2
  replace bd3 : @LT.lt Nat _ (L + 5) OM := bd3
  replace bd4 : @LT.lt Nat _ (L + 5) hm := bd4
  replace bd5 : @LT.lt Nat _ (L + 5) hd' := bd5
  replace bd6 : @LT.lt Nat _ (L + 5) rd := bd6
  have it2 : @Ne Nat DK IT := hit _ (.head _)
  have it3 : @Ne Nat (L + 1 + 1 + 1 + 1 + 1) IT := hit _ (.tail _ (.head _))
  have it4 : @Ne Nat (L + 1 + 1 + 1 + 1) IT := hit _ (.tail _ (.tail _ (.head _)))
  have it5 : @Ne Nat (L + 1 + 1 + 1) IT := hit _ (.tail _ (.tail _ (.tail _ (.head _))))
  have it6 : @Ne Nat (L + 1 + 1) IT := hit _ (.tail _ (.tail _ (.tail _ (.tail _ (.head _)))))
  have it7 : @Ne Nat (L + 1) IT := hit _ (.tail _ (.tail _ (.tail _ (.tail _ (.tail _ (.head _))))))
  have offD : ∀ oCL oOM oIT cB cE cS cO cH oI o1 o2 o3, OffN DK ((CL, oCL) :: (OM, oOM) :: (IT, oIT) :: (L + 1 + 1 + 1 + 1 + 1, cB) :: (L + 1 + 1 + 1 + 1, cE) :: (L + 1 + 1 + 1, cS) :: (L + 1 + 1, cO) :: (L + 1, cH) :: (I, oI) :: (hm, o1) :: (hd', o2) :: (rd, o3) :: marksLed w ms) := by
    intros
    refine ⟨fun e => dd1 e.symm, fun e => dd2 e.symm, fun e => it2 e.symm, ?_, ?_, ?_, ?_, ?_, fun e => i1 e.symm, fun e => dd3 e.symm, fun e => dd4 e.symm, fun e => dd5 e.symm, offN hMD⟩ <;> (show @Ne Nat _ _; omega)
  replace N : News h₀ L s.heap ((DK, listOf #[.ref CL, .int kd tkd] nd) :: (CL, oCL) :: (OM, oOM) :: (IT, listOf ys.toArray ki) :: (L + 1 + 1 + 1 + 1 + 1, cB) :: (L + 1 + 1 + 1 + 1, cE) :: (L + 1 + 1 + 1, cS) :: (L + 1 + 1, cO) :: (L + 1, cH) :: (I, oI) :: (homeLed w hm hd' rd kr rO ++ marksLed w ms)) :=
    genR (pI := (I, oI)) (P := [(DK, listOf #[.ref CL, .int kd tkd] nd), (CL, oCL), (OM, oOM), (IT, listOf ys.toArray ki), (L + 1 + 1 + 1 + 1 + 1, cB), (L + 1 + 1 + 1 + 1, cE), (L + 1 + 1 + 1, cS), (L + 1 + 1, cO), (L + 1, cH)]) (R := homeLed w hm hd' rd kr rO ++ marksLed w ms) N
  have hCl : ∀ h, News h₀ L h [(CL, oCL)] → h.IsList CL vcs.toArray := fun h N => ⟨_, (N _ (.head _)).1, by rw [← hCC], _, by rw [← hCC]⟩
  have eCD : CL ≠ DK := fun e => dd1 e.symm
  clear hsM hoff
  revert X
  k_fill
  intro X
  simp only [homeLed, kstB, List.cons_append, List.nil_append] at N F
  dsimp only [putBody, lawEnv, lawFn, nth, bodyOf, scopeOf, PySem.Challenge.pw_ok0046_01, List.drop]
  walk_at "Mine.steps"
  walk_at "Mine.comp"
  walk_at "Mine.steps"
  rename Fr _ _ _ _ => kF
  rename News _ _ _ _ => kN
  refine CSrc.filter (fun q => decide (q < 0)) _ (by rfl) (kN (IT, listOf ys.toArray ki) (by k_mem)).1 rfl rfl (by rw [sizeLine_eq, hI.length]; omega) (kN (IT, listOf ys.toArray ki) (by k_mem)).2.1 (.inr (by k_mem)) kF kN hI (by rfl) (fun _ => by rfl) (by decide) ?_ ?_
  · intro q t ys C D I oL oI mC h9 tk9 E9 hq hoff n1 n2 n3 n4 n5 n6 F9 N9
    walk_at "Mine.steps"
    exact TestEnd.intro F9 N9 rfl rfl (fun p hp => hp)
  · intro D h9 tk9 ys9 hys F9 N9 hoff9
    have hl9 := hys.length
    rw [filter_nch_len] at hl9
    walk_at "Mine.steps"
    refine call_len_list (items := ys9.toArray) ⟨_, (N9 (D, lst ys9) (.head _)).1, rfl, _, rfl⟩ (by rw [List.size_toArray]; omega) ?_
    rw [List.size_toArray, hl9]
    walk_at "Mine.steps"
    rename Fr _ _ _ _ => kF
    rename News _ _ _ _ => kN
    replace kN := News.tl kN
    have hC1 := hCl _ (fun p hp => kN p (by rw [List.mem_singleton.mp hp]; exact .tail _ (.head _)))
    refine' draw_call (by assumption) kF (by assumption) (by assumption) (by rfl) (fun p hp => kN p hp) (offN_mem (offD ..)) hC1 eCD hI1 hld k0 (by omega) (by omega) (by omega) (by ktr_room) (by ktr_units) ?_
    intro r tr tk1 h10 tk10 r0 r1 F10 N10
    clear kN
    walk_at "Mine.steps"
    rename Fr _ _ _ _ => kF
    rename News _ _ _ _ => kN
    have hRo : ∀ p ∈ (I, oI) :: (DK, listOf #[.ref CL, .int (kd + 1) tk1] nd) :: (CL, oCL) :: (OM, oOM) :: (IT, listOf ys.toArray ki) :: cellsOf L cH ⟨kd, tkd, nd, IT, ys, its, ki, ms, rO, kvs, cB, cE, cS, cO⟩, (p.1 ≠ hm ∧ p.1 ≠ hd' ∧ p.1 ≠ rd) ∧ ∀ k ∈ ms, p.1 ≠ k.x ∧ p.1 ≠ k.d := fun p hp => hA p.1 (List.mem_map.mpr ⟨p, hp, rfl⟩)
    have hro := rest_off (w := w) W hk hRo
    refine' put_call (k := k) (rest := others w ms id k.num ++ ((I, oI) :: (DK, listOf #[.ref CL, .int (kd + 1) tk1] nd) :: (CL, oCL) :: (OM, oOM) :: (IT, listOf ys.toArray ki) :: cellsOf L cH ⟨kd, tkd, nd, IT, ys, its, ki, ms, rO, kvs, cB, cE, cS, cO⟩)) (kr := kr) (rO := rO) (hm := hm) (hd' := hd') (rd := rd) (kvs := kvs) (by assumption) kF (by assumption) (by assumption) (by rfl) (openM hk (toM kN)) (fun p hp => ⟨(hro p hp).1.2.2, (hro p hp).2.2⟩) (nodup5 W hk) (fun p hp => ⟨(hro p hp).1.1, (hro p hp).1.2.1, (hro p hp).2.1⟩) hR (by omega) (by ktr_room) (by ktr_units) ?_
    intro rO' h18 tk18 hR' F18 N18
    clear kN
    have N19 := fromM (closeM W hk N18)
    clear N18
    walk_at "Mine.steps"
    rename Fr _ _ _ _ => kF
    rename News _ _ _ _ => kN
    refine' gap_call (by assumption) kF (by assumption) (by assumption) (by rfl) kN ⟨_, (kN (IT, listOf ys.toArray ki) (by k_mem)).1, rfl, _, rfl⟩ hI (by omega) (by omega) (by omega) (by ktr_room) (by ktr_units) ?_
    intro tg h19 tk19 F19 N19
    clear kN
    have hk' : ({ k with pos := 1 + r, tp := tk10 } : Mk) ∈ ms.map (setTo k.num (1 + r) tk10) := List.mem_map.mpr ⟨k, hk, by unfold setTo; rw [if_pos rfl]⟩
    have N20 := News.dup (ex := Mk.objs w ({ k with pos := 1 + r, tp := tk10 } : Mk)) N19 (by
      intro p hp
      have h2 : p ∈ marksLed w (ms.map (setTo k.num (1 + r) tk10)) := List.mem_flatMap.mpr ⟨_, hk', hp⟩
      iterate 13 refine List.mem_cons_of_mem _ ?_
      exact h2)
    simp only [Mk.objs, Mk.dict, List.cons_append, List.nil_append] at N20
    clear N19
    walk_at "Mine.steps"
    rename_i D5 w5 _ hI5 _ hL5 l5 DL _ kF kN lL
    refine add_led kF kN (a := D5) (b := DL) (ws := [.int k.num k.tn]) (by k_mem) (by k_mem) hI5 (.cons _ _ .nil) (by simp only [List.length_take, List.length_cons, List.length_nil]; omega) ?_
    intro D6 w6 h20 hI6 F20 N21 l6
    clear kN
    walk_at "Mine.steps"
    rename Fr _ _ _ _ => kF
    rename News _ _ _ _ => kN
    refine' gap_call (by assumption) kF (by assumption) (by assumption) (by rfl) kN ⟨_, (kN (IT, listOf ys.toArray ki) (by k_mem)).1, rfl, _, rfl⟩ hI (by omega) (by omega) (by omega) (by ktr_room) (by ktr_units) ?_
    intro tg2 h21 tk21 F21 N22
    clear kN
    walk_at "Mine.steps"
    rename_i D8 w8 _ kF kN hI8 _ hL8 l8
    refine add_led kF kN (a := D6) (b := D8) (by k_mem) (by k_mem) hI6 hI8 (by simp only [List.length_append, List.length_take, List.length_drop, List.length_cons, List.length_nil]; omega) ?_
    intro D9 w9 h22 hI9 F22 N23 l9
    simp only [Int.toNat_natCast] at hI9
    obtain ⟨hS2, hn2⟩ := put_same hS W hb hk (hnn k hk) (a := 1 + r) (by omega) (by omega) (t := tk10) (v := .ref k.x)
    rw [filter_new hS (hnn k hk) hnew] at hS2 hn2
    generalize hits : List.take (gapN its (1 + r - 1).toNat) its ++ [k.num] ++ List.drop (gapN its (1 + r - 1).toNat) its = its9 at *
    have hoff2 : ∀ p ∈ marksLed w (ms.map (setTo k.num (1 + r) tk10)), p.1 ≠ I := marks_off_map (fun _ _ => ⟨setTo_x .., setTo_d ..⟩) hMI
    have hitD : ∀ a ∈ [DK, L + 1 + 1 + 1 + 1 + 1, L + 1 + 1 + 1 + 1, L + 1 + 1 + 1, L + 1 + 1, L + 1], @Ne Nat a D9 := by
      intro a ha
      simp only [List.mem_cons, List.not_mem_nil, or_false] at ha
      rcases ha with rfl | rfl | rfl | rfl | rfl | rfl
      · exact Nat.ne_of_lt (l9 (_, listOf #[.ref CL, .int (kd + 1) tk1] nd) (by k_mem))
      · exact Nat.ne_of_lt (l9 (_, cB) (by k_mem))
      · exact Nat.ne_of_lt (l9 (_, cE) (by k_mem))
      · exact Nat.ne_of_lt (l9 (_, cS) (by k_mem))
      · exact Nat.ne_of_lt (l9 (_, cO) (by k_mem))
      · exact Nat.ne_of_lt (l9 (_, cH) (by k_mem))
    have hDI : @Ne Nat D9 I := fun e => Nat.ne_of_lt (l9 (I, oI) (by k_mem)) e.symm
    have N24 : News h₀ L h22 ((D9, listOf w9.toArray 0) :: (DK, listOf #[.ref CL, .int (kd + 1) tk1] nd) :: (CL, oCL) :: (OM, oOM) :: (IT, listOf ys.toArray ki) :: (L + 1 + 1 + 1 + 1 + 1, cB) :: (L + 1 + 1 + 1 + 1, cE) :: (L + 1 + 1 + 1, cS) :: (L + 1 + 1, cO) :: (L + 1, cH) :: (I, oI) :: (hm, instObj 155 hd') :: (hd', dictOf [⟨PyData.keyHash w.params (PySem.Str.ofString "rows"), .str (PySem.Str.ofString "rows") kr, .ref rd⟩] 1) :: (rd, rO') :: marksLed w (ms.map (setTo k.num (1 + r) tk10))) := fun p hp => N23 p (by
      rcases List.mem_cons.mp hp with h | h
      · rw [h]; exact .head _
      · iterate 7 refine List.mem_cons_of_mem _ ?_
        exact h)
    clear N23
    clear kN
    walk_at "Mine.steps"
    rename Fr _ _ _ _ => kF
    rename News _ _ _ _ => kN
    exact hret ⟨kd + 1, tk1, nd, D9, w9, its9, 0, ms.map (setTo k.num (1 + r) tk10), rO', stored kvs k.num (.ref k.x), cB, cE, cS, cO⟩ _ _ _ ⟨by dsimp only; omega, by dsimp only; omega, hI9, by dsimp only; omega, W.set k.num (1 + r) tk10, xs_map (fun _ _ => setTo_x ..) hxs, nn_map (fun _ _ => setTo_num ..) hnn, hR', bears_map (fun _ _ => ⟨setTo_num .., setTo_x ..⟩) (bears_stored hb hk), hS2, hitD, ⟨_, dB⟩, ⟨_, dE⟩, ⟨_, dS⟩, ⟨_, dO⟩⟩ rfl (by dsimp only; rw [List.map_map]; exact List.map_congr_left fun _ _ => setTo_num ..) (fun q => mem_stored) kF rfl rfl rfl (toLaw (newIT kN)) (offN_mem ⟨i1, i2, i3, hDI, i5, i6, i7, i8, i9, i10, i11, i12, offN hoff2⟩)
end
end

theorem fresh_Law3 : True := by
  w_top off
  trivial
section
open PySem PySem.W PyProof.Rows PySem.Calls PySem.Spec PyProof.Rows.LCg
theorem InvL.setO {w : World} {L DK CL OM hm hd' rd : Nat} {xs : List Addr} {top lim : Int} {c : St} (I : InvL w L DK CL OM hm hd' rd xs top lim c) {o : Obj} {v : Option Value} (h : o.data = .cell v) :
    InvL w L DK CL OM hm hd' rd xs top lim { c with cO := o } := by
  obtain ⟨k0, k1, hI, hch, W, hxs, hnn, hR, hb, hS, hit, hcB, hcE, hcS, hcO⟩ := I
  exact ⟨k0, k1, hI, hch, W, hxs, hnn, hR, hb, hS, hit, hcB, hcE, hcS, ⟨v, h⟩⟩
theorem InvL.le {w : World} {L DK CL OM hm hd' rd : Nat} {xs : List Addr} {top lim lim' : Int} {c : St} (I : InvL w L DK CL OM hm hd' rd xs top lim c) (h : lim ≤ lim') :
    InvL w L DK CL OM hm hd' rd xs top lim' c := by
  obtain ⟨k0, k1, hI, hch, W, hxs, hnn, hR, hb, hS, hit, hcB, hcE, hcS, hcO⟩ := I
  exact ⟨k0, by omega, hI, hch, W, hxs, hnn, hR, hb, hS, hit, hcB, hcE, hcS, hcO⟩
theorem not_take {α : Type} {l : List α} (hn : l.Nodup) {i : Nat} {a : α} (h : l[i]? = some a) : a ∉ l.take i := by
  intro hm
  obtain ⟨j, hj, e⟩ := List.mem_iff_getElem.mp hm
  rw [List.length_take] at hj
  rw [List.getElem_take] at e
  have hi : i < l.length := by
    rcases Nat.lt_or_ge i l.length with h1 | h1
    · exact h1
    · rw [List.getElem?_eq_none h1] at h; cases h
  have e2 : l[i] = a := by rw [List.getElem?_eq_getElem hi] at h; exact Option.some.inj h
  have := (List.getElem_inj hn).mp (e.trans e2.symm)
  omega
theorem mem_skip {α : Type} {p a : α} {pre post : List α} : p ∈ pre ++ a :: post ↔ p = a ∨ p ∈ pre ++ post := by rw [List.mem_append, List.mem_cons, List.mem_append, or_left_comm]
/-- the ledger without the loop's own cell -/
abbrev putLed (w : World) (L DK CL OM hm hd' rd : Nat) (kr : Tok) (oCL oOM cH : Obj) (c : St) : List (Addr × Obj) :=
  (DK, listOf #[.ref CL, .int c.kd c.tkd] c.nd) :: (CL, oCL) :: (OM, oOM) :: (c.IT, listOf c.ys.toArray c.ki) :: (L + 1 + 1 + 1 + 1 + 1, c.cB) :: (L + 1 + 1 + 1 + 1, c.cE) :: (L + 1 + 1 + 1, c.cS) :: (L + 1, cH) :: (homeLed w hm hd' rd kr c.rO ++ marksLed w c.ms)
theorem putLed_mem {w : World} {L DK CL OM hm hd' rd : Nat} {kr : Tok} {oCL oOM cH : Obj} {c : St} {p : Addr × Obj} : p ∈ lawLed w L DK CL OM hm hd' rd kr oCL oOM cH c ↔ p = (L + 1 + 1, c.cO) ∨ p ∈ putLed w L DK CL OM hm hd' rd kr oCL oOM cH c :=
  mem_skip (pre := [(DK, listOf #[.ref CL, .int c.kd c.tkd] c.nd), (CL, oCL), (OM, oOM), (c.IT, listOf c.ys.toArray c.ki), (L + 1 + 1 + 1 + 1 + 1, c.cB), (L + 1 + 1 + 1 + 1, c.cE), (L + 1 + 1 + 1, c.cS)])
theorem own_cell {w : World} {h₀ h : Heap} {L DK CL OM hm hd' rd : Nat} {kr : Tok} {oCL oOM cH : Obj} {xs : List Addr} {top lim : Int} {c : St} (bd : (L + 5 < DK ∧ L + 5 < CL ∧ L + 5 < OM) ∧ L + 5 < hm ∧ L + 5 < hd' ∧ L + 5 < rd) (I : InvL w L DK CL OM hm hd' rd xs top lim c)
    (N : News h₀ L h (lawLed w L DK CL OM hm hd' rd kr oCL oOM cH c)) : ∀ p ∈ putLed w L DK CL OM hm hd' rd kr oCL oOM cH c, p.1 ≠ L + 1 + 1 := by
  obtain ⟨⟨bd1, bd2, bd3⟩, bd4, bd5, bd6⟩ := bd
  obtain ⟨v, dO⟩ := I.cO
  have it6 : @Ne Nat (L + 1 + 1) c.IT := I.it _ (.tail _ (.tail _ (.tail _ (.tail _ (.head _)))))
  have hM : ∀ p ∈ marksLed w c.ms, p.1 ≠ L + 1 + 1 := marks_ne N (fun p hp => .tail _ (.tail _ (.tail _ (.tail _ (List.mem_append_right _ (List.mem_append_right _ hp)))))) (o := c.cO) (by simp [cellsOf]) (dull_cell dO)
  refine offN_mem ⟨?_, ?_, ?_, fun e => it6 e.symm, ?_, ?_, ?_, ?_, ?_, ?_, ?_, offN hM⟩ <;> (show @Ne Nat _ _; omega)
section
variable {w : World} {mean : ExcName → Option Value} {mg mb : PySem.Str → Option Value} {dp un : Nat} {gd : Option (List Code)} {cn : PySem.Str} {cs : Scope} {a : Addr} {ccd : Value} {cl : List (PySem.Str × Addr)} {outer : List Env} {A₀ : Around} {base h₀ : Heap} {L : Addr} {m : PySem.Str → Option Value} {s : Shared} {Q E : Value → Shared → Prop} {rest : List (Addr × Obj)}
theorem law_puts {DK CL OM hm hd' rd : Nat} {kr : Tok} {vcs : List Value} {ld : List Int} {ncl nom : Nat} {xs : List Addr} {cH : Obj} {c : St} {Qf : Flow → Shared → Prop}
  (B : Below callerA base [] h₀) (X : (hd.heap_1 w.params).In h₀) (T : Top viewOf (looseW viewOf []) mean mg mb h₀)
  (F : Fr h₀ L s.heap m) (f1 : m (PySem.Str.ofString "deck") = some (.ref DK)) (f2 : m (PySem.Str.ofString "own_marks") = some (.ref OM)) (f3 : m (PySem.Str.ofString "items") = some (.ref c.IT))
  (hIv : InvL w L DK CL OM hm hd' rd xs 8 7 c) (hI1 : IntsAre vcs ld) (hld : ld.length ≤ 50) (hx0 : 0 < xs.length) (hx5 : xs.length ≤ 5) (lo : (rd == sysModules) = false) (dH : cH.data = .cell (some (.ref hm)))
  (bd : (L + 5 < DK ∧ L + 5 < CL ∧ L + 5 < OM) ∧ L + 5 < hm ∧ L + 5 < hd' ∧ L + 5 < rd) (dd : (DK ≠ CL ∧ DK ≠ OM) ∧ DK ≠ hm ∧ DK ≠ hd' ∧ DK ≠ rd)
  (N : News h₀ L s.heap (lawLed w L DK CL OM hm hd' rd kr (listOf vcs.toArray ncl) (listOf (xs.map Value.ref).toArray nom) cH c))
  (hkv : c.kvs = []) (hnd : (c.ms.map Mk.num).Nodup)
  (hE : PassesOwn (model PySem.Challenge.rw_ok0046_01.row.prog w) (callerA.deeper (lawEnv a ccd L)) (lawEnv a ccd L) E)
  (hret : ∀ h' tk' m', Fr h₀ L h' m' → Qf (.ret (.bool true)) { s with heap := h', toks := tk' }) :
  wpAny (model PySem.Challenge.rw_ok0046_01.row.prog w) (callerA.deeper (lawEnv a ccd L)) (execs ((bodyOf lawFn).drop 3) (lawEnv a ccd L)) Qf E s := by
  obtain ⟨vO, dO⟩ := hIv.cO
  have F0 := ku_fr (ps := [(PySem.Str.ofString "deck", .ref DK), (PySem.Str.ofString "own_marks", .ref OM), (PySem.Str.ofString "items", .ref c.IT)]) (by
    intro p hp
    simp only [List.mem_cons, List.not_mem_nil, or_false] at hp
    rcases hp with rfl | rfl | rfl
    · exact f1
    · exact f2
    · exact f3) F
  clear F
  revert X
  k_fill
  intro X
  simp only [kstB] at F0
  dsimp only [lawEnv, lawFn, nth, bodyOf, scopeOf, PySem.Challenge.pw_ok0046_01, List.drop]
  walk_at "Mine.steps"
  refine' forC (h₀ := h₀) (C := L + 1 + 1) ?f1 ?f2 ?f3 ?_ ?f5 ?f6
  case f1 => with_unfolding_all rfl
  case f2 => with_unfolding_all rfl
  case f3 => with_unfolding_all rfl
  case f5 => intro _; with_unfolding_all rfl
  case f6 => exact hE
  walk_at "Mine.steps"
  rename Fr _ _ _ _ => kF
  refine CellFor.intro (k := nom) (vs := xs.map Value.ref) (fun c => putLed w L DK CL OM hm hd' rd kr (listOf vcs.toArray ncl) (listOf (xs.map Value.ref).toArray nom) cH c) (fun c => [(PySem.Str.ofString "deck", .ref DK), (PySem.Str.ofString "own_marks", .ref OM), (PySem.Str.ofString "items", .ref c.IT)])
    (fun i c2 => InvL w L DK CL OM hm hd' rd xs 8 (7 + (i : Nat)) c2 ∧ c2.ms.map Mk.num = c.ms.map Mk.num ∧ ∀ q ∈ c2.kvs.map (·.1), q ∈ (c.ms.map Mk.num).take i) c (by rfl) (N (OM, listOf (xs.map Value.ref).toArray nom) (.tail _ (.tail _ (.head _)))).1 rfl rfl (fun _ => .tail _ (.tail _ (.head _))) kF (fun p hp => N p ?_) (own_cell bd hIv N) dO ?_ ⟨by simpa using hIv, rfl, by simp [hkv]⟩ ?_ ?_
  · rcases List.mem_cons.mp hp with h | h
    · exact putLed_mem.mpr (.inl h)
    · exact putLed_mem.mpr (.inr h)
  · intro p hp
    simp only [List.mem_cons, List.not_mem_nil, or_false] at hp
    rcases hp with rfl | rfl | rfl <;> rfl
  · intro i v c2 u I oI oC h tk hv ⟨hP, hn, hkeys⟩ hof hCI F2 dC N2
    obtain ⟨k, hk, rfl⟩ := at_x hP.xs i v hv
    have hi : i < xs.length := by
      rcases Nat.lt_or_ge i xs.length with h1 | h1
      · exact h1
      · rw [List.getElem?_eq_none (by rw [List.length_map]; exact h1)] at hv; cases hv
    have hnew : k.num ∉ c2.kvs.map (·.1) := fun hq => not_take (hn ▸ hnd) (i := i) (by rw [List.getElem?_map, hk]; rfl) (hn ▸ hkeys _ hq)
    refine put_turn (kr := kr) (ncl := ncl) (nom := nom) (cH := cH) (c := { c2 with cO := oC }) (I := I) (oI := oI) (k := k) B X T F2 (hP.setO dC) (by omega) (by omega) hI1 hld hx0 hx5 lo dH bd dd ?_ ?_ (List.mem_of_getElem? hk) dC hnew ?_
    · intro p hp
      refine N2 p ?_
      rcases List.mem_cons.mp hp with h | h
      · rw [h]; exact .head _
      · rcases putLed_mem.mp h with h | h
        · rw [h]; exact .tail _ (.head _)
        · exact .tail _ (.tail _ h)
    · intro p hp
      rcases putLed_mem.mp hp with h | h
      · rw [h]; exact hCI
      · exact (hof p h).1
    · intro c3 h3 tk3 m3 I3 e1 e2 e3 F3 g1 g2 g3 N3 ho3
      obtain ⟨vO3, dO3⟩ := I3.cO
      refine TurnC.intro (oC := c3.cO) c3 F3 ?_ ?_ dO3 ?_ ⟨?_, ?_, ?_⟩
      · intro p hp
        refine N3 p ?_
        rcases List.mem_cons.mp hp with h | h
        · rw [h]; exact .head _
        · refine .tail _ (putLed_mem.mpr ?_)
          rcases List.mem_cons.mp h with h | h
          · exact .inl h
          · exact .inr h
      · intro p hp
        refine ⟨ho3 p (putLed_mem.mpr (.inr hp)), ?_⟩
        exact own_cell bd I3 (News.tl N3) p hp
      · intro p hp
        simp only [List.mem_cons, List.not_mem_nil, or_false] at hp
        rcases hp with rfl | rfl | rfl
        · exact g1
        · exact g2
        · exact g3
      · have e : (7 + ((i + 1 : Nat) : Int)) = 7 + (i : Nat) + 1 := by omega
        show InvL w L DK CL OM hm hd' rd xs 8 (7 + ((i + 1 : Nat) : Int)) c3
        rw [e]; exact I3
      · rw [e2]; exact hn
      · intro q hq
        have hs : (c.ms.map Mk.num).take (i + 1) = (c.ms.map Mk.num).take i ++ [k.num] := by rw [List.take_add_one, ← hn, List.getElem?_map, hk]; rfl
        show q ∈ (c.ms.map Mk.num).take (i + 1)
        rw [hs]
        rcases (e3 q).mp hq with h | h
        · exact List.mem_append_left _ (hkeys q h)
        · rw [h]; exact List.mem_append_right _ (.head _)
  · intro c2 u h tk oC v' ⟨hP, _, _⟩ F2 dC N2 ho2
    refine law_laps (kr := kr) (ncl := ncl) (nom := nom) (cH := cH) (c := { c2 with cO := oC }) B X T F2 rfl rfl rfl ((hP.setO dC).le ?_) hI1 hld hx0 hx5 lo dH bd dd ?_ hE (fun h' tk' m' F' => hret h' tk' m' F')
    · rw [List.length_map]; omega
    · intro p hp
      refine N2 p ?_
      rcases putLed_mem.mp hp with h | h
      · rw [h]; exact .head _
      · exact .tail _ h
end
end

theorem fresh_Nums : True := by
  w_top off
  trivial
section
open PySem PySem.W PyProof.Rows PySem.Calls PySem.Spec PyProof.Rows.LCg
local macro_rules | `(tactic| walk_at "Mine.stop") => `(tactic| first | (with_reducible show wpAny _ _ (PySem.call (Value.ref 87) _) _ _ _) | (with_reducible show wpAny _ _ (PySem.call (Value.ref 155) _) _ _ _) | (with_reducible show wpAny _ _ (PySem.call (Value.builtin "list.append") _) _ _ _))
def numAt (i : Nat) : Int := (7 * (i : Nat) : Int).fmod 5
abbrev numsTo (i : Nat) : List Int := (List.range i).map numAt
theorem nums_nodup {i : Nat} (h : i ≤ 5) : (numsTo i).Nodup := by
  have : i = 0 ∨ i = 1 ∨ i = 2 ∨ i = 3 ∨ i = 4 ∨ i = 5 := by omega
  rcases this with rfl | rfl | rfl | rfl | rfl | rfl <;> decide
theorem nums_succ (i : Nat) : numsTo (i + 1) = numsTo i ++ [numAt i] := by
  rw [numsTo, List.range_succ, List.map_append]; rfl
theorem Apart.snoc {hm hd rd : Nat} {ms : List Mk} {k : Mk} (W : Apart hm hd rd ms) (h1 : hm < k.d ∧ hd < k.d ∧ rd < k.d) (h2 : ∀ m ∈ ms, m.x < k.d ∧ m.d < k.d) (h3 : k.d < k.x) (hn : ∀ m ∈ ms, m.num ≠ k.num) : Apart hm hd rd (ms ++ [k]) where
  home := W.home
  self := fun m hm' => by
    rcases List.mem_append.mp hm' with h | h
    · exact W.self m h
    · rw [List.mem_singleton.mp h]; omega
  away := fun m hm' => by
    rcases List.mem_append.mp hm' with h | h
    · exact W.away m h
    · rw [List.mem_singleton.mp h]; omega
  two := fun m hm' m' hm'' ne => by
    rcases List.mem_append.mp hm' with h | h <;> rcases List.mem_append.mp hm'' with h' | h'
    · exact W.two m h m' h' ne
    · have := h2 m h; rw [List.mem_singleton.mp h']; omega
    · have := h2 m' h'; rw [List.mem_singleton.mp h]; omega
    · rw [List.mem_singleton.mp h, List.mem_singleton.mp h'] at ne; exact absurd rfl ne
  num := fun m hm' m' hm'' e => by
    rcases List.mem_append.mp hm' with h | h <;> rcases List.mem_append.mp hm'' with h' | h'
    · exact W.num m h m' h' e
    · rw [List.mem_singleton.mp h'] at e; exact absurd e (hn m h)
    · rw [List.mem_singleton.mp h] at e; exact absurd e.symm (hn m' h')
    · rw [List.mem_singleton.mp h, List.mem_singleton.mp h']
theorem Same.nil {its : List Int} {ms ms' : List Mk} (S : Same its ms []) : Same its ms' [] :=
  ⟨S.nd, S.mem, fun q p h => absurd ((S.mem q).mp (List.mem_map.mpr ⟨_, h, rfl⟩)) (by simp)⟩
/-- the ledger without the list of markers -/
abbrev numLed (w : World) (L DK CL hm hd' rd : Nat) (kr : Tok) (oCL cH : Obj) (c : St) : List (Addr × Obj) :=
  (DK, listOf #[.ref CL, .int c.kd c.tkd] c.nd) :: (CL, oCL) :: (c.IT, listOf c.ys.toArray c.ki) :: (cellsOf L cH c ++ (homeLed w hm hd' rd kr c.rO ++ marksLed w c.ms))
theorem numLed_mem {w : World} {L DK CL OM hm hd' rd : Nat} {kr : Tok} {oCL oOM cH : Obj} {c : St} {p : Addr × Obj} : p ∈ lawLed w L DK CL OM hm hd' rd kr oCL oOM cH c ↔ p = (OM, oOM) ∨ p ∈ numLed w L DK CL hm hd' rd kr oCL cH c := by
  constructor
  · intro h
    rcases List.mem_cons.mp h with h | h
    · exact .inr (by rw [h]; exact .head _)
    · rcases List.mem_cons.mp h with h | h
      · exact .inr (by rw [h]; exact .tail _ (.head _))
      · rcases List.mem_cons.mp h with h | h
        · exact .inl h
        · exact .inr (.tail _ (.tail _ h))
  · rintro (h | h)
    · rw [h]; exact .tail _ (.tail _ (.head _))
    · rcases List.mem_cons.mp h with h | h
      · rw [h]; exact .head _
      · rcases List.mem_cons.mp h with h | h
        · rw [h]; exact .tail _ (.head _)
        · exact .tail _ (.tail _ (.tail _ h))
noncomputable def numBody : List Stmt := bodyOf (nth (bodyOf lawFn) 2)
section
variable {w : World} {mean : ExcName → Option Value} {mg mb : PySem.Str → Option Value} {dp un : Nat} {gd : Option (List Code)} {cn : PySem.Str} {cs : Scope} {a : Addr} {ccd : Value} {cl : List (PySem.Str × Addr)} {outer : List Env} {A₀ : Around} {base h₀ : Heap} {L : Addr} {m : PySem.Str → Option Value} {s : Shared} {Q E : Value → Shared → Prop} {rest : List (Addr × Obj)}
theorem num_turn {DK CL OM hm hd' rd : Nat} {kr : Tok} {vcs : List Value} {ld : List Int} {ncl nom : Nat} {cH : Obj} {lim : Int} {c : St} {I : Nat} {oI : Obj} {i : Nat} {t : Tok} {u : PySem.Str → Option Value} {Qf : Flow → Shared → Prop}
  (B : Below callerA base [] h₀) (X : (hd.heap_1 w.params).In h₀) (T : Top viewOf (looseW viewOf []) mean mg mb h₀)
  (F : Fr h₀ L s.heap (fun y => if y = PySem.Str.ofString "number" then some (.int (i : Nat) t) else kstB u [(PySem.Str.ofString "deck", .ref DK), (PySem.Str.ofString "own_marks", .ref OM), (PySem.Str.ofString "items", .ref c.IT)] y))
  (hIv : InvL w L DK CL OM hm hd' rd (c.ms.map Mk.x) 8 lim c) (hlim : lim ≤ 900) (hi : i < 5) (hml : c.ms.length = i) (hI1 : IntsAre vcs ld) (hld : ld.length ≤ 50)
  (bd : (L + 5 < DK ∧ L + 5 < CL ∧ L + 5 < OM) ∧ L + 5 < hm ∧ L + 5 < hd' ∧ L + 5 < rd) (dd : (DK ≠ CL ∧ DK ≠ OM) ∧ DK ≠ hm ∧ DK ≠ hd' ∧ DK ≠ rd)
  (N : News h₀ L s.heap ((I, oI) :: lawLed w L DK CL OM hm hd' rd kr (listOf vcs.toArray ncl) (listOf ((c.ms.map Mk.x).map Value.ref).toArray nom) cH c))
  (hoff : ∀ p ∈ lawLed w L DK CL OM hm hd' rd kr (listOf vcs.toArray ncl) (listOf ((c.ms.map Mk.x).map Value.ref).toArray nom) cH c, p.1 ≠ I)
  (hOM : ∀ p ∈ numLed w L DK CL hm hd' rd kr (listOf vcs.toArray ncl) cH c, p.1 ≠ OM) (hkv : c.kvs = []) (hnum : c.ms.map Mk.num = numsTo i)
  (hret : ∀ c' nom' h' tk' m', InvL w L DK CL OM hm hd' rd (c'.ms.map Mk.x) 8 (lim + 1) c' → c'.kvs = [] → c'.ms.length = i + 1 → c'.ms.map Mk.num = numsTo (i + 1) → Fr h₀ L h' m' → m' (PySem.Str.ofString "deck") = some (.ref DK) → m' (PySem.Str.ofString "own_marks") = some (.ref OM) → m' (PySem.Str.ofString "items") = some (.ref c'.IT) →
    News h₀ L h' ((I, oI) :: lawLed w L DK CL OM hm hd' rd kr (listOf vcs.toArray ncl) (listOf ((c'.ms.map Mk.x).map Value.ref).toArray nom') cH c') → (∀ p ∈ lawLed w L DK CL OM hm hd' rd kr (listOf vcs.toArray ncl) (listOf ((c'.ms.map Mk.x).map Value.ref).toArray nom') cH c', p.1 ≠ I) →
    (∀ p ∈ numLed w L DK CL hm hd' rd kr (listOf vcs.toArray ncl) cH c', p.1 ≠ OM) → Qf .next { s with heap := h', toks := tk' }) :
  wpAny (model PySem.Challenge.rw_ok0046_01.row.prog w) (callerA.deeper (lawEnv a ccd L)) (execs numBody (lawEnv a ccd L)) Qf E s := by
  have hit := hIv.it
  have k0 := hIv.k0
  have k1 := hIv.k1
  have offD : ∀ p ∈ (I, oI) :: (CL, listOf vcs.toArray ncl) :: (OM, listOf ((c.ms.map Mk.x).map Value.ref).toArray nom) :: (c.IT, listOf c.ys.toArray c.ki) :: (cellsOf L cH c ++ (homeLed w hm hd' rd kr c.rO ++ marksLed w c.ms)), p.1 ≠ DK := by
    have N := News.tl N
    obtain ⟨⟨bd1, bd2, bd3⟩, bd4, bd5, bd6⟩ := bd
    obtain ⟨⟨dd1, dd2⟩, dd3, dd4, dd5⟩ := dd
    replace bd1 : @LT.lt Nat _ (L + 5) DK := bd1
    have it2 : @Ne Nat DK c.IT := hit _ (.head _)
    have hMD : ∀ p ∈ marksLed w c.ms, p.1 ≠ DK := marks_ne N (fun p hp => .tail _ (.tail _ (.tail _ (.tail _ (List.mem_append_right _ (List.mem_append_right _ hp)))))) (o := listOf #[.ref CL, .int c.kd c.tkd] c.nd) (.head _) (dull_list ..)
    have hID : I ≠ DK := fun e => hoff (DK, listOf #[.ref CL, .int c.kd c.tkd] c.nd) (.head _) e.symm
    refine offN_mem ⟨hID, fun e => dd1 e.symm, fun e => dd2 e.symm, fun e => it2 e.symm, ?_, ?_, ?_, ?_, ?_, fun e => dd3 e.symm, fun e => dd4 e.symm, fun e => dd5 e.symm, offN hMD⟩ <;> (show @Ne Nat _ _; omega)
  have hC1 : s.heap.IsList CL vcs.toArray := ⟨_, (N (CL, listOf vcs.toArray ncl) (.tail _ (.tail _ (.head _)))).1, rfl, _, rfl⟩
  have eCD : CL ≠ DK := fun e => dd.1.1 e.symm
  revert X
  k_fill
  intro X
  simp only [kstB] at F
  dsimp only [numBody, lawEnv, lawFn, nth, bodyOf, scopeOf, PySem.Challenge.pw_ok0046_01, List.drop]
  walk_at "Mine.steps"
  refine' draw_call (by assumption) F (by assumption) (by assumption) (by rfl) (fun p hp => N p ?hp) offD hC1 eCD hI1 hld k0 (by omega) (by decide) (by decide) (by ktr_room) (by ktr_units) ?_
  case hp =>
    rcases List.mem_cons.mp hp with h | h
    · rw [h]; exact .tail _ (.head _)
    · rcases List.mem_cons.mp h with h | h
      · rw [h]; exact .head _
      · exact .tail _ (.tail _ h)
  intro r tr tk1 h10 tk10 r0 r1 F10 N10
  walk_at "Mine.steps"
  refine' mk_call (by assumption) F10 (by assumption) (by assumption) (by rfl) N10 (by ktr_room) (by ktr_units) ?_
  intro k h11 tk11 kn ka kp F11 N11 hfr hdx
  clear N10
  walk_at "Mine.steps"
  have hmx : ∀ m ∈ c.ms, m.x < k.d ∧ m.d < k.d := fun m hm' => by
    have h2 : ∀ p ∈ m.objs w, @LT.lt Nat _ p.1 k.d := fun p hp => hfr p (.tail _ (.tail _ (.tail _ (.tail _ (.tail _ (List.mem_append_right _ (List.mem_append_right _ (List.mem_flatMap.mpr ⟨m, hm', hp⟩))))))))
    exact ⟨h2 (m.x, instObj 87 m.d) (.head _), h2 (m.d, m.dict w) (.tail _ (.head _))⟩
  have hh : hm < k.d ∧ hd' < k.d ∧ rd < k.d := by
    have h2 : ∀ p ∈ homeLed w hm hd' rd kr c.rO, @LT.lt Nat _ p.1 k.d := fun p hp => hfr p (.tail _ (.tail _ (.tail _ (.tail _ (.tail _ (List.mem_append_right _ (List.mem_append_left _ hp)))))))
    exact ⟨h2 (hm, instObj 155 hd') (.head _), h2 (hd', _) (.tail _ (.head _)), h2 (rd, c.rO) (.tail _ (.tail _ (.head _)))⟩
  have hOk : @LT.lt Nat _ OM k.d := hfr (OM, _) (.tail _ (.tail _ (.tail _ (.head _))))
  have hIk : @LT.lt Nat _ I k.d := hfr (I, oI) (.tail _ (.head _))
  have hO := N11 (OM, listOf ((c.ms.map Mk.x).map Value.ref).toArray nom) (List.mem_append_right _ (.tail _ (.tail _ (.tail _ (.head _)))))
  have hIO : I ≠ OM := fun e => hoff (OM, listOf ((c.ms.map Mk.x).map Value.ref).toArray nom) (.tail _ (.tail _ (.head _))) e.symm
  have hkn : k.num = numAt i := kn
  refine append_at (its := ((c.ms.map Mk.x).map Value.ref).toArray) (n := nom) hO.1 (fun h12 hs12 hO12 => ?_) (by rw [List.size_toArray, List.length_map, List.length_map, sizeLine_eq]; omega)
  have F12 := F11.change hs12 hO.2.1 hO.2.2
  have eO : (((c.ms.map Mk.x).map Value.ref).toArray.push (.ref k.x)) = (((c.ms ++ [k]).map Mk.x).map Value.ref).toArray := by simp
  rw [eO] at hO12
  have hIT := hIv.it
  obtain ⟨k0, k1, hI, hch, W, hxs, hnn, hR, hb, hS, hit, hcB, hcE, hcS, hcO⟩ := hIv
  have hkm : ∀ p ∈ k.objs w, p.1 = k.x ∨ p.1 = k.d := fun p hp => objs_addr hp
  have split : ∀ p ∈ numLed w L DK CL hm hd' rd kr (listOf vcs.toArray ncl) cH { c with kd := c.kd + 1, tkd := tk1, ms := c.ms ++ [k] }, p ∈ k.objs w ∨ p ∈ numLed w L DK CL hm hd' rd kr (listOf vcs.toArray ncl) cH { c with kd := c.kd + 1, tkd := tk1 } := by
    intro p h
    rcases List.mem_cons.mp h with h | h
    · exact .inr (by rw [h]; exact .head _)
    · rcases List.mem_cons.mp h with h | h
      · exact .inr (by rw [h]; exact .tail _ (.head _))
      · rcases List.mem_cons.mp h with h | h
        · exact .inr (by rw [h]; exact .tail _ (.tail _ (.head _)))
        · rcases List.mem_append.mp h with h | h
          · exact .inr (.tail _ (.tail _ (.tail _ (List.mem_append_left _ h))))
          · rcases List.mem_append.mp h with h | h
            · exact .inr (.tail _ (.tail _ (.tail _ (List.mem_append_right _ (List.mem_append_left _ h)))))
            · have e9 : marksLed w (c.ms ++ [k]) = marksLed w c.ms ++ k.objs w := by simp [marksLed, List.flatMap_append]
              have h8 : p ∈ marksLed w (c.ms ++ [k]) := h
              rw [e9] at h8
              rcases List.mem_append.mp h8 with h | h
              · exact .inr (.tail _ (.tail _ (.tail _ (List.mem_append_right _ (List.mem_append_right _ h)))))
              · exact .inl h
  have N12 : News h₀ L h12 ((I, oI) :: lawLed w L DK CL OM hm hd' rd kr (listOf vcs.toArray ncl) (listOf (((c.ms ++ [k]).map Mk.x).map Value.ref).toArray (nom + 1)) cH { c with kd := c.kd + 1, tkd := tk1, ms := c.ms ++ [k] }) := by
    intro p hp
    rcases List.mem_cons.mp hp with h | h
    · rw [h]
      have z := N11 (I, oI) (List.mem_append_right _ (.tail _ (.head _)))
      exact ⟨(hs12.2 _ hIO).trans z.1, z.2⟩
    · rcases numLed_mem.mp h with h | h
      · rw [h]; exact ⟨hO12, hO.2⟩
      · have h4 := split p h
        rcases h4 with h | h
        · have z := N11 p (List.mem_append_left _ h)
          refine ⟨(hs12.2 _ fun e => ?_).trans z.1, z.2⟩
          replace e : @Eq Nat p.1 OM := e
          rcases hkm p h with e2 | e2
          · replace e2 : @Eq Nat p.1 k.x := e2
            omega
          · replace e2 : @Eq Nat p.1 k.d := e2
            omega
        · have hne : p.1 ≠ OM := by
            rcases List.mem_cons.mp h with h | h
            · rw [h]; exact fun e => dd.1.2 e
            · exact hOM p (.tail _ h)
          have z := N11 p (List.mem_append_right _ (by
            rcases List.mem_cons.mp h with h | h
            · rw [h]; exact .head _
            · rcases List.mem_cons.mp h with h | h
              · rw [h]; exact .tail _ (.tail _ (.head _))
              · exact .tail _ (.tail _ (.tail _ (.tail _ h)))))
          exact ⟨(hs12.2 _ hne).trans z.1, z.2⟩
  clear N11 F11
  walk_at "Mine.steps"
  rename Fr _ _ _ _ => kF
  rename News _ _ _ _ => kN
  have hnk : ∀ m ∈ c.ms, m.num ≠ k.num := by
    intro m hm' e
    have h1 : m.num ∈ numsTo i := hnum ▸ List.mem_map.mpr ⟨m, hm', rfl⟩
    have h2 := nums_nodup (i := i + 1) (by omega)
    rw [nums_succ] at h2
    exact (List.nodup_append.mp h2).2.2 _ h1 _ (.head _) (e.trans hkn)
  refine hret { c with kd := c.kd + 1, tkd := tk1, ms := c.ms ++ [k] } (nom + 1) h12 _ _ ⟨by dsimp only; omega, by dsimp only; omega, hI, hch, W.snoc hh hmx hdx hnk, rfl, ?_, hR, ?_, ?_, hit, hcB, hcE, hcS, hcO⟩ hkv (by simp [hml]) ?_ kF rfl rfl rfl kN ?_ ?_
  · intro m hm'
    rcases List.mem_append.mp hm' with h | h
    · exact hnn m h
    · rw [List.mem_singleton.mp h, hkn]; exact fmod_lo _ (by decide)
  · intro q v h
    rw [show c.kvs = [] from hkv] at h; cases h
  · have hS2 := hS
    show Same c.its (c.ms ++ [k]) c.kvs
    rw [hkv] at hS2 ⊢
    exact hS2.nil
  · show (c.ms ++ [k]).map Mk.num = numsTo (i + 1)
    rw [List.map_append, hnum, nums_succ, ← hkn]; rfl
  · intro p hp
    rcases numLed_mem.mp hp with h | h
    · rw [h]; exact fun e => hIO e.symm
    · rcases split p h with h | h
      · intro e
        replace e : @Eq Nat p.1 I := e
        rcases hkm p h with e2 | e2
        · replace e2 : @Eq Nat p.1 k.x := e2
          omega
        · replace e2 : @Eq Nat p.1 k.d := e2
          omega
      · rcases List.mem_cons.mp h with h | h
        · rw [h]; exact hoff (DK, listOf #[.ref CL, .int c.kd c.tkd] c.nd) (.head _)
        · exact hoff p (numLed_mem.mpr (.inr (.tail _ h)))
  · intro p hp
    rcases split p hp with h | h
    · intro e
      replace e : @Eq Nat p.1 OM := e
      rcases hkm p h with e2 | e2
      · replace e2 : @Eq Nat p.1 k.x := e2
        omega
      · replace e2 : @Eq Nat p.1 k.d := e2
        omega
    · rcases List.mem_cons.mp h with h | h
      · rw [h]; exact fun e => dd.1.2 e
      · exact hOM p (.tail _ h)
end
end

theorem fresh_Nums2 : True := by
  w_top off
  trivial
section
open PySem PySem.W PyProof.Rows PySem.Calls PySem.Spec PyProof.Rows.LCg
section
variable {w : World} {mean : ExcName → Option Value} {mg mb : PySem.Str → Option Value} {dp un : Nat} {gd : Option (List Code)} {cn : PySem.Str} {cs : Scope} {a : Addr} {ccd : Value} {cl : List (PySem.Str × Addr)} {outer : List Env} {A₀ : Around} {base h₀ : Heap} {L : Addr} {m : PySem.Str → Option Value} {s : Shared} {Q E : Value → Shared → Prop} {rest : List (Addr × Obj)}
theorem law_nums {DK CL OM hm hd' rd : Nat} {kr : Tok} {vcs : List Value} {ld : List Int} {ncl nom : Nat} {cH : Obj} {c : St} {Qf : Flow → Shared → Prop}
  (B : Below callerA base [] h₀) (X : (hd.heap_1 w.params).In h₀) (T : Top viewOf (looseW viewOf []) mean mg mb h₀)
  (F : Fr h₀ L s.heap m) (f1 : m (PySem.Str.ofString "deck") = some (.ref DK)) (f2 : m (PySem.Str.ofString "own_marks") = some (.ref OM)) (f3 : m (PySem.Str.ofString "items") = some (.ref c.IT))
  (hIv : InvL w L DK CL OM hm hd' rd (c.ms.map Mk.x) 8 1 c) (hml : c.ms = []) (hkv : c.kvs = []) (hI1 : IntsAre vcs ld) (hld : ld.length ≤ 50) (lo : (rd == sysModules) = false) (dH : cH.data = .cell (some (.ref hm)))
  (bd : (L + 5 < DK ∧ L + 5 < CL ∧ L + 5 < OM) ∧ L + 5 < hm ∧ L + 5 < hd' ∧ L + 5 < rd) (dd : (DK ≠ CL ∧ DK ≠ OM) ∧ DK ≠ hm ∧ DK ≠ hd' ∧ DK ≠ rd)
  (N : News h₀ L s.heap (lawLed w L DK CL OM hm hd' rd kr (listOf vcs.toArray ncl) (listOf ((c.ms.map Mk.x).map Value.ref).toArray nom) cH c))
  (hOM : ∀ p ∈ numLed w L DK CL hm hd' rd kr (listOf vcs.toArray ncl) cH c, p.1 ≠ OM)
  (hE : PassesOwn (model PySem.Challenge.rw_ok0046_01.row.prog w) (callerA.deeper (lawEnv a ccd L)) (lawEnv a ccd L) E)
  (hret : ∀ h' tk' m', Fr h₀ L h' m' → Qf (.ret (.bool true)) { s with heap := h', toks := tk' }) :
  wpAny (model PySem.Challenge.rw_ok0046_01.row.prog w) (callerA.deeper (lawEnv a ccd L)) (execs ((bodyOf lawFn).drop 2) (lawEnv a ccd L)) Qf E s := by
  have hit := hIv.it
  have k0 := hIv.k0
  have k1 := hIv.k1
  have offD : ∀ p ∈ (CL, listOf vcs.toArray ncl) :: (OM, listOf ((c.ms.map Mk.x).map Value.ref).toArray nom) :: (c.IT, listOf c.ys.toArray c.ki) :: (cellsOf L cH c ++ (homeLed w hm hd' rd kr c.rO ++ marksLed w c.ms)), p.1 ≠ DK := by
    obtain ⟨⟨bd1, bd2, bd3⟩, bd4, bd5, bd6⟩ := bd
    obtain ⟨⟨dd1, dd2⟩, dd3, dd4, dd5⟩ := dd
    replace bd1 : @LT.lt Nat _ (L + 5) DK := bd1
    have it2 : @Ne Nat DK c.IT := hit _ (.head _)
    have hMD : ∀ p ∈ marksLed w c.ms, p.1 ≠ DK := marks_ne N (fun p hp => .tail _ (.tail _ (.tail _ (.tail _ (List.mem_append_right _ (List.mem_append_right _ hp)))))) (o := listOf #[.ref CL, .int c.kd c.tkd] c.nd) (.head _) (dull_list ..)
    refine offN_mem ⟨fun e => dd1 e.symm, fun e => dd2 e.symm, fun e => it2 e.symm, ?_, ?_, ?_, ?_, ?_, fun e => dd3 e.symm, fun e => dd4 e.symm, fun e => dd5 e.symm, offN hMD⟩ <;> (show @Ne Nat _ _; omega)
  have hC1 : s.heap.IsList CL vcs.toArray := ⟨_, (N (CL, listOf vcs.toArray ncl) (.tail _ (.head _))).1, rfl, _, rfl⟩
  have eCD : CL ≠ DK := fun e => dd.1.1 e.symm
  have F0 := ku_fr (ps := [(PySem.Str.ofString "deck", .ref DK), (PySem.Str.ofString "own_marks", .ref OM), (PySem.Str.ofString "items", .ref c.IT)]) (by
    intro p hp
    simp only [List.mem_cons, List.not_mem_nil, or_false] at hp
    rcases hp with rfl | rfl | rfl
    · exact f1
    · exact f2
    · exact f3) F
  clear F
  revert X
  k_fill
  intro X
  simp only [kstB] at F0
  dsimp only [lawEnv, lawFn, nth, bodyOf, scopeOf, PySem.Challenge.pw_ok0046_01, List.drop]
  walk_at "Mine.steps"
  rename Fr _ _ _ _ => kF9
  refine' forV kF9 ?f1 ?f2 ?_ ?f3 ?f4
  case f1 => with_unfolding_all rfl
  case f2 => with_unfolding_all rfl
  case f3 => intro _; with_unfolding_all rfl
  case f4 => exact hE
  walk_at "Mine.steps"
  rename Fr _ _ _ _ => kF
  refine' draw_call (by assumption) kF (by assumption) (by assumption) (by rfl) (fun p hp => N p hp) offD hC1 eCD hI1 hld k0 (by omega) (by decide) (by decide) (by ktr_room) (by ktr_units) ?_
  intro r tr tk1 h10 tk10 r0 r1 F10 N10
  have r9 : id (r < 5) := r1
  have r2 : r < 1000 := by omega
  clear r1
  walk_at "Mine.steps"
  have r1 : r < 5 := r9
  rename IsRange _ _ _ _ _ _ _ _ => hrg
  rename Fr _ _ _ _ => kF
  rename News _ _ _ _ => kN
  refine for_rangeU (n := (1 + r - 0).toNat) (fun c : St × Nat => lawLed w L DK CL OM hm hd' rd kr (listOf vcs.toArray ncl) (listOf ((c.1.ms.map Mk.x).map Value.ref).toArray c.2) cH c.1) (fun c => [(PySem.Str.ofString "deck", .ref DK), (PySem.Str.ofString "own_marks", .ref OM), (PySem.Str.ofString "items", .ref c.1.IT)])
    (fun i c => InvL w L DK CL OM hm hd' rd (c.1.ms.map Mk.x) 8 (2 + (i : Nat)) c.1 ∧ c.1.kvs = [] ∧ c.1.ms.length = i ∧ c.1.ms.map Mk.num = numsTo i ∧ ∀ p ∈ numLed w L DK CL hm hd' rd kr (listOf vcs.toArray ncl) cH c.1, p.1 ≠ OM) ({ c with kd := c.kd + 1, tkd := tk1 }, nom) (by rfl) hrg (small_one (by omega) (by omega) (by omega) (by omega)) (rangeSize_nat _ _) kF kN ?_ ⟨by simpa using hIv.drawn tk1, hkv, by dsimp only; rw [hml]; rfl, by dsimp only; rw [hml]; rfl, ?_⟩ ?_ ?_
  · intro p hp
    simp only [List.mem_cons, List.not_mem_nil, or_false] at hp
    rcases hp with rfl | rfl | rfl <;> rfl
  · intro p hp
    rcases List.mem_cons.mp hp with h | h
    · rw [h]; exact fun e => dd.1.2 e
    · exact hOM p (.tail _ h)
  · intro i t c2 u I oI h tk hi ⟨hP, hkv2, hl2, hn2, ho2⟩ hoff F2 N2
    have hi2 : i < 5 := by omega
    refine num_turn B X T F2 hP (by omega) hi2 hl2 hI1 hld bd dd N2 hoff ho2 hkv2 hn2 ?_
    intro c' nom' h' tk' m' I' e1 e2 e3 F' g1 g2 g3 N' ho' hm'
    refine turnU (c', nom') F' N' (.head _) (fun p hp => .tail _ hp) ho' ?_ ⟨?_, e1, e2, e3, hm'⟩
    · intro p hp
      simp only [List.mem_cons, List.not_mem_nil, or_false] at hp
      rcases hp with rfl | rfl | rfl
      · exact g1
      · exact g2
      · exact g3
    · have e2 : (2 + ((i + 1 : Nat) : Int)) = 2 + (i : Nat) + 1 := by omega
      show InvL w L DK CL OM hm hd' rd (c'.ms.map Mk.x) 8 (2 + ((i + 1 : Nat) : Int)) c'
      rw [e2]
      exact I'
  · intro c2 u h tk ⟨hP, hkv2, hl2, hn2, ho2⟩ F2 N2
    refine law_puts (c := c2.1) B X T F2 rfl rfl rfl (hP.le (by omega)) hI1 hld (by rw [List.length_map, hl2]; omega) (by rw [List.length_map, hl2]; omega) lo dH bd dd N2 hkv2 (by rw [hn2]; exact nums_nodup (by omega)) hE (fun h' tk' m' F' => hret h' tk' m' F')
end
end

theorem fresh_Head : True := by
  w_top off
  trivial
section
open PySem PySem.W PyProof.Rows PySem.Calls PySem.Spec PyProof.Rows.LCg
local macro_rules | `(tactic| walk_at "Mine.stop") => `(tactic| first | (with_reducible show Exists _) | (with_reducible show wpAny _ _ (PySem.call (Value.ref 87) _) _ _ _) | (with_reducible show wpAny _ _ (PySem.call (Value.ref 155) _) _ _ _))
theorem News.mid {h₀ h : Heap} {L : Addr} {a b c : Addr × Obj} {H r : List (Addr × Obj)} (N : News h₀ L h (a :: b :: (H ++ (c :: r)))) : News h₀ L h (c :: a :: b :: (H ++ r)) := fun p hp => N p (by
  rcases List.mem_cons.mp hp with h | hp
  · rw [h]; exact .tail _ (.tail _ (List.mem_append_right _ (.head _)))
  · rcases List.mem_cons.mp hp with h | hp
    · rw [h]; exact .head _
    · rcases List.mem_cons.mp hp with h | hp
      · rw [h]; exact .tail _ (.head _)
      · rcases List.mem_append.mp hp with h | h
        · exact .tail _ (.tail _ (List.mem_append_left _ h))
        · exact .tail _ (.tail _ (List.mem_append_right _ (.tail _ h))))
theorem head_ord {L CL DK hd' hm rd OM IL IT : Nat} (h5 : L + 1 + 1 + 1 + 1 + 1 < CL) (c1 : CL < DK) (c2 : DK < hd') (o1 : hd' < hm) (o2 : hm < rd) (c3 : rd < OM) (c4 : OM < IL) (c6 : IL < IT) :
    ((L + 5 < DK ∧ L + 5 < CL ∧ L + 5 < OM) ∧ L + 5 < hm ∧ L + 5 < hd' ∧ L + 5 < rd) ∧ ((DK ≠ CL ∧ DK ≠ OM) ∧ DK ≠ hm ∧ DK ≠ hd' ∧ DK ≠ rd) ∧ (hm ≠ hd' ∧ hm ≠ rd ∧ hd' ≠ rd) ∧
    (DK ≠ IT ∧ L + 1 + 1 + 1 + 1 + 1 ≠ IT ∧ L + 1 + 1 + 1 + 1 ≠ IT ∧ L + 1 + 1 + 1 ≠ IT ∧ L + 1 + 1 ≠ IT ∧ L + 1 ≠ IT) ∧
    (DK ≠ OM ∧ CL ≠ OM ∧ IT ≠ OM ∧ L + 1 + 1 + 1 + 1 + 1 ≠ OM ∧ L + 1 + 1 + 1 + 1 ≠ OM ∧ L + 1 + 1 + 1 ≠ OM ∧ L + 1 + 1 ≠ OM ∧ L + 1 ≠ OM ∧ hm ≠ OM ∧ hd' ≠ OM ∧ rd ≠ OM) := by omega
theorem head_off {L D0 CL DK hd' hm rd OM IL : Nat} (h0 : D0 < CL) (h5 : L + 1 + 1 + 1 + 1 + 1 < CL) (c1 : CL < DK) (c2 : DK < hd') (o1 : hd' < hm) (o2 : hm < rd) (c3 : rd < OM) (c4 : OM < IL) :
    IL ≠ DK ∧ OM ≠ DK ∧ hm ≠ DK ∧ hd' ≠ DK ∧ rd ≠ DK ∧ CL ≠ DK ∧ D0 ≠ DK ∧ L + 1 + 1 + 1 + 1 + 1 ≠ DK ∧ L + 1 + 1 + 1 + 1 ≠ DK ∧ L + 1 + 1 + 1 ≠ DK ∧ L + 1 + 1 ≠ DK ∧ L + 1 ≠ DK ∧ True := by
  refine ⟨?_, ?_, ?_, ?_, ?_, ?_, ?_, ?_, ?_, ?_, ?_, ?_, trivial⟩ <;> omega
section
variable {w : World} {mean : ExcName → Option Value} {mg mb : PySem.Str → Option Value} {dp un : Nat} {gd : Option (List Code)} {cn : PySem.Str} {cs : Scope} {a : Addr} {ccd : Value} {cl : List (PySem.Str × Addr)} {outer : List Env} {A₀ : Around} {base h₀ : Heap} {L : Addr} {m : PySem.Str → Option Value} {s : Shared} {Q E : Value → Shared → Prop} {rest : List (Addr × Obj)}
theorem law_head {sl : Addr} {vs : List Value} {ns : List Int} {cB cE cS cO cH : Obj} {Qf : Flow → Shared → Prop}
  (B : Below callerA base [] h₀) (X : (hd.heap_1 w.params).In h₀) (T : Top viewOf (looseW viewOf []) mean mg mb h₀)
  (F : Fr h₀ L s.heap m) (hm : m (PySem.Str.ofString "script") = some (.ref sl)) (hs : h₀.IsList sl vs.toArray) (hI : IntsAre vs ns) (hl : ns.length ≤ 63)
  (N : News h₀ L s.heap [(L + 1 + 1 + 1 + 1 + 1, cB), (L + 1 + 1 + 1 + 1, cE), (L + 1 + 1 + 1, cS), (L + 1 + 1, cO), (L + 1, cH)])
  (dB : cB.data = .cell none) (dE : cE.data = .cell none) (dS : cS.data = .cell none) (dO : cO.data = .cell none) (dH : cH.data = .cell none)
  (hE : PassesOwn (model PySem.Challenge.rw_ok0046_01.row.prog w) (callerA.deeper (lawEnv a ccd L)) (lawEnv a ccd L) E)
  (hret : ∀ h' tk' m', Fr h₀ L h' m' → Qf (.ret (.bool true)) { s with heap := h', toks := tk' }) :
  wpAny (model PySem.Challenge.rw_ok0046_01.row.prog w) (callerA.deeper (lawEnv a ccd L)) (execs (bodyOf lawFn) (lawEnv a ccd L)) Qf E s := by
  have F0 := fr_name hm F
  clear F
  revert X
  k_fill
  intro X
  have hT : ∀ T2, T2 = (bodyOf lawFn).drop 2 → bodyOf lawFn = nth (bodyOf lawFn) 0 :: nth (bodyOf lawFn) 1 :: T2 := by
    rintro _ rfl
    rfl
  obtain ⟨T2, eT2⟩ : ∃ T2, T2 = (bodyOf lawFn).drop 2 := ⟨_, rfl⟩
  rw [hT T2 eT2]
  dsimp only [lawEnv, lawFn, nth, bodyOf, scopeOf, PySem.Challenge.pw_ok0046_01]
  walk_at "Mine.steps"
  walk_at "Mine.comp"
  walk_at "Mine.steps"
  rename_i D0 w0 _ F1 N1 hI0 _ hL0 l0
  have hlen0 : (List.take (Int.toNat 50) ns).length ≤ 50 := by rw [List.length_take]; exact Nat.min_le_left ..
  refine CSrc.mapB (List.take (Int.toNat 50) ns) (fun q v => ∃ t, v = .int q t) (fun q => if q < 0 then -q else q) _ (by rfl) (N1 (D0, listOf w0.toArray 0) (.head _)).1 rfl rfl (by rw [sizeLine_eq, hI0.length]; omega) (N1 (D0, listOf w0.toArray 0) (.head _)).2.1 (.inr (.head _)) F1 N1 hI0.length (fun i v hv => by obtain ⟨q, t, h1, h2⟩ := int_at hI0 hv; exact ⟨q, h1, t, h2⟩) (by rfl) (fun _ => by rfl) ?_ ?_
  · intro q v ys C D I oL oI mC h tk E' hq hv hoffx n1 n2 n3 n4 n5 n6 F2 N2
    obtain ⟨t, rfl⟩ := hv
    walk_at "Mine.steps"
    rename Fr _ _ _ _ => kF
    rename News _ _ _ _ => kN
    exact ⟨_, _, _, _, rfl, rfl, kF, kN⟩
  · intro CL h tk ys hDs hys F2 N2 hoffx
    have c0 : @LT.lt Nat _ D0 CL := Nat.lt_trans (Heap.lt_size (N1 (D0, listOf w0.toArray 0) (.head _)).1) hDs
    have c5 : @LT.lt Nat _ (L + 1 + 1 + 1 + 1 + 1) CL := Nat.lt_trans (Heap.lt_size (N1 (L + 1 + 1 + 1 + 1 + 1, cB) (.tail _ (.head _))).1) hDs
    have hI1 := hys
    have hld : (List.map (fun q : Int => if q < 0 then -q else q) (List.take (Int.toNat 50) ns)).length ≤ 50 := by rw [List.length_map]; exact hlen0
    walk_at "Mine.steps"
    rename_i DK _ lDK _ kF kN
    have c1 : @LT.lt Nat _ CL DK := lDK.1
    refine' home_call (by assumption) kF (by assumption) (by assumption) (by rfl) kN (by ktr_room) (by ktr_units) ?_
    intro hm hd' rd kr rO h3 tk3 hR lo ho1 ho2 ho3 F3 N3
    have c2 : @LT.lt Nat _ DK hd' := ho3 _ (.head _)
    clear kN
    walk_at "Mine.steps"
    rename_i OM _ lOM IL _ kF kN lIL
    have c3 : @LT.lt Nat _ rd OM := lOM.2.2.1
    have c4 : @LT.lt Nat _ OM IL := lIL.1
    have hC1 : Heap.IsList _ CL ys.toArray := ⟨_, (kN (CL, lst ys) (.tail _ (.tail _ (List.mem_append_right _ (.tail _ (.head _)))))).1, rfl, _, rfl⟩
    refine' draw_call (by assumption) kF (by assumption) (by assumption) (by rfl) (News.mid kN) ?offD hC1 (fun e => absurd c1 (e ▸ Nat.lt_irrefl _)) hI1 hld (by decide) (by decide) (by decide) (by decide) (by ktr_room) (by ktr_units) ?_
    case offD => exact offN_mem (head_off c0 c5 c1 c2 ho1 ho2 c3 c4)
    intro r tr tk1 h10 tk10 r0 r1 F10 N10
    clear kN
    walk_at "Mine.steps"
    rename Fr _ _ _ _ => kF
    rename News _ _ _ _ => kN
    refine mul_one_list kF kN (l := IL) (.tail _ (.head _)) (by omega) (by omega) ?_
    intro IT us h11 hus F11 N11 lIT
    have c6 : @LT.lt Nat _ IL IT := lIT (IL, _) (.tail _ (.head _))
    clear kN
    walk_at "Mine.steps"
    rename Obj.data _ = Data.cell (some (Value.ref hm)) => dH2
    rename Fr _ _ _ _ => kF
    rename News _ _ _ _ => kN
    have ho := head_ord c5 c1 c2 ho1 ho2 c3 c4 c6
    subst eT2
    refine law_nums (DK := DK) (CL := CL) (OM := OM) (hm := hm) (hd' := hd') (rd := rd) (kr := kr) (vcs := ys) (ncl := ys.length) (nom := 0) (c := ⟨0 + 1, tk1, 0, IT, us, List.replicate (1 + r).toNat (-1), 0, [], rO, [], cB, cE, cS, cO⟩) B X T kF rfl rfl rfl ⟨by dsimp only; omega, by dsimp only; omega, hus, ?ch, ?ap, rfl, nofun, hR, nofun, ?sm, ?it, ⟨_, dB⟩, ⟨_, dE⟩, ⟨_, dS⟩, ⟨_, dO⟩⟩ rfl rfl hI1 hld lo dH2 ho.1 ho.2.1 (List.forall_mem_cons.mpr ⟨kN _ (.tail _ (.tail _ (.head _))), List.forall_mem_cons.mpr ⟨kN _ (.tail _ (.tail _ (.tail _ (.tail _ (.tail _ (.tail _ (.tail _ (.tail _ (.head _))))))))), List.forall_mem_cons.mpr ⟨kN _ (.tail _ (.tail _ (.tail _ (.tail _ (.head _))))), List.forall_mem_cons.mpr ⟨kN _ (.tail _ (.head _)), List.forall_mem_cons.mpr ⟨kN _ (.tail _ (.tail _ (.tail _ (.tail _ (.tail _ (.tail _ (.tail _ (.tail _ (.tail _ (.tail _ (.head _))))))))))), List.forall_mem_cons.mpr ⟨kN _ (.tail _ (.tail _ (.tail _ (.tail _ (.tail _ (.tail _ (.tail _ (.tail _ (.tail _ (.tail _ (.tail _ (.head _)))))))))))), List.forall_mem_cons.mpr ⟨kN _ (.tail _ (.tail _ (.tail _ (.tail _ (.tail _ (.tail _ (.tail _ (.tail _ (.tail _ (.tail _ (.tail _ (.tail _ (.head _))))))))))))), List.forall_mem_cons.mpr ⟨kN _ (.tail _ (.tail _ (.tail _ (.tail _ (.tail _ (.tail _ (.tail _ (.tail _ (.tail _ (.tail _ (.tail _ (.tail _ (.tail _ (.head _)))))))))))))), List.forall_mem_cons.mpr ⟨kN _ (.tail _ (.tail _ (.tail _ (.tail _ (.tail _ (.tail _ (.tail _ (.tail _ (.tail _ (.tail _ (.tail _ (.tail _ (.tail _ (.tail _ (.head _))))))))))))))), List.forall_mem_cons.mpr ⟨kN _ (.tail _ (.tail _ (.tail _ (.tail _ (.tail _ (.head _)))))), List.forall_mem_cons.mpr ⟨kN _ (.tail _ (.tail _ (.tail _ (.tail _ (.tail _ (.tail _ (.head _))))))), List.forall_mem_cons.mpr ⟨kN _ (.tail _ (.tail _ (.tail _ (.tail _ (.tail _ (.tail _ (.tail _ (.head _)))))))), List.forall_mem_nil _⟩⟩⟩⟩⟩⟩⟩⟩⟩⟩⟩⟩) ?om hE hret
    case ch => dsimp only; rw [nch_rep]; omega
    case ap => exact ⟨ho.2.2.1, nofun, nofun, nofun, nofun⟩
    case sm => exact ⟨by dsimp only; rw [marksOf_rep]; exact List.nodup_nil, fun q => by dsimp only; rw [marksOf_rep]; simp, fun q p h => by dsimp only at h; rw [marksOf_rep] at h; cases h⟩
    case it =>
      obtain ⟨_, _, _, ⟨t1, t2, t3, t4, t5, t6⟩, _⟩ := ho
      intro a ha
      simp only [List.mem_cons, List.not_mem_nil, or_false] at ha
      rcases ha with rfl | rfl | rfl | rfl | rfl | rfl <;> assumption
    case om =>
      obtain ⟨_, _, _, _, t1, t2, t3, t4, t5, t6, t7, t8, t9, ta, tb⟩ := ho
      exact offN_mem ⟨t1, t2, t3, t4, t5, t6, t7, t8, t9, ta, tb, trivial⟩
end
end

theorem fresh_Fin : True := by
  w_top off
  trivial
section
open PySem PySem.W PyProof.Rows PySem.Calls PySem.Spec PyProof.Rows.LCg
theorem fin : PySem.Challenge.rw_ok0046_01.Holds := hd (by
  w_strict (k_go0; (
    rename Fr _ _ _ _ => kF
    rename News _ _ _ _ => kN
    rename Heap.IsList _ _ _ => hL
    rename IntsAre _ _ => hI
    refine' law_head (by assumption) (by assumption) (by assumption) kF ?hm hL hI ?hl kN ?d1 ?d2 ?d3 ?d4 ?d5 ?hE ?hret
    case hm => with_unfolding_all rfl
    case hl => omega
    case d1 => with_unfolding_all assumption
    case d2 => with_unfolding_all assumption
    case d3 => with_unfolding_all assumption
    case d4 => with_unfolding_all assumption
    case d5 => with_unfolding_all assumption
    case hE => with_unfolding_all passes_own
    case hret =>
      intro h' tk' m' F'
      dsimp only
      first
      | exact goodW_bool F' (by assumption) (fun _ => rfl) (by rfl)
      | walk_at "Mine.steps")))
end

end Mine
theorem PySem.Challenge.cw_ok0046_01_holds : PySem.Challenge.rw_ok0046_01.Holds :=
  Mine.fin
