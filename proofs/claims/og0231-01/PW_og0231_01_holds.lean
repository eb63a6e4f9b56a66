import PyProof.Rows.All
import Wide.All
import OpenK.AllK
import Wide.FinOn
import Lean
import PySem.Challenge.RW_og0231_01
open PySem PySem.W PySem.Calls PyProof.Rows
set_option Elab.async false
set_option linter.all false
namespace Mine
set_option maxRecDepth 100000 in
set_option maxHeartbeats 8000000 in
open_top hd for PySem.Challenge.rw_og0231_01
set_option maxRecDepth 100000
set_option maxHeartbeats 1000000
section
noncomputable abbrev PG : Program := PySem.Challenge.rw_og0231_01.prog

noncomputable abbrev Clm (A : Around) : Around := { handled := none, depth := A.depth, frames := A.frames, guards := A.guards, units := A.units }
structure HidV {α : Type} (Q1 Q : α → Shared → Prop) : Prop where
  get : ∀ v s', Q v s' → Q1 v s'
theorem hide_post {α : Type} {M : Model} {A : Around} {t : Sem α} {Q : α → Shared → Prop} {E : Value → Shared → Prop} {s : Shared} (h : ∀ Q1, HidV Q1 Q → wpAny M A t Q1 E s) : wpAny M A t Q E s := h Q ⟨fun _ _ h => h⟩
theorem hide_exc {α : Type} {M : Model} {A : Around} {t : Sem α} {Q : α → Shared → Prop} {E : Value → Shared → Prop} {s : Shared} (h : ∀ E1, wpAny M A t Q E1 s) : wpAny M A t Q E s := h E
def Hdn (G : Prop) : Prop := G → False
theorem Hdn.get {G : Prop} (h : Hdn G) (g : G) : False := h g
theorem hide_goal {G : Prop} (h : Hdn G → False) : G := Classical.byContradiction h
def Con (w : World) (p : Program) (loose : List Str) (mean : ExcName → Option Value) (mg mb : Str → Option Value) (f : Addr) (dep : Nat) (args : List Value)
    (pre : List (Addr × Obj) → Prop → Prop) (post : List (Addr × Obj) → (Value → List (Addr × Obj) → Prop) → Prop) : Prop :=
  ∀ (A : Around) (env : Env) (outer : List Env) (A₀ : Around) (base h₀ : Heap) (L : Addr) (m : Str → Option Value) (news : List (Addr × Obj)) (hp0 : Heap) (G0 : Array GenState) (Dr0 : Drawn) (tk0 : Nat) (O0 : OsState)
    (Q E : Value → Shared → Prop), A.frames = some (env :: outer) → env.frame = some L → env.scope.kind = .function →
    Below A₀ base outer h₀ → Fr h₀ L hp0 m → (hd.heap_39 w.params).In h₀ → News h₀ L hp0 news → Top p loose mean mg mb h₀ → A.depth + dep < recursionLimit → A.units + 8 * dep < cLine →
    pre news (post news (fun r nw => ∀ h' tk', Fr h₀ L h' m → News h₀ L h' nw → Q r ⟨h', G0, Dr0, tk', O0⟩) →
    wpAny (model PG w) (Clm A) (call (.ref f) args) Q E ⟨hp0, G0, Dr0, tk0, O0⟩)
theorem room {a k k' r : Nat} (h : a + k < r) (hk : k' ≤ k) : a + k' < r := Nat.lt_of_le_of_lt (Nat.add_le_add_left hk a) h
section
variable {prog : Program} {w : World} {A₀ A : Around} {base h₀ : Heap} {env : Env} {outer : List Env} {L : Addr} {m : Str → Option Value} {news : List (Addr × Obj)} {s : Shared} {K : Frag} {p : Program} {loose : List Str} {mean : ExcName → Option Value} {mg mb : Str → Option Value}
  {R : Result → Shared → Prop} {name qual : Str} {params : Arguments} {body : List Stmt} {scope : Scope} {dV kV doc pm cdv ct oc : Value} {an od : Option Addr} {osl : Array (Option Value)} {f : Addr} {args : Args} {binds : List (Str × Value)} {k : Nat}
theorem code_defG (B : Below A₀ base outer h₀) (F : Fr h₀ L s.heap m) (X₀ : K.In h₀) (N : News h₀ L s.heap news) (T : Top p loose mean mg mb h₀) (hA : A.frames = some (env :: outer)) (hf : env.frame = some L) (hke : env.scope.kind = .function)
    (ho : K.lookup f = some ⟨oc, od, .func (fnOf name qual params body scope dV kV doc pm an cdv ct), osl⟩) (hcd : codeIn K cdv qual = true) (hdp : A.depth + (k + 1) < recursionLimit) (hun : A.units + 8 * (k + 1) < cLine)
    (hbind : BindsTo s (fnOf name qual params body scope dV kV doc pm an cdv ct) args binds) (hloc : ∀ y ∈ binds, scope.names.lookup y.1 = some .local)
    (h : ∀ A1 g L' h₁ tk Q1 E1, A1.frames = some (envOf qual scope L' f cdv :: env :: outer) → A1.depth + k < recursionLimit → A1.units + (8 * k + 5) < cLine → Fr h₀ L g m → Fr g L' h₁ (fun y => binds.reverse.lookup y) → News g L' h₁ news → Below (Clm A) base (env :: outer) g → K.In g → Top p loose mean mg mb g →
      HidV Q1 (fun fl s' => LeaveK h₀ L m g R (match fl with | .ret v => v | _ => .none) s') → PassesOwn (model prog w) (Clm A1) (envOf qual scope L' f cdv) E1 →
      wpAny (model prog w) (Clm A1) (execs body (envOf qual scope L' f cdv)) Q1 E1 { s with heap := h₁, toks := tk })
    (hco : scope.isCoroutine = false) (hgen : scope.isGenerator = false) (hk : scope.kind = .function) (hcell : ∀ x ∈ scope.names, x.2 ≠ .cell) : codeAny (model prog w) (Clm A) (.call (.ref f) args) R s :=
  code_def (A := Clm A) B F X₀ N T hA hf hke ho hcd (Nat.lt_of_le_of_lt (Nat.le_add_right _ _) hdp) hbind hloc
    (fun g L' h₁ FG F' N' B' X' T' => h ((Clm A).deeper (envOf qual scope L' f cdv)) g L' h₁ _ _ _ (by show A.frames.map _ = _; rw [hA]; rfl) (by show A.depth + 1 + k < _; rw [Nat.add_assoc, Nat.add_comm 1 k]; exact hdp) (by show A.units + 3 + (8 * k + 5) < _; rw [Nat.add_assoc, Nat.add_left_comm 3]; exact hun) FG F' N' B' X' T' ⟨fun _ _ h => h⟩ (by passes_own)) hco hgen hk hcell
theorem code_defCG (B : Below A₀ base outer h₀) (F : Fr h₀ L s.heap m) (X₀ : K.In h₀) (N : News h₀ L s.heap news) (T : Top p loose mean mg mb h₀) (hA : A.frames = some (env :: outer)) (hf : env.frame = some L) (hke : env.scope.kind = .function)
    (ho : K.lookup f = some ⟨oc, od, .func (fnOf name qual params body scope dV kV doc pm an cdv ct), osl⟩) (hcd : codeIn K cdv qual = true) (hdp : A.depth + (k + 1) < recursionLimit) (hun : A.units + 8 * (k + 1) < cLine)
    (hbind : BindsTo s (fnOf name qual params body scope dV kV doc pm an cdv ct) args binds) (hkind : (binds.all fun y => scope.names.lookup y.1 == some .local || scope.names.lookup y.1 == some .cell) = true)
    (hnd : ((cellsFrom 0 scope.names []).map (·.1)).Nodup)
    (h : ∀ A1 g L' h₁ tk cells Q1 E1, A1.frames = some (envOfC qual scope L' f cdv :: env :: outer) → A1.depth + k < recursionLimit → A1.units + (8 * k + 5) < cLine → Fr h₀ L g m → Fr g L' h₁ (bindL (envOfC qual scope L' f cdv).kindOf binds fun _ => none) → News g L' h₁ (cells ++ news) →
      CellsAre (bindC (envOfC qual scope L' f cdv).kindOf binds fun _ => none) (cellsFrom (L' + 1) scope.names []) cells → Below (Clm A) base (env :: outer) g → K.In g → Top p loose mean mg mb g → (∀ p ∈ news, p.1 < L') →
      HidV Q1 (fun fl s' => LeaveK h₀ L m g R (match fl with | .ret v => v | _ => .none) s') → PassesOwn (model prog w) (Clm A1) (envOfC qual scope L' f cdv) E1 →
      wpAny (model prog w) (Clm A1) (execs body (envOfC qual scope L' f cdv)) Q1 E1 { s with heap := h₁, toks := tk })
    (hco : scope.isCoroutine = false) (hgen : scope.isGenerator = false) (hk : scope.kind = .function) : codeAny (model prog w) (Clm A) (.call (.ref f) args) R s :=
  code_defC (A := Clm A) B F X₀ N T hA hf hke ho hcd (Nat.lt_of_le_of_lt (Nat.le_add_right _ _) hdp) hbind hkind hnd
    (fun g L' h₁ tk cells FG F' N' Y B' X' T' l => h ((Clm A).deeper (envOfC qual scope L' f cdv)) g L' h₁ _ cells _ _ (by show A.frames.map _ = _; rw [hA]; rfl) (by show A.depth + 1 + k < _; rw [Nat.add_assoc, Nat.add_comm 1 k]; exact hdp) (by show A.units + 3 + (8 * k + 5) < _; rw [Nat.add_assoc, Nat.add_left_comm 3]; exact hun) FG F' N' Y B' X' T' l ⟨fun _ _ h => h⟩ (by passes_own)) hco hgen hk
end

def Stop (P : Prop) : Prop := P
theorem Stop.go {P : Prop} (h : P) : Stop P := h
noncomputable def updL (news : List (Addr × Obj)) (d : Addr) (o : Obj) : List (Addr × Obj) := news.map fun p => if p.1 = d then (d, o) else p
theorem updL_keys (news : List (Addr × Obj)) (d : Addr) (o : Obj) : (updL news d o).map (·.1) = news.map (·.1) := by
  unfold updL
  rw [List.map_map]
  refine List.map_congr_left fun p _ => ?_
  by_cases h : p.1 = d
  · simp [h]
  · simp [h]
theorem updL_self {news : List (Addr × Obj)} {d : Addr} {o o' : Obj} (h : (d, o) ∈ news) : (d, o') ∈ updL news d o' :=
  List.mem_map.mpr ⟨_, h, by simp⟩
theorem updL_ne {news : List (Addr × Obj)} {d a : Addr} {o o' : Obj} (h : (a, o) ∈ news) (hn : a ≠ d) : (a, o) ∈ updL news d o' :=
  List.mem_map.mpr ⟨_, h, by simp [hn]⟩
theorem updL_updL (news : List (Addr × Obj)) (d : Addr) (o o' : Obj) : updL (updL news d o) d o' = updL news d o' := by
  unfold updL
  rw [List.map_map]
  refine List.map_congr_left fun p _ => ?_
  by_cases h : p.1 = d
  · simp [h]
  · simp [h]
theorem updL_append (a b : List (Addr × Obj)) (d : Addr) (o : Obj) : updL (a ++ b) d o = updL a d o ++ updL b d o := List.map_append
theorem updL_off {a : List (Addr × Obj)} {d : Addr} {o : Obj} (h : ∀ p ∈ a, p.1 ≠ d) : updL a d o = a := by
  unfold updL
  conv => rhs; rw [← List.map_id a]
  exact List.map_congr_left fun p hp => by simp [h p hp]
theorem updL_lt {news : List (Addr × Obj)} {d D : Addr} {o : Obj} (h : ∀ q ∈ news, q.1 < D) : ∀ q ∈ updL news d o, q.1 < D := by
  intro q hq
  have h1 : q.1 ∈ (updL news d o).map (·.1) := List.mem_map_of_mem hq
  rw [updL_keys] at h1
  obtain ⟨r, hr, e⟩ := List.mem_map.mp h1
  rw [← e]; exact h r hr
theorem News.fun {h₀ h : Heap} {L a : Addr} {o o' : Obj} {news : List (Addr × Obj)} (N : News h₀ L h news) (h1 : (a, o) ∈ news) (h2 : (a, o') ∈ news) : o = o' := by
  have e1 := (N _ h1).1
  have e2 := (N _ h2).1
  rw [e1] at e2
  exact Option.some.inj e2

section
variable {prog : Program} {w : World} {K : Type} [DecidableEq K] {knd : KeyKind prog w K} {A : Around} {E : Value → Shared → Prop} {s : Shared} {h₀ : Heap} {L d : Addr} {m : Str → Option Value} {news : List (Addr × Obj)} {o : Obj} {kvs : List (K × Value)} {k : K} {key v : Value}
theorem dset {Q : Unit → Shared → Prop} (F : Fr h₀ L s.heap m) (N : News h₀ L s.heap news) (hm : (d, o) ∈ news) (hd : o.IsDictOf knd kvs) (hkey : knd.is k key = true) (hsz : kvs.length ≤ sizeLine)
    (h : ∀ h' o', Fr h₀ L h' m → News h₀ L h' (updL news d o') → o'.IsDictOf knd (stored kvs k v) → Q () { s with heap := h', toks := s.toks + 1 }) : wpAny (model prog w) A (setItem (.ref d) key v) Q E s := by
  have hN := N (d, o) hm
  refine wpAny_setItem_pairs (hsz := hsz) hkey (Heap.dictOf_iff.mpr ⟨o, hN.1, hd⟩) fun h' hmm hs => ?_
  obtain ⟨o', ho', hd'⟩ := Heap.dictOf_iff.mp hmm
  exact h h' o' (F.change hs hN.2.1 hN.2.2) (N.update hm hs ho') hd'
end

def ForAt (prog : Program) (w : World) (A : Around) (h₀ : Heap) (env : Env) (x : Str) (body : List Stmt) (Q : Flow → Shared → Prop) (E : Value → Shared → Prop) (xv : Value) (s₁ : Shared) : Prop :=
  wpAny (model prog w) A (pyIter xv) (fun it s₂ => LoopAtV prog w A h₀ env x body Q E it s₂) E s₁

def TurnEnd (h₀ : Heap) (L : Addr) (I : Addr) (own : List (Addr × Obj)) (J : (Str → Option Value) → List (Addr × Obj) → Prop) (s₁ : Shared) (Q : Flow → Shared → Prop) (f : Flow) (s₂ : Shared) : Prop :=
  match f with
  | .ret v => Q (.ret v) s₂
  | .brk => Q .next s₂
  | _ => ∃ h' tk m' news', s₂ = { s₁ with heap := h', toks := tk } ∧ Fr h₀ L h' m' ∧ News h₀ L h' (own ++ news') ∧ (∀ p ∈ news', p.1 ≠ I) ∧ J m' news'

theorem TurnEnd.intro {h₀ h' : Heap} {L I : Addr} {own news' : List (Addr × Obj)} {J : (Str → Option Value) → List (Addr × Obj) → Prop} {s₁ : Shared} {Q : Flow → Shared → Prop} {m' : Str → Option Value} {tk : Nat} (F : Fr h₀ L h' m') (N : News h₀ L h' (own ++ news')) (off : ∀ p ∈ news', p.1 ≠ I) (hJ : J m' news') :
    TurnEnd h₀ L I own J s₁ Q .next { s₁ with heap := h', toks := tk } := ⟨h', tk, m', news', rfl, F, N, off, hJ⟩
section
variable {prog : Program} {w : World} {A : Around} {E : Value → Shared → Prop} {s : Shared} {env : Env} {h₀ : Heap} {x : Str} {body : List Stmt} {Q : Flow → Shared → Prop}

theorem for_at {px pos : Pos} {iter : Expr} {m : Str → Option Value} (_F : Fr h₀ env.locals s.heap m) (hx : env.kindOf x = some .local)
    (hp : (env.scope.kind == .class || (env.scope.kind == .module && env.locals != env.globals)) = false)
    (h : wpAny (model prog w) A (eval iter env) (fun xv s₁ => ForAt prog w A h₀ env x body Q E xv s₁) E s)
    (hs : ∀ x, foldedSetIterable iter env x = pure x) (hE : PassesOwn (model prog w) A env E) :
    wpAny (model prog w) A (exec (.For (.Name x px) iter body [] pos) env) Q E s := For_invV h₀ hx hp h hs hE

theorem loop_core {I l : Addr} {n : Nat} {P : Nat → Value → Prop} {St : Nat → Heap → Prop} {m₀ : Str → Option Value} {news : List (Addr × Obj)} {fp : List Addr} (J : Nat → (Str → Option Value) → List (Addr × Obj) → Prop)
    (hI : I = s.heap.objs.size) (hfp : ∀ b ∈ fp, b = I ∨ b = l) (hIf : I ∈ fp) {oI : Obj} (hIo : ∀ i h, St i h → ∃ o, h.get? I = some o)
    (W : Walks prog w A I fp [I] n P St) (hst : St 0 (s.heap.push oI)) (hlL : l ≠ env.locals)
    (F : Fr h₀ env.locals s.heap m₀) (N : News h₀ env.locals s.heap news) (hj : J 0 m₀ news)
    (turn : ∀ i v m₁ news₁ own h tk, i < n → P i v → (∀ q ∈ news, q.1 < I) → (∃ oI, (I, oI) ∈ own) → (∀ p ∈ own, p.1 = I ∨ p.1 = l) → J i m₁ news₁ → (∀ p ∈ news₁, p.1 ≠ I) →
      Fr h₀ env.locals h (fun y => if y = x then some v else m₁ y) → News h₀ env.locals h (own ++ news₁) →
      wpAny (model prog w) A (execs body env) (TurnEnd h₀ env.locals I own (J (i + 1)) { s with heap := h, toks := tk } Q) E { s with heap := h, toks := tk })
    (done : ∀ m₁ news₁ h tk, J n m₁ news₁ → Fr h₀ env.locals h m₁ → News h₀ env.locals h news₁ → Q .next { s with heap := h, toks := tk }) :
    LoopAtV prog w A h₀ env x body Q E (.ref I) { s with heap := s.heap.push oI } := by
  subst hI
  have hsz : ∀ q ∈ news, q.1 < s.heap.objs.size := fun q hq => Heap.lt_size (N q hq).1
  refine ⟨_, _, _, n, _, _, m₀, news, J, rfl, W, ?_, ?_, ?_, hst, F.push _, (fun p hp => ⟨Heap.get?_push_of_some _ (N p hp).1, (N p hp).2⟩), hj, ?_, ?_⟩
  · intro hm
    rcases hfp _ hm with e | e
    · exact absurd F.ns.lt (e ▸ Nat.lt_irrefl _)
    · exact hlL e.symm
  · intro b hb
    rw [List.mem_singleton.mp hb]
    exact next_is_new F
  · intro p hp hI
    exact absurd (hsz p hp) ((List.mem_singleton.mp hI) ▸ Nat.lt_irrefl _)
  · rintro i v m₁ news₁ s₁ own ⟨hh', tk', rfl⟩ hin hP hJ hoff hown hown2 hfpo hst' F₁ N₁
    have hI0 : h₀.get? s.heap.objs.size = none := next_is_new F
    have hIown : ∃ oI, (s.heap.objs.size, oI) ∈ own := by
      obtain ⟨o, ho⟩ := hIo _ _ hst'
      exact ⟨o, hfpo _ hIf hI0 _ ho⟩
    refine wpAny_mono (turn i v m₁ news₁ own hh' tk' hin hP hsz hIown (fun p hp => hfp _ (hown p hp)) hJ (fun p hp e => hoff p hp (List.mem_singleton.mpr e)) F₁ N₁) (fun f s₂ p => ?_) fun _ _ e => e
    have fin : (∃ h' tk m' news', s₂ = { s with heap := h', toks := tk } ∧ Fr h₀ env.locals h' m' ∧ News h₀ env.locals h' (own ++ news') ∧ (∀ p ∈ news', p.1 ≠ s.heap.objs.size) ∧ J (i + 1) m' news') →
        LoopStepU h₀ env.locals [s.heap.objs.size] own (J (i + 1)) { s with heap := hh', toks := tk' } .next s₂ := by
      rintro ⟨h', tk, m', news', e, F', N', hn, hJ'⟩
      exact ⟨rfl, h', tk, m', news', e, F', N', fun p hp hq => hn p hp (List.mem_singleton.mp hq), hJ'⟩
    cases f with
    | ret v => exact .ret p
    | brk => exact .brk p
    | next => exact .next (fin p)
    | cont => exact .cont (fin p)
  · rintro h' tk m' news' F' N' _ hJ
    exact done m' news' h' tk hJ F' N'

theorem loop_list {l : Addr} {vs : List Value} {m₀ : Str → Option Value} {news : List (Addr × Obj)} (J : Nat → (Str → Option Value) → List (Addr × Obj) → Prop)
    (hh : A.handled = none) (hl : s.heap.IsList l vs.toArray) (hlL : l ≠ env.locals) (F : Fr h₀ env.locals s.heap m₀) (N : News h₀ env.locals s.heap news) (hj : J 0 m₀ news)
    (turn : ∀ I i v m₁ news₁ own h tk, vs[i]? = some v → (∀ q ∈ news, q.1 < I) → (∃ oI, (I, oI) ∈ own) → (∀ p ∈ own, p.1 = I ∨ p.1 = l) → J i m₁ news₁ → (∀ p ∈ news₁, p.1 ≠ I) →
      Fr h₀ env.locals h (fun y => if y = x then some v else m₁ y) → News h₀ env.locals h (own ++ news₁) →
      wpAny (model prog w) A (execs body env) (TurnEnd h₀ env.locals I own (J (i + 1)) { s with heap := h, toks := tk } Q) E { s with heap := h, toks := tk })
    (done : ∀ m₁ news₁ h tk, J vs.length m₁ news₁ → Fr h₀ env.locals h m₁ → News h₀ env.locals h news₁ → Q .next { s with heap := h, toks := tk }) :
    ForAt prog w A h₀ env x body Q E (.ref l) s := by
  have hlt : l < s.heap.objs.size := by obtain ⟨_, e, _⟩ := hl; exact Heap.lt_size e
  refine wpAny_pyIter_list hl ?_
  have W := Walks.list (prog := prog) (w := w) hh s.heap.objs.size l (Nat.ne_of_lt hlt) vs.toArray
  refine loop_core (l := l) J rfl (fun b hb => by simpa using hb) (by simp) (fun i h st => by obtain ⟨o, e, _⟩ := st.1; exact ⟨o, e⟩) W ⟨⟨_, Heap.get?_push_size _ rfl, rfl, rfl⟩, hl.at fun o e => Heap.get?_push_of_some _ e⟩ hlL F N hj
    (fun i v m₁ news₁ own h tk hi hP => turn _ i v m₁ news₁ own h tk (by simpa using hP)) (fun m₁ news₁ h tk hJ => done m₁ news₁ h tk (by simpa using hJ))

theorem loop_tuple {l : Addr} {vs : List Value} {m₀ : Str → Option Value} {news : List (Addr × Obj)} (J : Nat → (Str → Option Value) → List (Addr × Obj) → Prop)
    (hh : A.handled = none) (hl : s.heap.IsTuple l vs.toArray) (hlL : l ≠ env.locals) (F : Fr h₀ env.locals s.heap m₀) (N : News h₀ env.locals s.heap news) (hj : J 0 m₀ news)
    (turn : ∀ I i v m₁ news₁ own h tk, vs[i]? = some v → (∀ q ∈ news, q.1 < I) → (∃ oI, (I, oI) ∈ own) → (∀ p ∈ own, p.1 = I ∨ p.1 = l) → J i m₁ news₁ → (∀ p ∈ news₁, p.1 ≠ I) →
      Fr h₀ env.locals h (fun y => if y = x then some v else m₁ y) → News h₀ env.locals h (own ++ news₁) →
      wpAny (model prog w) A (execs body env) (TurnEnd h₀ env.locals I own (J (i + 1)) { s with heap := h, toks := tk } Q) E { s with heap := h, toks := tk })
    (done : ∀ m₁ news₁ h tk, J vs.length m₁ news₁ → Fr h₀ env.locals h m₁ → News h₀ env.locals h news₁ → Q .next { s with heap := h, toks := tk }) :
    ForAt prog w A h₀ env x body Q E (.ref l) s := by
  have hlt : l < s.heap.objs.size := by obtain ⟨_, e, _⟩ := hl; exact Heap.lt_size e
  refine wpAny_pyIter_tuple hl ?_
  have W := Walks.tuple (prog := prog) (w := w) hh s.heap.objs.size l (Nat.ne_of_lt hlt) vs.toArray
  refine loop_core (l := l) J rfl (fun b hb => by simpa using hb) (by simp) (fun i h st => by obtain ⟨o, e, _⟩ := st.1; exact ⟨o, e⟩) W ⟨⟨_, Heap.get?_push_size _ rfl, rfl, rfl⟩, hl.at fun o e => Heap.get?_push_of_some _ e⟩ hlL F N hj
    (fun i v m₁ news₁ own h tk hi hP => turn _ i v m₁ news₁ own h tk (by simpa using hP)) (fun m₁ news₁ h tk hJ => done m₁ news₁ h tk (by simpa using hJ))

theorem loop_range {r : Addr} {a b : Int} {t u v : Tok} {n : Nat} {m₀ : Str → Option Value} {news : List (Addr × Obj)} (J : Nat → (Str → Option Value) → List (Addr × Obj) → Prop)
    (hh : A.handled = none) (hr : IsRange s.heap r a b 1 t u v) (hsm : Builtin.Range.small a b 1 = true) (hn : Builtin.Range.rangeSize a b 1 = ((n : Nat) : Int)) (F : Fr h₀ env.locals s.heap m₀) (N : News h₀ env.locals s.heap news) (hj : J 0 m₀ news)
    (turn : ∀ I (i : Nat) t m₁ news₁ own h tk, i < n → (∀ q ∈ news, q.1 < I) → (∃ oI, (I, oI) ∈ own) → (∀ p ∈ own, p.1 = I) → J i m₁ news₁ → (∀ p ∈ news₁, p.1 ≠ I) →
      Fr h₀ env.locals h (fun y => if y = x then some (.int (a + (i : Int)) t) else m₁ y) → News h₀ env.locals h (own ++ news₁) →
      wpAny (model prog w) A (execs body env) (TurnEnd h₀ env.locals I own (J (i + 1)) { s with heap := h, toks := tk } Q) E { s with heap := h, toks := tk })
    (done : ∀ m₁ news₁ h tk, J n m₁ news₁ → Fr h₀ env.locals h m₁ → News h₀ env.locals h news₁ → Q .next { s with heap := h, toks := tk }) :
    ForAt prog w A h₀ env x body Q E (.ref r) s := by
  refine wpAny_pyIter_range hr hsm ?_
  have W := LCg.range_walks (prog := prog) (w := w) (I := s.heap.objs.size) hh a n
  refine loop_core (l := s.heap.objs.size) J rfl (fun b hb => by simpa using hb) (by simp) (fun i h st => ⟨_, st⟩) W (by show IsRangeIter _ _ _ _ _; rw [hn]; simpa using Heap.get?_push_size _ rfl) (Nat.ne_of_gt F.ns.lt) F N hj
    (fun i v m₁ news₁ own h tk hi hP => ?_) done
  obtain ⟨t, rfl⟩ := hP
  intro a1 a2 a3
  exact turn _ i t m₁ news₁ own h tk hi a1 a2 (fun p hp => (a3 p hp).elim id id)
end

theorem fr_in {h₀ h : Heap} {L : Addr} {x : Str} {v : Value} {m₀ m₁ : Str → Option Value} (F : Fr h₀ L h (fun y => if y = x then some v else m₁ y)) (e : ∀ y, y ≠ x → m₁ y = m₀ y) : Fr h₀ L h (fun y => if y = x then some v else m₀ y) := by
  have q : (fun y => if y = x then some v else m₁ y) = fun y => if y = x then some v else m₀ y := by
    funext y
    by_cases h : y = x
    · rw [if_pos h, if_pos h]
    · rw [if_neg h, if_neg h, e y h]
  exact q ▸ F
theorem fr_out {h₀ h : Heap} {L : Addr} {m₀ m₁ : Str → Option Value} (x : Str) (F : Fr h₀ L h m₁) (e : ∀ y, y ≠ x → m₁ y = m₀ y) : Fr h₀ L h (fun y => if y = x then m₁ x else m₀ y) := by
  have q : m₁ = fun y => if y = x then m₁ x else m₀ y := by
    funext y
    by_cases h : y = x
    · rw [if_pos h, h]
    · rw [if_neg h, e y h]
  exact q ▸ F
theorem strsAt_get {vs : List Value} {ss : List Str} (h : StrsAre vs ss) : ∀ {i : Nat} {v : Value}, vs[i]? = some v → ∃ s t, v = .str s t ∧ ss[i]? = some s := by
  induction h with
  | nil => intro i v e; simp at e
  | cons x t _ ih =>
    intro i v e
    cases i with
    | zero =>
      simp only [List.getElem?_cons_zero, Option.some.injEq] at e
      exact ⟨x, t, e.symm, by simp⟩
    | succ i =>
      simp only [List.getElem?_cons_succ] at e ⊢
      exact ih e
theorem own_off {I l d : Addr} {own news : List (Addr × Obj)} {o : Obj} (hm : (d, o) ∈ news) (hlt : ∀ q ∈ news, q.1 < I) (hown : ∀ p ∈ own, p.1 = I ∨ p.1 = l) (hl : d ≠ l) : ∀ p ∈ own, p.1 ≠ d := fun p hp e => by
  rcases hown p hp with q | q
  · have := hlt _ hm
    rw [← e, q] at this
    exact absurd this (Nat.lt_irrefl _)
  · exact hl (e.symm.trans q)
theorem news_sub {h₀ h : Heap} {L : Addr} {news news' : List (Addr × Obj)} (N : News h₀ L h news) (hs : ∀ p ∈ news', p ∈ news) : News h₀ L h news' := fun p hp => N p (hs p hp)
theorem updL_id {h₀ h : Heap} {L d : Addr} {news : List (Addr × Obj)} {o : Obj} (N : News h₀ L h news) (hm : (d, o) ∈ news) : updL news d o = news := by
  unfold updL
  conv => rhs; rw [← List.map_id news]
  refine List.map_congr_left fun p hp => ?_
  by_cases h : p.1 = d
  · obtain ⟨a, o'⟩ := p
    have h' : a = d := h
    subst h'
    rw [if_pos rfl, News.fun N hm hp]; rfl
  · rw [if_neg h]; rfl
theorem updL_own {own news : List (Addr × Obj)} {d : Addr} {o o' : Obj} (h : ∀ p ∈ own, p.1 ≠ d) : updL (own ++ updL news d o) d o' = own ++ updL news d o' := by
  rw [updL_append, updL_updL, updL_off h]
theorem updL_neI {news : List (Addr × Obj)} {d I : Addr} {o : Obj} (h : ∀ q ∈ news, q.1 < I) : ∀ q ∈ updL news d o, q.1 ≠ I := fun q hq => Nat.ne_of_lt (updL_lt h q hq)
theorem fr_out2 {h₀ h : Heap} {L : Addr} {m₀ m₁ : Str → Option Value} (x z : Str) (F : Fr h₀ L h m₁) (e : ∀ y, y ≠ x → y ≠ z → m₁ y = m₀ y) : Fr h₀ L h (fun y => if y = x then m₁ x else if y = z then m₁ z else m₀ y) := by
  have q : m₁ = fun y => if y = x then m₁ x else if y = z then m₁ z else m₀ y := by
    funext y
    by_cases h : y = x
    · rw [if_pos h, h]
    · rw [if_neg h]
      by_cases h2 : y = z
      · rw [if_pos h2, h2]
      · rw [if_neg h2, e y h h2]
  exact q ▸ F
theorem fr_in3 {h₀ h : Heap} {L : Addr} {x z u : Str} {v : Value} {m₀ m₁ : Str → Option Value} (F : Fr h₀ L h (fun y => if y = x then some v else m₁ y)) (e : ∀ y, y ≠ x → y ≠ z → y ≠ u → m₁ y = m₀ y) :
    Fr h₀ L h (fun y => if y = x then some v else if y = z then m₁ z else if y = u then m₁ u else m₀ y) := by
  have q : (fun y => if y = x then some v else m₁ y) = fun y => if y = x then some v else if y = z then m₁ z else if y = u then m₁ u else m₀ y := by
    funext y
    by_cases h : y = x
    · rw [if_pos h, if_pos h]
    · rw [if_neg h, if_neg h]
      by_cases h2 : y = z
      · rw [if_pos h2, h2]
      · rw [if_neg h2]
        by_cases h3 : y = u
        · rw [if_pos h3, h3]
        · rw [if_neg h3, e y h h2 h3]
  exact q ▸ F
theorem off_lt {news : List (Addr × Obj)} {d : Addr} (h : ∀ q ∈ news, q.1 < d) : ∀ q ∈ news, q.1 ≠ d := fun q hq => Nat.ne_of_lt (h q hq)
theorem lt_trans_all {news : List (Addr × Obj)} {d e : Addr} (h : ∀ q ∈ news, q.1 < d) (h2 : @LT.lt Nat _ d e) : ∀ q ∈ news, q.1 < e := fun q hq => Nat.lt_trans (h q hq) h2
end
section
noncomputable def getB {K : Type} [DecidableEq K] {V : Type} (S : List (K × V)) (k : K) : Option V := (S.find? fun p => decide (p.1 = k)).map (·.2)
noncomputable def storeB {K : Type} [DecidableEq K] {V : Type} (S : List (K × V)) (k : K) (v : V) : List (K × V) :=
  if S.any (fun p => decide (p.1 = k)) then S.map (fun p => if p.1 = k then (p.1, v) else p) else S ++ [(k, v)]
noncomputable def onB {K : Type} [DecidableEq K] (S : List (K × Bool)) (k : K) : Bool := (getB S k).getD false
noncomputable def vals {K : Type} (S : List (K × Bool)) : List (K × Value) := S.map fun p => (p.1, .bool p.2)

section
variable {K : Type} [DecidableEq K] {V : Type}
theorem getB_nil (k : K) : getB ([] : List (K × V)) k = none := rfl
theorem getB_cons (p : K × V) (S : List (K × V)) (k : K) : getB (p :: S) k = if p.1 = k then some p.2 else getB S k := by
  unfold getB
  by_cases h : p.1 = k
  · simp [h]
  · simp [h]
theorem getB_append (S T : List (K × V)) (k : K) : getB (S ++ T) k = (getB S k).or (getB T k) := by
  induction S with
  | nil => simp [getB_nil]
  | cons p S ih =>
    rw [List.cons_append, getB_cons, getB_cons, ih]
    by_cases h : p.1 = k
    · simp [h]
    · simp [h]
theorem getB_none_iff (S : List (K × V)) (k : K) : getB S k = none ↔ k ∉ S.map (·.1) := by
  induction S with
  | nil => simp [getB_nil]
  | cons p S ih =>
    rw [getB_cons]
    by_cases h : p.1 = k
    · simp [h]
    · rw [if_neg h, ih]
      simp only [List.map_cons, List.mem_cons, not_or]
      exact ⟨fun x => ⟨fun e => h e.symm, x⟩, fun x => x.2⟩
theorem getB_map_set (S : List (K × V)) (k j : K) (v : V) : getB (S.map fun p => if p.1 = k then (p.1, v) else p) j = if j = k then (getB S k).map (fun _ => v) else getB S j := by
  induction S with
  | nil => simp [getB_nil]
  | cons p S ih =>
    rw [List.map_cons, getB_cons, getB_cons, ih, getB_cons]
    by_cases h : p.1 = k
    · by_cases hj : j = k
      · simp [h, hj]
      · have : ¬ k = j := fun e => hj e.symm
        simp [h, hj, this]
    · by_cases hj : j = k
      · simp [h, hj]
      · simp [h, hj]
theorem getB_storeB (S : List (K × V)) (k j : K) (v : V) : getB (storeB S k v) j = if j = k then some v else getB S j := by
  unfold storeB
  by_cases h : (S.any fun p => decide (p.1 = k)) = true
  · rw [if_pos h, getB_map_set]
    by_cases hj : j = k
    · rw [if_pos hj, if_pos hj]
      cases e : getB S k with
      | none =>
        rw [getB_none_iff] at e
        simp only [List.any_eq_true, decide_eq_true_eq] at h
        obtain ⟨p, hp, rfl⟩ := h
        exact absurd (List.mem_map_of_mem hp) e
      | some x => rfl
    · rw [if_neg hj, if_neg hj]
  · rw [if_neg h, getB_append, getB_cons, getB_nil]
    by_cases hj : j = k
    · subst hj
      have e : getB S j = none := by
        rw [getB_none_iff]
        intro hm
        obtain ⟨p, hp, e⟩ := List.mem_map.mp hm
        exact h (List.any_eq_true.mpr ⟨p, hp, by simpa using e⟩)
      simp [e]
    · have : ¬ k = j := fun e => hj e.symm
      simp [hj, this]
theorem keys_storeB (S : List (K × V)) (k : K) (v : V) : ∀ j, j ∈ (storeB S k v).map (·.1) ↔ j = k ∨ j ∈ S.map (·.1) := by
  intro j
  have h := getB_storeB S k j v
  have e1 := getB_none_iff (storeB S k v) j
  have e2 := getB_none_iff S j
  by_cases hj : j = k
  · rw [if_pos hj] at h
    rw [h] at e1
    simp only [reduceCtorEq, false_iff, Classical.not_not] at e1
    exact ⟨fun _ => .inl hj, fun _ => e1⟩
  · rw [if_neg hj] at h
    rw [h] at e1
    have e3 : j ∉ (storeB S k v).map (·.1) ↔ j ∉ S.map (·.1) := e1.symm.trans e2
    constructor
    · intro hm
      exact .inr (Classical.byContradiction fun hn => (e3.mpr hn) hm)
    · rintro (e | hm)
      · exact absurd e hj
      · exact Classical.byContradiction fun hn => (e3.mp hn) hm
theorem length_storeB (S : List (K × V)) (k : K) (v : V) : (storeB S k v).length ≤ S.length + 1 := by
  unfold storeB
  split
  · simp
  · simp
theorem keys_storeB_old (S : List (K × V)) (k : K) (v : V) (h : k ∈ S.map (·.1)) : (storeB S k v).map (·.1) = S.map (·.1) := by
  unfold storeB
  have hA : (S.any fun p => decide (p.1 = k)) = true := by
    obtain ⟨p, hp, e⟩ := List.mem_map.mp h
    exact List.any_eq_true.mpr ⟨p, hp, by simpa using e⟩
  rw [if_pos hA, List.map_map]
  refine List.map_congr_left fun p _ => ?_
  by_cases e : p.1 = k
  · simp [e]
  · simp [e]
theorem vals_keys (S : List (K × Bool)) : (vals S).map (·.1) = S.map (·.1) := by unfold vals; rw [List.map_map]; rfl
theorem vals_length (S : List (K × Bool)) : (vals S).length = S.length := by unfold vals; rw [List.length_map]
theorem valueAt_vals (S : List (K × Bool)) (k : K) : valueAt (vals S) k = (getB S k).map .bool := by
  induction S with
  | nil => rfl
  | cons p S ih =>
    rw [getB_cons]
    by_cases h : p.1 = k
    · simp [valueAt, vals, h]
    · simp only [valueAt, vals, List.map_cons, List.find?_cons, h, decide_false, if_false] at ih ⊢
      exact ih
theorem valueAt_vals_getD (S : List (K × Bool)) (k : K) : (valueAt (vals S) k).getD (.bool false) = .bool (onB S k) := by
  rw [valueAt_vals]
  unfold onB
  cases getB S k <;> rfl
theorem stored_vals (S : List (K × Bool)) (k : K) (v : Bool) : stored (vals S) k (.bool v) = vals (storeB S k v) := by
  unfold stored storeB
  have e : ((vals S).any fun kv => decide (kv.1 = k)) = (S.any fun p => decide (p.1 = k)) := by
    unfold vals; rw [List.any_map]; rfl
  rw [e]
  split
  · unfold vals
    rw [List.map_map, List.map_map]
    refine List.map_congr_left fun p _ => ?_
    by_cases h : p.1 = k
    · simp [h]
    · simp [h]
  · unfold vals; rw [List.map_append]; rfl
end

noncomputable def P0 : Params := { strHash := fun _ => 0, shareClass := fun _ => 0, mergeTok := id, idOf := fun _ => 0, idOfShared := fun _ _ => 0, followText := fun _ => false, idOfImm := fun _ => 0 }
noncomputable def strsAt (a : Addr) : List Str := match (hd.heap_39 P0).lookup a with
  | some ⟨_, _, .seq xs _, _⟩ => xs.toList.filterMap fun v => match v with | .str s _ => some s | _ => none
  | _ => []
noncomputable def intsAt (a : Addr) : List Int := match (hd.heap_39 P0).lookup a with
  | some ⟨_, _, .seq xs _, _⟩ => xs.toList.filterMap fun v => match v with | .int s _ => some s | _ => none
  | _ => []
noncomputable def tabAt (a : Addr) : List (Int × Str) := match (hd.heap_39 P0).lookup a with
  | some ⟨_, _, .dict es _, _⟩ => es.toList.filterMap fun e => match e.key, e.val with | .int k _, .str s _ => some (k, s) | _, _ => none
  | _ => []
noncomputable def MM : List Str := strsAt 15
noncomputable def ME : List Str := strsAt 16
noncomputable def FIRST : List Str := strsAt 18
noncomputable def FIXED : List Int := intsAt 17
noncomputable def privL : List (Int × Str) := tabAt 136
noncomputable def plainL : List (Int × Str) := tabAt 139
noncomputable def noneL : List Int := intsAt 143
noncomputable def numsL : List Int := intsAt 144
noncomputable def words41 : List Str := privL.map (·.2) ++ plainL.map (·.2) ++ [Str.ofString "eight_bits"]

noncomputable def groupOf (w : Str) : List Str := if MM.any (· == w) then MM else if ME.any (· == w) then ME else []
noncomputable def setB (S : List (Str × Bool)) (w : Str) (b : Bool) : List (Str × Bool) :=
  storeB (if b then (groupOf w).foldl (fun S o => storeB S o false) S else S) w b

theorem getB_foldl_false (k : Str) : ∀ (g : List Str) (S : List (Str × Bool)), getB (g.foldl (fun S o => storeB S o false) S) k = if k ∈ g then some false else getB S k
  | [], S => by simp
  | o :: g, S => by
    rw [List.foldl_cons, getB_foldl_false k g, getB_storeB]
    by_cases h : k ∈ g
    · simp [h]
    · by_cases ho : k = o
      · simp [ho]
      · simp [h, ho]
theorem keys_foldl_false (k : Str) : ∀ (g : List Str) (S : List (Str × Bool)), k ∈ (g.foldl (fun S o => storeB S o false) S).map (·.1) ↔ k ∈ g ∨ k ∈ S.map (·.1)
  | [], S => by simp
  | o :: g, S => by
    rw [List.foldl_cons, keys_foldl_false k g, keys_storeB]
    simp only [List.mem_cons]
    constructor
    · rintro (h | h | h)
      · exact .inl (.inr h)
      · exact .inl (.inl h)
      · exact .inr h
    · rintro ((h | h) | h)
      · exact .inr (.inl h)
      · exact .inl h
      · exact .inr (.inr h)
theorem getB_setB (S : List (Str × Bool)) (w : Str) (b : Bool) (k : Str) : getB (setB S w b) k = if k = w then some b else if b = true ∧ k ∈ groupOf w then some false else getB S k := by
  unfold setB
  rw [getB_storeB]
  by_cases h : k = w
  · simp [h]
  · rw [if_neg h, if_neg h]
    cases b with
    | false => simp
    | true => simp only [if_true, true_and]; exact getB_foldl_false k _ _
theorem keys_setB (S : List (Str × Bool)) (w : Str) (b : Bool) (k : Str) : k ∈ (setB S w b).map (·.1) ↔ k = w ∨ (b = true ∧ k ∈ groupOf w) ∨ k ∈ S.map (·.1) := by
  unfold setB
  rw [keys_storeB]
  cases b with
  | false => simp
  | true => simp only [if_true, true_and]; rw [keys_foldl_false]
theorem length_foldl_false : ∀ (g : List Str) (S : List (Str × Bool)), (g.foldl (fun S o => storeB S o false) S).length ≤ S.length + g.length
  | [], S => by simp
  | o :: g, S => by
    rw [List.foldl_cons]
    have h1 := length_foldl_false g (storeB S o false)
    have h2 := length_storeB S o false
    rw [List.length_cons]; (first | lia | omega)
theorem MM_length : MM.length = 4 := by decide +kernel
theorem ME_length : ME.length = 4 := by decide +kernel
theorem length_groupOf (w : Str) : (groupOf w).length ≤ 4 := by
  unfold groupOf
  split
  · rw [MM_length]; exact Nat.le_refl _
  · split
    · rw [ME_length]; exact Nat.le_refl _
    · simp
theorem fold_take_succ (g : List Str) (S : List (Str × Bool)) {i : Nat} {o : Str} (h : g[i]? = some o) : (g.take (i + 1)).foldl (fun S o => storeB S o false) S = storeB ((g.take i).foldl (fun S o => storeB S o false) S) o false := by
  rw [List.take_add_one, h]; simp
theorem size_vals {K : Type} {S : List (K × Bool)} (h : S.length ≤ 2000) : (vals S).length ≤ sizeLine := by
  rw [show (vals S).length = S.length from by unfold vals; rw [List.length_map], sizeLine_eq]; (first | lia | omega)
end
section
section
open PyProof.Rows
variable {κ : KeyOrd} {key : Nat → κ.α} {n₀ : Nat} {cmp : Nat → Nat → (Bool → Shared → Prop) → Shared → Prop} {s : Shared}
def Asks (κ : KeyOrd) (key : Nat → κ.α) (n₀ : Nat) (cmp : Nat → Nat → (Bool → Shared → Prop) → Shared → Prop) (s : Shared) : Prop :=
  ∀ i j (C : Bool → Shared → Prop), i < n₀ → j < n₀ → C (κ.blt (key i) (key j)) s → cmp i j C s
noncomputable def KP (key : Nat → κ.α) (p : Array Nat) (i : Nat) : κ.α := key (p.getD i 0)
def BaseP (n₀ : Nat) (p : Array Nat) : Prop := p.Perm (List.toArray (List.range n₀))
def SortP (key : Nat → κ.α) (p : Array Nat) (k : Nat) : Prop := ∀ i j, i ≤ j → j < k → κ.kle (KP key p i) (KP key p j)
def NonP (key : Nat → κ.α) (p : Array Nat) (k : Nat) : Prop := ∀ i j, i ≤ j → j < k → κ.kle (KP key p j) (KP key p i)
theorem BaseP.size {p : Array Nat} (h : BaseP n₀ p) : p.size = n₀ := by
  have := Array.Perm.size_eq h
  simpa using this
theorem BaseP.lt {p : Array Nat} (h : BaseP n₀ p) {i : Nat} (hi : i < n₀) : p.getD i 0 < n₀ := by
  have hi' : i < p.size := by rw [h.size]; exact hi
  have e : p.getD i 0 = p[i] := by simp [Array.getD, hi']
  have hm : p[i] ∈ p.toList := by simp
  have := (Array.perm_iff_toList_perm.mp h).mem_iff.mp hm
  rw [e]
  simpa using this
theorem KP_congr {p q : Array Nat} {i j : Nat} (h : p[i]? = q[j]?) : KP key p i = KP key q j := by
  have e : ∀ (p : Array Nat) i, p.getD i 0 = (p[i]?).getD 0 := fun p i => by simp
  unfold KP; rw [e, e, h]
theorem KP_bubble {p : Array Nat} {src d : Nat} (hs : src < p.size) (hd : d ≤ src) (k : Nat) :
    KP key (bubble p src d) k = if k = src - d then KP key p src else if src - d < k ∧ k ≤ src then KP key p (k - 1) else KP key p k := by
  have e := getElem?_bubble hs d hd k
  by_cases h1 : k = src - d
  · rw [if_pos h1] at e ⊢; exact KP_congr e
  · rw [if_neg h1] at e ⊢
    by_cases h2 : src - d < k ∧ k ≤ src
    · rw [if_pos h2] at e ⊢; exact KP_congr e
    · rw [if_neg h2] at e ⊢; exact KP_congr e
theorem KP_rev {p : Array Nat} {i j : Nat} (hj : j ≤ p.size) (k : Nat) : KP key (kas_rev p i j) k = if i ≤ k ∧ k < j then KP key p (i + j - 1 - k) else KP key p k := by
  have e := getElem?_mirror_all (xs := p) (i := i) hj k
  unfold kas_rev
  by_cases h1 : i ≤ k ∧ k < j
  · rw [if_pos h1] at e ⊢; exact KP_congr e
  · rw [if_neg h1] at e ⊢; exact KP_congr e
theorem KP_rev_equal {p : Array Nat} {i j : Nat} (hj : j ≤ p.size) (heq : ∀ k, i ≤ k → k < j → KP key p k = KP key p (j - 1)) (k : Nat) : KP key (kas_rev p i j) k = KP key p k := by
  rw [KP_rev hj]
  by_cases h : i ≤ k ∧ k < j
  · rw [if_pos h, heq k h.1 h.2, heq _ (by rw [Nat.sub_sub, Nat.add_sub_assoc (Nat.add_comm 1 k ▸ h.2)]; exact Nat.le_add_right i _) (by rw [Nat.sub_sub, Nat.add_comm i j, Nat.sub_lt_iff_lt_add (Nat.le_trans (Nat.add_comm 1 k ▸ h.2) (Nat.le_add_right j i)), Nat.add_comm j (1 + k)]; exact (Nat.add_comm j i).symm ▸ Nat.add_lt_add_right (Nat.lt_of_le_of_lt h.1 (Nat.lt_add_of_pos_left Nat.one_pos)) j)]
  · rw [if_neg h]
theorem BaseP.rev {p : Array Nat} (h : BaseP n₀ p) (i j : Nat) : BaseP n₀ (kas_rev p i j) := (mirror_perm p i j _).trans h
theorem BaseP.ask {p : Array Nat} (h : BaseP n₀ p) (hc : Asks κ key n₀ cmp s) {i j : Nat} (hi : i < n₀) (hj : j < n₀) {C : Bool → Shared → Prop} (hC : C (κ.blt (KP key p i) (KP key p j)) s) : cmp (p.getD i 0) (p.getD j 0) C s :=
  hc _ _ _ (h.lt hi) (h.lt hj) hC
theorem lt_end {a f n : Nat} (h : a + (f + 1) = n) : a < n := h ▸ Nat.lt_add_of_pos_right (Nat.succ_pos f)
theorem step_end {a f n : Nat} (h : a + (f + 1) = n) : a + 1 + f = n := (Nat.succ_add_eq_add_succ a f).trans h
theorem eq_end {j a : Nat} (h : j < a + 1) (h2 : ¬j < a) : j = a := Nat.le_antisymm (Nat.le_of_lt_succ h) (Nat.le_of_not_lt h2)
theorem le_pred {i j : Nat} (h : i ≤ j) (h2 : ¬i = j) : i ≤ j - 1 := Nat.le_sub_one_of_lt (Nat.lt_of_le_of_ne h h2)
theorem pred_lt' {i j : Nat} (h : i ≤ j) (h2 : ¬i = j) : j - 1 < j := Nat.sub_lt (Nat.lt_of_le_of_lt (Nat.zero_le _) (Nat.lt_of_le_of_ne h h2)) Nat.one_pos
theorem asc_ok {p : Array Nat} {nrem : Nat} {Q : Nat → Shared → Prop} (hc : Asks κ key n₀ cmp s) (hB : BaseP n₀ p) (hn : nrem ≤ n₀)
    (h : ∀ n, 1 ≤ n → n ≤ nrem → SortP key p n → (n = nrem ∨ κ.klt (KP key p n) (KP key p (n - 1))) → Q n s) : ∀ (f a : Nat), 1 ≤ a → a + f = nrem → SortP key p a → (kas_asc p f a).kasWp cmp Q s
  | 0, a, ha, he, hs => h a ha (Nat.le_of_eq he) hs (.inl he)
  | f + 1, a, ha, he, hs => by
    have hx := Nat.lt_of_lt_of_le (lt_end he) hn
    refine hB.ask hc hx (Nat.lt_of_le_of_lt (Nat.sub_le a 1) hx) ?_
    show (if κ.blt (KP key p a) (KP key p (a - 1)) = true then KasT.ret a else kas_asc p f (a + 1)).kasWp cmp Q s
    cases hless : κ.blt (KP key p a) (KP key p (a - 1))
    case true => exact h a ha (Nat.le_of_lt (lt_end he)) hs (.inr hless)
    case false =>
      refine asc_ok hc hB hn h f (a + 1) (Nat.le_add_left 1 a) (step_end he) fun i j hij hj => ?_
      by_cases hjx : j < a
      · exact hs i j hij hjx
      · have hj' : j = a := eq_end hj hjx
        subst hj'
        by_cases hi' : i = j
        · subst hi'; exact KeyOrd.kle_refl _
        · exact KeyOrd.kle_trans (hs i (j - 1) (le_pred hij hi') (pred_lt' hij hi')) hless
theorem tail3_ok {p : Array Nat} {n nrem : Nat} {Q : Nat × Array Nat → Shared → Prop} (hc : Asks κ key n₀ cmp s) (hB : BaseP n₀ p) (hn : nrem ≤ n₀) (h1 : 1 ≤ n) (hnn : n ≤ nrem) (hs : NonP key p n)
    (h : ∀ m q, BaseP n₀ q → 1 ≤ m → m ≤ nrem → SortP key q m → Q (m, q) s) : (kas_tail3 n nrem p).kasWp cmp Q s := by
  unfold kas_tail3
  rw [KasT.kasWp_bind]
  have hB' := hB.rev 0 n
  refine asc_ok (nrem := nrem) hc hB' hn (fun m hm1 hm2 hsm _ => h m _ hB' hm1 hm2 hsm) _ _ h1 (Nat.add_sub_cancel' hnn) fun i j hij hj => ?_
  have hsz : n ≤ p.size := by rw [hB.size]; exact Nat.le_trans hnn hn
  rw [KP_rev hsz, KP_rev hsz, if_pos ⟨Nat.zero_le _, Nat.lt_of_le_of_lt hij hj⟩, if_pos ⟨Nat.zero_le _, hj⟩, Nat.zero_add]
  exact hs _ _ (Nat.sub_le_sub_left hij _) (Nat.lt_of_le_of_lt (Nat.sub_le _ _) (Nat.sub_lt h1 Nat.one_pos))
theorem desc_ok {nrem : Nat} {Q : Array Nat × Nat × Nat → Shared → Prop} (hc : Asks κ key n₀ cmp s) (hn : nrem ≤ n₀)
    (h : ∀ m neq q, BaseP n₀ q → 1 ≤ m → m ≤ nrem → NonP key q m → neq + 1 ≤ m → (∀ i, m - (neq + 1) ≤ i → i < m → KP key q i = KP key q (m - 1)) → Q (q, m, neq) s) :
    ∀ (f : Nat) (p : Array Nat) (x neq : Nat), 1 ≤ x → x + f = nrem → BaseP n₀ p → NonP key p x → neq + 1 ≤ x → (∀ i, x - (neq + 1) ≤ i → i < x → KP key p i = KP key p (x - 1)) → (kas_desc f p x neq).kasWp cmp Q s
  | 0, p, x, neq, hx, he, hB, hs, hq, heq => h x neq p hB hx (Nat.le_of_eq he) hs hq heq
  | f + 1, p, x, neq, hx, he, hB, hs, hq, heq => by
    have hxn := Nat.lt_of_lt_of_le (lt_end he) hn
    have hx1 : x - 1 < n₀ := Nat.lt_of_le_of_lt (Nat.sub_le x 1) hxn
    have hsz : x ≤ p.size := by rw [hB.size]; exact Nat.le_of_lt hxn
    have h0 : ∀ q : Array Nat, ∀ i, x + 1 - (0 + 1) ≤ i → i < x + 1 → KP key q i = KP key q (x + 1 - 1) := fun q i h1 h2 => congrArg _ (Nat.le_antisymm (Nat.le_of_lt_succ h2) h1)
    refine hB.ask hc hxn hx1 ?_
    show (if κ.blt (KP key p x) (KP key p (x - 1)) = true then (if neq > 0 then kas_desc f (kas_rev p (x - (neq + 1)) x) (x + 1) 0 else kas_desc f p (x + 1) 0)
      else KasT.ask (p.getD (x - 1) 0) (p.getD x 0) fun d => if d = true then .ret (p, x, neq) else kas_desc f p (x + 1) (neq + 1)).kasWp cmp Q s
    cases hless : κ.blt (KP key p x) (KP key p (x - 1))
    case true =>
      rw [if_pos rfl]
      have step1 : ∀ q : Array Nat, (∀ k, KP key q k = KP key p k) → NonP key q (x + 1) := by
        intro q hk i j hij hj
        rw [hk, hk]
        by_cases hjx : j < x
        · exact hs i j hij hjx
        · have hj' : j = x := eq_end hj hjx
          subst hj'
          by_cases hi' : i = j
          · subst hi'; exact KeyOrd.kle_refl _
          · exact KeyOrd.kle_trans (KeyOrd.kle_of_klt hless) (hs i (j - 1) (le_pred hij hi') (pred_lt' hij hi'))
      by_cases hneq : neq > 0
      · rw [if_pos hneq]
        exact desc_ok hc hn h f _ (x + 1) 0 (Nat.le_add_left 1 x) (step_end he) (hB.rev _ _) (step1 _ (KP_rev_equal hsz heq)) (Nat.le_add_left 1 x) (h0 _)
      · rw [if_neg hneq]
        exact desc_ok hc hn h f _ (x + 1) 0 (Nat.le_add_left 1 x) (step_end he) hB (step1 _ fun _ => rfl) (Nat.le_add_left 1 x) (h0 _)
    case false =>
      rw [if_neg (by simp)]
      refine hB.ask hc hx1 hxn ?_
      show (if κ.blt (KP key p (x - 1)) (KP key p x) = true then KasT.ret (p, x, neq) else kas_desc f p (x + 1) (neq + 1)).kasWp cmp Q s
      cases hlarger : κ.blt (KP key p (x - 1)) (KP key p x)
      case true =>
        rw [if_pos rfl]
        exact h x neq p hB hx (Nat.le_of_lt (lt_end he)) hs hq heq
      case false =>
        rw [if_neg (by simp)]
        have heqx : KP key p x = KP key p (x - 1) := KeyOrd.kle_antisymm hlarger hless
        refine desc_ok hc hn h f p (x + 1) (neq + 1) (Nat.le_add_left 1 x) (step_end he) hB (fun i j hij hj => ?_) (Nat.succ_le_succ hq) (fun i h1 h2 => ?_)
        · by_cases hjx : j < x
          · exact hs i j hij hjx
          · have hj' : j = x := eq_end hj hjx
            subst hj'
            by_cases hi' : i = j
            · subst hi'; exact KeyOrd.kle_refl _
            · rw [heqx]; exact hs i (j - 1) (le_pred hij hi') (pred_lt' hij hi')
        · rw [show x + 1 - 1 = x from rfl]
          by_cases hix : i = x
          · subst hix; rfl
          · rw [heqx]; exact heq i (by rw [Nat.add_sub_add_right] at h1; exact h1) (Nat.lt_of_le_of_ne (Nat.le_of_lt_succ h2) hix)
theorem descPart_ok {p : Array Nat} {n nrem : Nat} {Q : Nat × Array Nat → Shared → Prop} (hc : Asks κ key n₀ cmp s) (hB : BaseP n₀ p) (hn : nrem ≤ n₀) (hnn : n + 1 ≤ nrem) (hs : NonP key p (n + 1))
    (h : ∀ m q, BaseP n₀ q → 1 ≤ m → m ≤ nrem → SortP key q m → Q (m, q) s) : (kas_descPart n nrem p).kasWp cmp Q s := by
  unfold kas_descPart
  rw [KasT.kasWp_bind]
  refine desc_ok (nrem := nrem) hc hn (fun m neq q hB' hm1 hm2 hs' hq he => ?_) _ p (n + 1) 0 (Nat.le_add_left 1 n) (Nat.add_sub_cancel' hnn) hB hs (Nat.le_add_left 1 n) (fun i h1 h2 => congrArg _ (Nat.le_antisymm (Nat.le_of_lt_succ h2) h1))
  have hsz : m ≤ q.size := by rw [hB'.size]; exact Nat.le_trans hm2 hn
  dsimp only
  by_cases hneq : neq > 0
  · rw [if_pos hneq]
    refine tail3_ok hc (hB'.rev _ _) hn hm1 hm2 (fun i j hij hj => ?_) h
    rw [KP_rev_equal hsz he, KP_rev_equal hsz he]
    exact hs' i j hij hj
  · rw [if_neg hneq]
    exact tail3_ok hc hB' hn hm1 hm2 hs' h
theorem count_ok {p : Array Nat} {nrem : Nat} {Q : Nat × Array Nat → Shared → Prop} (hc : Asks κ key n₀ cmp s) (hB : BaseP n₀ p) (hn : nrem ≤ n₀) (h1 : 1 ≤ nrem)
    (h : ∀ m q, BaseP n₀ q → 1 ≤ m → m ≤ nrem → SortP key q m → Q (m, q) s) : (kas_count nrem p).kasWp cmp Q s := by
  unfold kas_count
  rw [KasT.kasWp_bind]
  refine asc_ok (nrem := nrem) hc hB hn (fun n hn1 hn2 hsn hor => ?_) _ 1 (Nat.le_refl _) (Nat.add_sub_cancel' h1) (fun i j hij hj => by rw [show i = j from Nat.le_antisymm hij (Nat.lt_one_iff.mp hj ▸ Nat.zero_le i)]; exact KeyOrd.kle_refl _)
  by_cases hnn : n = nrem
  · rw [if_pos (by simpa using hnn)]
    exact h n p hB hn1 hn2 hsn
  · rw [if_neg (by simpa using hnn)]
    have hlt : κ.klt (KP key p n) (KP key p (n - 1)) := hor.resolve_left hnn
    by_cases hgt : n > 1
    · rw [if_pos hgt]
      refine hB.ask hc (Nat.lt_of_lt_of_le hn1 (Nat.le_trans hn2 hn)) (Nat.lt_of_lt_of_le (Nat.sub_lt hn1 Nat.one_pos) (Nat.le_trans hn2 hn)) ?_
      show (if κ.blt (KP key p 0) (KP key p (n - 1)) = true then KasT.ret (n, p) else kas_descPart n nrem (kas_rev p 0 n)).kasWp cmp Q s
      cases hrose : κ.blt (KP key p 0) (KP key p (n - 1))
      case true =>
        rw [if_pos rfl]
        exact h n p hB hn1 hn2 hsn
      case false =>
        rw [if_neg (by simp)]
        have hsz : n ≤ p.size := by rw [hB.size]; exact Nat.le_trans hn2 hn
        have hall : ∀ k, 0 ≤ k → k < n → KP key p k = KP key p (n - 1) := by
          intro k _ hk
          have a1 := hsn 0 k (Nat.zero_le k) hk
          have a2 := hsn k (n - 1) (Nat.le_sub_one_of_lt hk) (Nat.sub_lt hn1 Nat.one_pos)
          exact KeyOrd.kle_antisymm a2 (KeyOrd.kle_trans hrose a1)
        refine descPart_ok hc (hB.rev _ _) hn (Nat.lt_of_le_of_ne hn2 hnn) (fun i j hij hj => ?_) h
        rw [KP_rev_equal hsz hall, KP_rev_equal hsz hall]
        by_cases hjn : j < n
        · rw [hall i (Nat.zero_le i) (Nat.lt_of_le_of_lt hij hjn), hall j (Nat.zero_le j) hjn]; exact KeyOrd.kle_refl _
        · have hj' : j = n := eq_end hj hjn
          subst hj'
          by_cases hi' : i = j
          · subst hi'; exact KeyOrd.kle_refl _
          · rw [hall i (Nat.zero_le i) (Nat.lt_of_le_of_ne hij hi')]; exact KeyOrd.kle_of_klt hlt
    · rw [if_neg hgt]
      have hn1' : n = 1 := Nat.le_antisymm (Nat.le_of_not_lt hgt) hn1
      subst hn1'
      refine descPart_ok hc hB hn (Nat.lt_of_le_of_ne hn2 hnn) (fun i j hij hj => ?_) h
      by_cases hi' : i = j
      · subst hi'; exact KeyOrd.kle_refl _
      · have hi0 : i = 0 := Nat.lt_one_iff.mp (Nat.lt_of_lt_of_le (Nat.lt_of_le_of_ne hij hi') (Nat.le_of_lt_succ hj))
        have hj1 : j = 1 := Nat.le_antisymm (Nat.le_of_lt_succ hj) (Nat.lt_of_le_of_lt (Nat.zero_le i) (Nat.lt_of_le_of_ne hij hi'))
        subst hi0; subst hj1
        exact KeyOrd.kle_of_klt hlt
theorem place_ok {p : Array Nat} {k : Nat} {Q : Nat → Shared → Prop} (hc : Asks κ key n₀ cmp s) (hB : BaseP n₀ p) (hk : k < n₀) (hs : SortP key p k)
    (h : ∀ l, l ≤ k → (∀ i, i < l → κ.kle (KP key p i) (KP key p k)) → (∀ i, l ≤ i → i < k → κ.klt (KP key p k) (KP key p i)) → Q l s) :
    ∀ (f l r : Nat), l ≤ r → r ≤ k → r - l ≤ f → (∀ i, i < l → κ.kle (KP key p i) (KP key p k)) → (∀ i, r ≤ i → i < k → κ.klt (KP key p k) (KP key p i)) → (kas_place p k f l r).kasWp cmp Q s
  | 0, l, r, hlr, hrk, hm, hlo, hhi => by
    have : l = r := Nat.le_antisymm hlr (Nat.le_of_sub_eq_zero (Nat.le_zero.mp hm))
    subst this
    exact h l hrk hlo hhi
  | f + 1, l, r, hlr, hrk, hm, hlo, hhi => by
    show (if l ≥ r then KasT.ret l else KasT.ask (p.getD k 0) (p.getD ((l + r) / 2) 0) fun c => if c = true then kas_place p k f l ((l + r) / 2) else kas_place p k f ((l + r) / 2 + 1) r).kasWp cmp Q s
    by_cases hge : l ≥ r
    · rw [if_pos hge]
      have : l = r := Nat.le_antisymm hlr hge
      subst this
      exact h l hrk hlo hhi
    · rw [if_neg hge]
      have h3 : l < r := Nat.lt_of_not_le hge
      have m1 : l ≤ (l + r) / 2 := (Nat.le_div_iff_mul_le (by decide)).mpr (by rw [Nat.mul_two]; exact Nat.add_le_add_left (Nat.le_of_lt h3) l)
      have m2 : (l + r) / 2 < r := Nat.div_lt_of_lt_mul (by rw [Nat.two_mul]; exact Nat.add_lt_add_right h3 r)
      generalize (l + r) / 2 = q at *
      have m3 : q < k := Nat.lt_of_lt_of_le m2 hrk
      refine hB.ask hc hk (Nat.lt_trans m3 hk) ?_
      show (if κ.blt (KP key p k) (KP key p q) = true then kas_place p k f l q else kas_place p k f (q + 1) r).kasWp cmp Q s
      cases hless : κ.blt (KP key p k) (KP key p q)
      case true =>
        rw [if_pos rfl]
        exact place_ok hc hB hk hs h f _ _ m1 (Nat.le_of_lt m3) (Nat.le_of_lt_succ (Nat.lt_of_lt_of_le (Nat.sub_lt_sub_right m1 m2) hm)) hlo fun i h1 h2 => KeyOrd.klt_of_klt_of_kle hless (hs _ _ h1 h2)
      case false =>
        rw [if_neg (by simp)]
        exact place_ok hc hB hk hs h f _ _ m2 hrk (Nat.sub_le_of_le_add (Nat.le_trans (Nat.le_add_of_sub_le hm) (by rw [Nat.add_assoc, Nat.add_comm 1 l]; exact Nat.add_le_add_left (Nat.succ_le_succ m1) f))) (fun i h1 => KeyOrd.kle_trans (hs i q (Nat.le_of_lt_succ h1) m3) (show κ.kle _ _ from hless)) hhi
theorem bin_ok {Q : Array Nat → Shared → Prop} (hc : Asks κ key n₀ cmp s) (h : ∀ q, BaseP n₀ q → SortP key q n₀ → Q q s) :
    ∀ (f : Nat) (p : Array Nat) (k : Nat), BaseP n₀ p → k + f = n₀ → SortP key p k → (kas_bin f p k).kasWp cmp Q s
  | 0, p, k, hB, he, hs => by
    have : k = n₀ := by (first | lia | omega)
    subst this
    exact h p hB hs
  | f + 1, p, k, hB, he, hs => by
    show ((kas_place p k k 0 k).bind fun l => kas_bin f (bubble p k (k - l)) (k + 1)).kasWp cmp Q s
    rw [KasT.kasWp_bind]
    refine place_ok hc hB (by (first | lia | omega)) hs (fun l hlk hlo hhi => ?_) k 0 k (by (first | lia | omega)) (by (first | lia | omega)) (by (first | lia | omega)) (fun i hi => by (first | lia | omega)) (fun i h1 h2 => by (first | lia | omega))
    refine bin_ok hc h f _ (k + 1) ((bubble_perm p k (k - l)).trans hB) (by (first | lia | omega)) fun i j hij hj => ?_
    have hks : k < p.size := by rw [hB.size]; (first | lia | omega)
    have kb : ∀ i, KP key (bubble p k (k - l)) i = if i = l then KP key p k else if l < i ∧ i ≤ k then KP key p (i - 1) else KP key p i := fun i => by rw [KP_bubble hks (Nat.sub_le k l), Nat.sub_sub_self hlk]
    have b1 : ∀ i, i < l → KP key (bubble p k (k - l)) i = KP key p i := fun i h => by rw [kb, if_neg (Nat.ne_of_lt h), if_neg fun e => Nat.lt_asymm h e.1]
    have b2 : KP key (bubble p k (k - l)) l = KP key p k := by rw [kb, if_pos rfl]
    have b3 : ∀ i, l < i → i ≤ k → KP key (bubble p k (k - l)) i = KP key p (i - 1) := fun i h h2 => by rw [kb, if_neg (Nat.ne_of_gt h), if_pos ⟨h, h2⟩]
    clear kb
    have hjk := Nat.le_of_lt_succ hj
    have pk : ∀ {j}, l < j → j ≤ k → j - 1 < k := fun h h2 => Nat.lt_of_lt_of_le (Nat.sub_lt (Nat.lt_of_le_of_lt (Nat.zero_le _) h) Nat.one_pos) h2
    rcases Nat.lt_trichotomy i l with hi | e | hi
    · rw [b1 i hi]
      rcases Nat.lt_trichotomy j l with hj' | e | hj'
      · rw [b1 j hj']; exact hs i j hij (Nat.lt_of_lt_of_le hj' hlk)
      · rw [e, b2]; exact hlo i hi
      · rw [b3 j hj' hjk]; exact hs i (j - 1) (Nat.le_trans (Nat.le_of_lt hi) (Nat.le_sub_one_of_lt hj')) (pk hj' hjk)
    · rw [e] at hij ⊢
      rw [b2]
      rcases Nat.eq_or_lt_of_le hij with e | hj'
      · rw [← e, b2]; exact KeyOrd.kle_refl _
      · rw [b3 j hj' hjk]; exact KeyOrd.kle_of_klt (hhi _ (Nat.le_sub_one_of_lt hj') (pk hj' hjk))
    · have hj' := Nat.lt_of_lt_of_le hi hij
      rw [b3 i hi (Nat.le_trans hij hjk), b3 j hj' hjk]
      exact hs _ _ (Nat.sub_le_sub_right hij 1) (pk hj' hjk)
theorem sort_ok {Q : Array Nat → Shared → Prop} (hc : Asks κ key n₀ cmp s) (h1 : 1 ≤ n₀) (h : ∀ q, BaseP n₀ q → SortP key q n₀ → Q q s) : (kas_sort n₀).kasWp cmp Q s := by
  unfold kas_sort
  rw [KasT.kasWp_bind]
  refine count_ok hc (Array.Perm.refl _) (Nat.le_refl _) h1 fun m q hB hm1 hm2 hs => ?_
  dsimp only
  by_cases hlt : m < n₀
  · rw [if_pos hlt]
    exact bin_ok hc h _ _ _ hB (by rw [Nat.max_eq_left hm1]; exact Nat.add_sub_cancel' hm2) (by rw [Nat.max_eq_left hm1]; exact hs)
  · rw [if_neg hlt]
    have : m = n₀ := Nat.le_antisymm hm2 (Nat.le_of_not_lt hlt)
    subst this
    exact h q hB hs
end
end
section
def SV {K : Type} : List (K × Value) → List (K × Str) → Prop
  | [], [] => True
  | a :: r, b :: q => (a.1 = b.1 ∧ ∃ t, a.2 = .str b.2 t) ∧ SV r q
  | _, _ => False
theorem SV.keys {K : Type} : ∀ {kvs : List (K × Value)} {l : List (K × Str)}, SV kvs l → kvs.map (·.1) = l.map (·.1)
  | [], [], _ => rfl
  | _ :: _, _ :: _, h => by rw [List.map_cons, List.map_cons, h.1.1, SV.keys h.2]
  | [], _ :: _, h => h.elim
  | _ :: _, [], h => h.elim
theorem SV.append {K : Type} : ∀ {a b : List (K × Value)} {x y : List (K × Str)}, SV a x → SV b y → SV (a ++ b) (x ++ y)
  | [], _, [], _, _, h => h
  | _ :: _, _, _ :: _, _, h, h2 => ⟨h.1, SV.append h.2 h2⟩
  | [], _, _ :: _, _, h, _ => h.elim
  | _ :: _, _, [], _, h, _ => h.elim
theorem SV.valueAt {K : Type} [DecidableEq K] : ∀ {kvs : List (K × Value)} {l : List (K × Str)} (k : K), SV kvs l → (getB l k = none ∧ PySem.valueAt kvs k = none) ∨ ∃ s t, getB l k = some s ∧ PySem.valueAt kvs k = some (.str s t)
  | [], [], _, _ => .inl ⟨rfl, rfl⟩
  | a :: r, b :: q, k, h => by
    obtain ⟨⟨e, t, et⟩, h2⟩ := h
    rw [getB_cons]
    by_cases hk : a.1 = k
    · refine .inr ⟨b.2, t, by rw [← e, if_pos hk], ?_⟩
      simp [PySem.valueAt, hk, et]
    · rw [← e, if_neg hk]
      rcases SV.valueAt k h2 with ⟨x, y⟩ | ⟨s, t', x, y⟩
      · refine .inl ⟨x, ?_⟩
        simp only [PySem.valueAt, List.find?_cons, hk, decide_false] at y ⊢
        exact y
      · refine .inr ⟨s, t', x, ?_⟩
        simp only [PySem.valueAt, List.find?_cons, hk, decide_false] at y ⊢
        exact y
  | [], _ :: _, _, h => h.elim
  | _ :: _, [], _, h => h.elim
theorem stored_new {K : Type} [DecidableEq K] {kvs : List (K × Value)} {k : K} {v : Value} (h : k ∉ kvs.map (·.1)) : stored kvs k v = kvs ++ [(k, v)] := by
  unfold stored
  rw [if_neg]
  rw [List.any_eq_true]
  rintro ⟨x, hx, e⟩
  exact h (List.mem_map.mpr ⟨x, hx, of_decide_eq_true e⟩)

section
variable {prog : Program} {w : World}
def PairIs (prog : Program) (w : World) (t : Sem Value × Sem Value) (kv : Int × Str) : Prop :=
  (∀ (A : Around) (E : Value → Shared → Prop) (s : Shared) (Q : Value → Shared → Prop), (∀ tk tk', Q (.int kv.1 tk) { s with toks := tk' }) → wpAny (model prog w) A t.1 Q E s) ∧
  (∀ (A : Around) (E : Value → Shared → Prop) (s : Shared) (Q : Value → Shared → Prop), (∀ tk tk', Q (.str kv.2 tk) { s with toks := tk' }) → wpAny (model prog w) A t.2 Q E s)
def PairsAre (prog : Program) (w : World) : List (Sem Value × Sem Value) → List (Int × Str) → Prop
  | [], [] => True
  | a :: r, b :: q => PairIs prog w a b ∧ PairsAre prog w r q
  | _, _ => False
theorem PairsAre.length : ∀ {ps : List (Sem Value × Sem Value)} {l : List (Int × Str)}, PairsAre prog w ps l → ps.length = l.length
  | [], [], _ => rfl
  | _ :: _, _ :: _, h => by rw [List.length_cons, List.length_cons, PairsAre.length h.2]
  | [], _ :: _, h => h.elim
  | _ :: _, [], h => h.elim
theorem pair_const {env : Env} {i : Int} {x : Str} {a b : Nat} {p q pos : Pos} : PairIs prog w (eval (.Constant (.int i) a p) env, do let x ← eval (.Constant (.str x) b q) env; standAt pos; pure x) (i, x) :=
  ⟨fun A E s Q h => by
    show wpAny _ A (mkInt i) Q E s
    exact wpAny_bind (wpAny_fresh (wpAny_pure (h _ _))), fun A E s Q h => by
    show wpAny _ A (mkText x >>= fun x => standAt pos >>= fun _ => pure x) Q E s
    exact wpAny_bind (wpAny_bind (wpAny_fresh (wpAny_pure (wpAny_bind (wpAny_standAt (wpAny_pure (h _ _)))))))⟩

def VS : List (Value × Value) → List (Int × Str) → Prop
  | [], [] => True
  | a :: r, b :: q => (∃ t, a.1 = .int b.1 t) ∧ (∃ t, a.2 = .str b.2 t) ∧ VS r q
  | _, _ => False
theorem VS.carries : ∀ {vs : List (Value × Value)} {l : List (Int × Str)}, VS vs l → ∃ kvs, Carries (intKind prog w) vs kvs ∧ SV kvs l
  | [], [], _ => ⟨[], trivial, trivial⟩
  | (a, b) :: r, (i, x) :: q, ⟨⟨t, e1⟩, ⟨t', e2⟩, h⟩ => by
    obtain ⟨kvs, c, v⟩ := VS.carries h
    refine ⟨(i, b) :: kvs, ⟨?_, rfl, c⟩, ⟨rfl, t', e2⟩, v⟩
    have e1' : a = .int i t := e1
    rw [e1']; exact intKind_is _ _ _ _
  | [], _ :: _, h => h.elim
  | _ :: _, [], h => h.elim

variable {A : Around} {E : Value → Shared → Prop}
theorem evalPairs_is : ∀ {ps : List (Sem Value × Sem Value)} {l : List (Int × Str)} {s : Shared} {Q : List (Value × Value) → Shared → Prop}, PairsAre prog w ps l → (∀ vs tk, VS vs l → Q vs { s with toks := tk }) → wpAny (model prog w) A (evalPairs ps) Q E s
  | [], [], s, Q, _, h => evalPairs_nil (h [] s.toks trivial)
  | a :: r, b :: q, s, Q, hp, h => by
    refine evalPairs_cons (hp.1.1 _ _ _ _ fun t1 tk1 => hp.1.2 _ _ _ _ fun t2 tk2 => ?_)
    exact evalPairs_is hp.2 fun vs tk hv => h _ _ ⟨⟨_, rfl⟩, ⟨_, rfl⟩, hv⟩
  | [], _ :: _, _, _, h, _ => h.elim
  | _ :: _, [], _, _, h, _ => h.elim

theorem longPairs {d : Addr} {ps : List (Sem Value × Sem Value)} : ∀ {l : List (Int × Str)} {acc : List (Int × Value)} {accL : List (Int × Str)} {s : Shared} {Q : PUnit → Shared → Prop}, PairsAre prog w ps l → SV acc accL → ((accL ++ l).map (·.1)).Nodup → accL.length + l.length ≤ 1000 →
    s.heap.DictOf (intKind prog w) d acc →
    (∀ h' tk kvs, h'.DictOf (intKind prog w) d kvs → SV kvs (accL ++ l) → Heap.SameBut d s.heap h' → Q PUnit.unit { s with heap := h', toks := tk }) →
    wpAny (model prog w) A (forIn ps PUnit.unit fun (x : Sem Value × Sem Value) (_ : PUnit) => (do let kv ← x.1; let vv ← holding [kv] x.2; holding [kv, vv] (dictSet d kv vv); pure (ForInStep.yield PUnit.unit) : Sem (ForInStep PUnit))) Q E s := by
  induction ps with
  | nil =>
    intro l acc accL s Q hp hv _ _ hm h
    cases l with
    | cons _ _ => exact hp.elim
    | nil => exact wpAny_pure (h s.heap s.toks acc hm (by rw [List.append_nil]; exact hv) (Heap.SameBut.refl _ _))
  | cons a r ih =>
    intro l acc accL s Q hp hv hn hl hm h
    cases l with
    | nil => exact hp.elim
    | cons b q =>
      rw [List.forIn_cons]
      refine wpAny_bind (wpAny_bind (hp.1.1 _ _ _ _ fun t1 tk1 => wpAny_bind (wpAny_holding (hp.1.2 _ _ _ _ fun t2 tk2 => ?_))))
      have hlen : acc.length = accL.length := by have := congrArg List.length hv.keys; rwa [List.length_map, List.length_map] at this
      have hnot : b.1 ∉ acc.map (·.1) := by
        rw [hv.keys]
        rw [List.map_append, List.nodup_append] at hn
        exact fun hm' => hn.2.2 b.1 hm' b.1 (.head _) rfl
      refine wpAny_bind (wpAny_holding (wpAny_dictSet_pairs (knd := intKind prog w) (k := b.1) (hsz := by rw [hlen, sizeLine_eq]; (first | lia | omega)) (intKind_is _ _ _ _) hm fun h₁ hm₁ hs₁ => wpAny_pure ?_))
      rw [stored_new hnot] at hm₁
      have ea : accL ++ b :: q = accL ++ [b] ++ q := by rw [List.append_assoc]; rfl
      rw [ea] at hn h
      exact ih (accL := accL ++ [b]) hp.2 (hv.append (b := [(b.1, Value.str b.2 t2)]) ⟨⟨rfl, _, rfl⟩, trivial⟩) hn (by rw [List.length_append, List.length_singleton, Nat.add_assoc, Nat.add_comm 1]; exact hl) hm₁ fun h' tk kvs hd hs hb => h h' tk kvs hd hs (hs₁.trans hb)

theorem subDict_is {ps : List (Sem Value × Sem Value)} {l : List (Int × Str)} {s : Shared} {Q : Addr → Shared → Prop} (hp : PairsAre prog w ps l) (hn : (l.map (·.1)).Nodup) (hl : l.length ≤ 1000)
    (h : ∀ h' tk kvs, h'.DictOf (intKind prog w) s.heap.objs.size kvs → SV kvs l → (∀ b o, s.heap.get? b = some o → h'.get? b = some o) → Q s.heap.objs.size { s with heap := h', toks := tk }) :
    wpAny (model prog w) A (subDict ps) Q E s := by
  have hkeep : ∀ {h' : Heap}, Heap.SameBut s.heap.objs.size (s.heap.push { cls := .type "dict", data := .dict #[] }) h' → ∀ b o, s.heap.get? b = some o → h'.get? b = some o := fun hs b o e =>
    hs.extBut b o (Nat.ne_of_lt (Heap.lt_size e)) (Heap.get?_push_of_some _ e)
  by_cases h15 : ps.length ≤ 15
  · refine wpAny_subDict (knd := intKind prog w) h15 (evalPairs_is hp fun vs tk hv => ?_)
    obtain ⟨kvs, hc, hs⟩ := VS.carries (prog := prog) (w := w) hv
    refine ⟨kvs, hc, Heap.DictOf.new s.heap, fun h' hm hb => h h' _ kvs ?_ hs (hkeep hb)⟩
    rw [merged_nil_of_nodup _ (by rw [hs.keys]; exact hn)] at hm
    exact hm
  · unfold subDict
    refine wpAny_bind (wpAny_alloc ?_)
    refine wpAny_bind (wpAny_holding ?_)
    rw [if_neg h15]
    refine wpAny_bind (wpAny_rule ?_)
    refine wpAny_bind (longPairs (d := s.heap.objs.size) (acc := []) (accL := []) hp trivial (by simpa using hn) (by simpa using hl) (Heap.DictOf.new s.heap) fun h' tk kvs hd hs hb => ?_)
    exact wpAny_pure (wpAny_pure (h h' tk kvs hd (by simpa using hs) (hkeep hb)))
end

section
variable {prog : Program} {w : World} {A : Around} {E : Value → Shared → Prop} {s : Shared}
theorem dictPut_is {d : Addr} {kvs : List (Int × Value)} {k : Int} {key v : Value} {Q : Unit → Shared → Prop} (hkey : (intKind prog w).is k key = true) (hm : s.heap.DictOf (intKind prog w) d kvs) (hnew : k ∉ kvs.map (·.1))
    (hQ : ∀ h', h'.DictOf (intKind prog w) d (kvs ++ [(k, v)]) → Heap.SameBut d s.heap h' → Q () { s with heap := h' }) (hsz : kvs.length ≤ 1000) :
    wpAny (model prog w) A (dictPut d ((intKind prog w).hash k) key v) Q E s := by
  obtain ⟨o, es, ep, ho, hc, hd, hk, hp, hn⟩ := hm
  have hes : es.size ≤ sizeLine := by
    have e1 := hp.length
    have e2 : es.toList.length = es.size := by simp
    rw [sizeLine_eq]; (first | lia | omega)
  unfold dictPut
  refine wpAny_bind (wpAny_dictFind_of hkey ho hd hk ?_)
  have hidx : (es.findIdx? fun e => (intKind prog w).is k e.key) = kvs.findIdx? fun kv => decide (kv.1 = k) := by
    rw [← hp.findIdx k]; obtain ⟨l⟩ := es; simp
  have hnone : (kvs.findIdx? fun kv => decide (kv.1 = k)) = none := by
    rw [List.findIdx?_eq_none_iff]
    intro x hx
    exact decide_eq_false fun e => hnew (List.mem_map.mpr ⟨x, hx, e⟩)
  rw [hidx, hnone]
  dsimp only
  have hpush : (es.push ⟨(intKind prog w).hash k, key, v⟩).toList = es.toList ++ [⟨(intKind prog w).hash k, key, v⟩] := by simp
  have happ : ∀ {a : List DictEntry} {b : List (Int × Value)}, Pairs (intKind prog w) a b → Pairs (intKind prog w) (a ++ [⟨(intKind prog w).hash k, key, v⟩]) (b ++ [(k, v)]) := by
    intro a b hab
    induction hab with
    | nil => exact .cons hkey rfl .nil
    | cons h1 h2 _ ih => exact .cons h1 h2 ih
  refine wpAny_updateDictKeys (hz := hes) ho hd (hQ _ ⟨_, _, ep + 1, Heap.get?_update_self _ ho (Obj.isFreed_of_dict (Obj.data_mapDictKeys hd _)), hc.mapDictKeys _, Obj.data_mapDictKeys hd _, hk.push hkey _, ?_, ?_⟩ (Heap.SameBut.update ..))
  · rw [hpush]; exact happ hp
  · rw [List.map_append]
    refine List.nodup_append.mpr ⟨hn, by simp, ?_⟩
    intro a ha b hb e
    simp at hb
    exact hnew (by rw [← hb, ← e]; exact ha)

theorem wp_if_pos {α : Type} {M : Model} {A : Around} {c : Prop} [Decidable c] {t e : Sem α} {Q : α → Shared → Prop} {E : Value → Shared → Prop} {s : Shared} (h : c) (k : wpAny M A t Q E s) : wpAny M A (if c then t else e) Q E s := by rw [if_pos h]; exact k
theorem wp_if_neg {α : Type} {M : Model} {A : Around} {c : Prop} [Decidable c] {t e : Sem α} {Q : α → Shared → Prop} {E : Value → Shared → Prop} {s : Shared} (h : ¬c) (k : wpAny M A e Q E s) : wpAny M A (if c then t else e) Q E s := by rw [if_neg h]; exact k
theorem range_head {x i n : Nat} {rest : List Nat} (h : x :: rest = List.range' i (n - i)) : i < n ∧ x = i ∧ rest = List.range' (i + 1) (n - (i + 1)) := by
  cases q : n - i with
  | zero => rw [q] at h; cases h
  | succ k =>
    rw [q, List.range'_succ] at h
    obtain ⟨h1, h2⟩ := List.cons.inj h
    exact ⟨Nat.lt_of_sub_eq_succ q, h1, by rw [h2, Nat.sub_add_eq, q]; rfl⟩
theorem pairs_nth {es : List DictEntry} {kvs : List (Int × Value)} (h : Pairs (intKind prog w) es kvs) : ∀ {i : Nat} (hi : i < kvs.length), ∃ e, es[i]? = some e ∧ (intKind prog w).is (kvs[i]).1 e.key = true ∧ e.val = (kvs[i]).2 := by
  induction h with
  | nil => exact fun hi => absurd hi (Nat.not_lt_zero _)
  | cons a b _ ih =>
    intro i hi
    cases i with
    | zero => exact ⟨_, rfl, a, b⟩
    | succ i => exact ih (Nat.lt_of_succ_lt_succ hi)
theorem dict_nth {es : Array DictEntry} {kvs : List (Int × Value)} (hk : KeysOf (intKind prog w) es) (hp : Pairs (intKind prog w) es.toList kvs) {i : Nat} (hi : i < kvs.length) :
    ∃ key, (intKind prog w).is (kvs[i]).1 key = true ∧ es[i]? = some ⟨(intKind prog w).hash (kvs[i]).1, key, (kvs[i]).2⟩ := by
  obtain ⟨⟨hh, key, v⟩, h1, h2, rfl⟩ := pairs_nth hp hi
  rw [Array.getElem?_toList] at h1
  obtain ⟨k, a, rfl⟩ := hk _ (Array.mem_of_getElem? h1)
  exact ⟨key, h2, by rw [h1, (intKind prog w).inj _ _ _ a h2]⟩
theorem fresh_take {acc kvs : List (Int × Value)} (hn : ((acc ++ kvs).map (·.1)).Nodup) {i : Nat} (hi : i < kvs.length) : (kvs[i]).1 ∉ (acc ++ kvs.take i).map (·.1) := by
  have h2 := hn
  rw [← List.take_append_drop i kvs, ← List.append_assoc, List.map_append, List.nodup_append, List.drop_eq_getElem_cons hi] at h2
  exact fun hm => h2.2.2 _ hm _ (.head _) rfl
theorem merge_is {d sub : Addr} {acc kvs : List (Int × Value)} {Q : Unit → Shared → Prop} (h1 : s.heap.DictOf (intKind prog w) d acc) (h2 : s.heap.DictOf (intKind prog w) sub kvs) (hne : acc ≠ []) (hds : sub ≠ d) (hlo : (sub == sysModules) = false)
    (hn : ((acc ++ kvs).map (·.1)).Nodup) (hsz : acc.length + kvs.length ≤ 1000)
    (hQ : ∀ h', h'.DictOf (intKind prog w) d (acc ++ kvs) → Heap.SameBut d s.heap h' → Q () { s with heap := h' }) :
    wpAny (model prog w) A (mergeMapping d (.ref sub) false) Q E s := by
  refine hide_goal (fun Hq => ?_)
  obtain ⟨o2, es2, ep2, ho2, hc2, hd2, hk2, hp2, hn2⟩ := id h2
  obtain ⟨o1, es1, ep1, ho1, hc1, hd1, hk1, hp1, hn1⟩ := id h1
  have hT : s.TypeIs (.ref sub) "dict" := ⟨o2, ho2, hc2.1⟩
  have hl2 : es2.size = kvs.length := hp2.length
  have hemp : ¬es1.isEmpty = true := fun q => hne (List.length_eq_zero_iff.mp (hp1.length.symm.trans (Array.isEmpty_iff_size_eq_zero.mp q)))
  refine Hq.get ?_
  unfold mergeMapping
  refine wpAny_bind (wpAny_isInstance hT (U := "dict") (b := true) (by rw [isSubtype_type]; kernel_rfl) ?_)
  refine wp_if_pos rfl ?_
  refine wpAny_bind (wpAny_specialOf hT F.slot_dict_iter.lookup (wpAny_bind (wpAny_pure ?_)))
  rw [show ((some (Value.builtin "dict.__iter__") == some (Value.builtin "dict.__iter__")) = true) from by decide]
  dsimp only
  refine wp_if_neg (by rw [hlo]; decide) ?_
  refine wpAny_bind (wpAny_dictEntries ho1 hd1 (wp_if_neg hemp ?_))
  refine wpAny_bind (wpAny_dictEntries ho2 hd2 (wpAny_bind (wpAny_dictEpoch ho2 hd2 ?_)))
  refine wpAny_bind (wpAny_forIn_list _ (fun (rest : List Nat) (_ : PUnit) s' => ∀ C : Prop, (∀ i h', rest = List.range' i (kvs.length - i) → i ≤ kvs.length → s' = { s with heap := h' } → h'.DictOf (intKind prog w) d (acc ++ kvs.take i) → Heap.SameBut d s.heap h' → C) → C) _ (fun x rest _ s' hJ => hJ _ fun i h' hr hi e hD hS => ?_) (fun _ s' hJ => hJ _ fun i h' hr hi e hD hS => ?_) (List.range es2.size) _
    fun _ k => k 0 s.heap (by rw [hl2, List.range_eq_range', Nat.sub_zero]) (Nat.zero_le _) rfl (by simpa using h1) (Heap.SameBut.refl _ _))
  · subst e
    have hrx := range_head hr
    refine hide_goal (fun Hq => ?_)
    obtain ⟨key, hkey, hE⟩ := dict_nth hk2 hp2 hrx.1
    replace hE := (congrArg (fun j => es2[j]?) hrx.2.1).trans hE
    have ho2' : h'.get? sub = some o2 := (hS.2 sub hds).trans ho2
    refine Hq.get ?_
    refine wpAny_bind (wpAny_dictEntries (s := { s with heap := h' }) ho2' hd2 ?_)
    rw [hE]
    dsimp only
    refine wpAny_bind (wpAny_holding ?_)
    refine dictPut_is (s := { s with heap := h' }) hkey hD (fresh_take hn hrx.1) (fun h'' hD' hS' => ?_) (by rw [List.length_append, List.length_take]; (first | lia | omega))
    refine wpAny_bind (wpAny_dictEpoch (s := { s with heap := h'' }) ((hS'.2 sub hds).trans ho2') hd2 (wp_if_neg (by simp) (wpAny_pure fun C k => k (i + 1) h'' hrx.2.2 hrx.1 rfl ?_ (hS.trans hS'))))
    rw [List.take_succ_eq_append_getElem hrx.1, ← List.append_assoc]
    exact hD'
  · subst e
    have h3 : kvs.length ≤ i := by
      cases q : kvs.length - i with
      | zero => exact Nat.le_of_sub_eq_zero q
      | succ n => rw [q, List.range'_succ] at hr; cases hr
    rw [List.take_of_length_le h3] at hD
    exact wpAny_pure (hQ h' hD hS)
end

section
variable {prog : Program} {w : World} {A : Around} {E : Value → Shared → Prop}
theorem gather_wp {f : (Option (Sem Value) × Sem Value) → (Option Addr × List (Sem Value × Sem Value)) → Sem (ForInStep (Option Addr × List (Sem Value × Sem Value)))}
    (hf : ∀ (p : Sem Value × Sem Value) (run : List (Sem Value × Sem Value)) (m : Option Addr), run.length + 1 < 17 → f (some p.1, p.2) (m, run) = pure (.yield (m, run ++ [p]))) {s : Shared} {Q : (Option Addr × List (Sem Value × Sem Value)) → Shared → Prop}
    {rest : List (Option (Sem Value) × Sem Value)} {m : Option Addr} :
    ∀ (items run : List (Sem Value × Sem Value)), run.length + items.length < 17 → wpAny (model prog w) A (forIn rest (m, run ++ items) f) Q E s → wpAny (model prog w) A (forIn ((items.map fun p => (some p.1, p.2)) ++ rest) (m, run) f) Q E s
  | [], run, _, h => by simpa using h
  | p :: r, run, hl, h => by
    rw [List.map_cons, List.cons_append, List.forIn_cons, hf p run m (by simp at hl; (first | lia | omega)), pure_bind]
    refine gather_wp hf r (run ++ [p]) (by simp at hl ⊢; (first | lia | omega)) ?_
    simpa using h

theorem display36 {a b c : List (Sem Value × Sem Value)} {x y z : List (Int × Str)} {s : Shared} {Q : Value → Shared → Prop} (ha : PairsAre prog w a x) (hb : PairsAre prog w b y) (hc : PairsAre prog w c z) (la : x.length = 17) (lb : y.length = 17) (lc : z.length = 2)
    (hn : ((x ++ y ++ z).map (·.1)).Nodup) (hlow : sysModules < s.heap.objs.size)
    (h : ∀ h' tk kvs, h'.DictOf (intKind prog w) s.heap.objs.size kvs → SV kvs (x ++ y ++ z) → (∀ b o, s.heap.get? b = some o → h'.get? b = some o) → Q (.ref s.heap.objs.size) { s with heap := h', toks := tk }) :
    wpAny (model prog w) A (dictDisplay ((a ++ b ++ c).map fun p => (some p.1, p.2))) Q E s := by
  have la' : a.length = 17 := ha.length.trans la
  have lb' : b.length = 17 := hb.length.trans lb
  have lc' : c.length = 2 := hc.length.trans lc
  obtain ⟨a', p, rfl, la2⟩ : ∃ a' p, a = a' ++ [p] ∧ a'.length = 16 := ⟨a.take 16, a[16], by rw [List.take_append_getElem]; exact (List.take_of_length_le (Nat.le_of_eq la')).symm, by rw [List.length_take, la']; rfl⟩
  obtain ⟨b', q, rfl, lb2⟩ : ∃ a' p, b = a' ++ [p] ∧ a'.length = 16 := ⟨b.take 16, b[16], by rw [List.take_append_getElem]; exact (List.take_of_length_le (Nat.le_of_eq lb')).symm, by rw [List.length_take, lb']; rfl⟩
  have hmap : ((a' ++ [p] ++ (b' ++ [q]) ++ c).map fun p => (some p.1, p.2)) = (a'.map fun p => (some p.1, p.2)) ++ ((some p.1, p.2) :: ((b'.map fun p => (some p.1, p.2)) ++ ((some q.1, q.2) :: ((c.map fun p => (some p.1, p.2)) ++ [])))) := by simp
  unfold dictDisplay
  dsimp only
  rw [hmap]
  refine wpAny_bind (gather_wp (fun p run m hl => ?_) a' [] (by rw [la2]; exact (by decide : 0 + 16 < 17)) ?_)
  · have hne : ((run ++ [(p.1, p.2)]).length == 17) = false := by rw [List.length_append]; exact beq_false_of_ne (Nat.ne_of_lt hl)
    simp only [hne, Bool.false_eq_true, if_false]
  rw [List.forIn_cons]
  refine wpAny_bind ?_
  have h17 : (([] ++ a' ++ [(p.1, p.2)]).length == 17) = true := by rw [List.length_append, List.nil_append, la2]; rfl
  dsimp only
  rw [if_pos h17]
  have eA : ([] ++ a' ++ [(p.fst, p.snd)]) = a' ++ [p] := by simp
  rw [eA]
  have hnE : ∀ (l : List (Sem Value × Sem Value)) r, (l ++ [r]).isEmpty = false := by intro l r; simp
  (try simp only [hnE, Bool.false_eq_true, if_false])
  have hnn := hn
  rw [List.map_append, List.nodup_append] at hnn
  obtain ⟨hn1, hn3, hn13⟩ := hnn
  have hn12 := hn1
  rw [List.map_append, List.nodup_append] at hn12
  refine wpAny_bind (wpAny_bind (subDict_is ha hn12.1 (by rw [la]; decide) fun h₁ tk₁ k₁ hD₁ hS₁ hK₁ => wpAny_pure (wpAny_pure ?_)))
  refine gather_wp (fun p run m hl => ?_) b' [] (by rw [lb2]; exact (by decide : 0 + 16 < 17)) ?_
  · have hne : ((run ++ [(p.1, p.2)]).length == 17) = false := by rw [List.length_append]; exact beq_false_of_ne (Nat.ne_of_lt hl)
    simp only [hne, Bool.false_eq_true, if_false]
  rw [List.forIn_cons]
  refine wpAny_bind ?_
  have h17' : (([] ++ b' ++ [(q.1, q.2)]).length == 17) = true := by rw [List.length_append, List.nil_append, lb2]; rfl
  dsimp only
  rw [if_pos h17']
  have eB : ([] ++ b' ++ [(q.fst, q.snd)]) = b' ++ [q] := by simp
  rw [eB]
  (try simp only [hnE, Bool.false_eq_true, if_false])
  have hd1 : s.heap.objs.size < h₁.objs.size := by obtain ⟨o, _, _, ho, _⟩ := hD₁; exact Heap.lt_size ho
  refine wpAny_bind (wpAny_bind (wpAny_holding (subDict_is hb hn12.2.1 (by rw [lb]; decide) fun h₂ tk₂ k₂ hD₂ hS₂ hK₂ => ?_)))
  have hD₁' : h₂.DictOf (intKind prog w) s.heap.objs.size k₁ := hD₁.keep hK₂
  have len1 : k₁.length = 17 := by have h := congrArg List.length hS₁.keys; rw [List.length_map, List.length_map, la] at h; exact h
  have len2 : k₂.length = 17 := by have h := congrArg List.length hS₂.keys; rw [List.length_map, List.length_map, lb] at h; exact h
  have hne1 : k₁ ≠ [] := by intro e; rw [e] at len1; simp at len1
  have low : ∀ a : Nat, s.heap.objs.size ≤ a → ((a : Addr) == sysModules) = false := fun a ha => by
    have : sysModules ≠ a := Nat.ne_of_lt (Nat.lt_of_lt_of_le hlow ha)
    simp only [beq_eq_false_iff_ne, ne_eq]; exact fun e => this e.symm
  refine wpAny_bind (wpAny_onRaise (wpAny_holding (merge_is (s := { s with heap := h₂, toks := tk₂ }) hD₁' hD₂ hne1 (Nat.ne_of_gt hd1) (low _ (Nat.le_of_lt hd1)) (by rw [List.map_append, hS₁.keys, hS₂.keys, ← List.map_append]; exact hn1) (by rw [len1, len2]; decide) fun h₃ hD₃ hB₃ => ?_)))
  refine wpAny_pure (wpAny_pure ?_)
  refine gather_wp (fun p run m hl => ?_) c [] (by rw [lc']; exact (by decide : 0 + 2 < 17)) ?_
  · have hne : ((run ++ [(p.1, p.2)]).length == 17) = false := by rw [List.length_append]; exact beq_false_of_ne (Nat.ne_of_lt hl)
    simp only [hne, Bool.false_eq_true, if_false]
  rw [List.forIn_nil]
  refine wpAny_pure ?_
  dsimp only
  have hcE : ([] ++ c).isEmpty = false := by
    cases c with
    | nil => simp at lc'
    | cons _ _ => rfl
  rw [if_neg (by rw [hcE]; decide)]
  have eC : [] ++ c = c := by simp
  rw [eC]
  have hd3 : s.heap.objs.size < h₃.objs.size := by obtain ⟨o, _, _, ho, _⟩ := hD₃; exact Heap.lt_size ho
  refine wpAny_bind (wpAny_bind (wpAny_holding (subDict_is (s := { s with heap := h₃, toks := tk₂ }) hc hn3 (by rw [lc]; decide) fun h₄ tk₄ k₄ hD₄ hS₄ hK₄ => ?_)))
  have len4 : k₄.length = 2 := by have h := congrArg List.length hS₄.keys; rw [List.length_map, List.length_map, lc] at h; exact h
  refine wpAny_bind (wpAny_onRaise (wpAny_holding (merge_is (s := { s with heap := h₄, toks := tk₄ }) (hD₃.keep hK₄) hD₄ (by simp [hne1]) (Nat.ne_of_gt hd3) (low _ (Nat.le_of_lt hd3)) (by rw [List.map_append, List.map_append, hS₁.keys, hS₂.keys, hS₄.keys, ← List.map_append, ← List.map_append]; exact hn) (by rw [List.length_append, len1, len2, len4]; decide) fun h₅ hD₅ hB₅ => ?_)))
  refine wpAny_pure (wpAny_pure ?_)
  exact h h₅ tk₄ _ hD₅ ((hS₁.append hS₂).append hS₄) fun b o e => hB₅.extBut b o (Nat.ne_of_lt (Heap.lt_size e)) (hK₄ b o (hB₃.extBut b o (Nat.ne_of_lt (Heap.lt_size e)) (hK₂ b o (hK₁ b o e))))
end

inductive ConstPairs : List (Option Expr) → List Expr → List (Int × Str) → Prop
  | nil : ConstPairs [] [] []
  | cons {kz : List (Option Expr)} {vz : List Expr} {lz : List (Int × Str)} {iz : Int} {xz : Str} {az bz : Nat} {pz qz : Pos} : ConstPairs kz vz lz → ConstPairs (some (.Constant (.int iz) az pz) :: kz) (.Constant (.str xz) bz qz :: vz) ((iz, xz) :: lz)
section
variable {prog : Program} {w : World} {A : Around} {E : Value → Shared → Prop} {s : Shared} {env : Env} {pos : Pos}
theorem pairsAre_const {ks : List (Option Expr)} {vs : List Expr} {l : List (Int × Str)} (h : ConstPairs ks vs l) : PairsAre prog w (pairTrees ks vs env pos) l ∧ ks.all (·.isSome) = true ∧ ks.length = vs.length := by
  induction h with
  | nil => exact ⟨trivial, rfl, rfl⟩
  | cons _ ih => exact ⟨⟨pair_const, ih.1⟩, ih.2.1, congrArg (· + 1) ih.2.2⟩
theorem PairsAre.take : ∀ (n : Nat) {ps : List (Sem Value × Sem Value)} {l : List (Int × Str)}, PairsAre prog w ps l → PairsAre prog w (ps.take n) (l.take n)
  | 0, _, _, _ => trivial
  | _ + 1, [], [], _ => trivial
  | n + 1, _ :: _, _ :: _, h => ⟨h.1, PairsAre.take n h.2⟩
  | _ + 1, [], _ :: _, h => h.elim
  | _ + 1, _ :: _, [], h => h.elim
theorem PairsAre.drop : ∀ (n : Nat) {ps : List (Sem Value × Sem Value)} {l : List (Int × Str)}, PairsAre prog w ps l → PairsAre prog w (ps.drop n) (l.drop n)
  | 0, _, _, h => h
  | _ + 1, [], [], _ => trivial
  | n + 1, _ :: _, _ :: _, h => PairsAre.drop n h.2
  | _ + 1, [], _ :: _, h => h.elim
  | _ + 1, _ :: _, [], h => h.elim
theorem dict_display {keys : List (Option Expr)} {values : List Expr} {l : List (Int × Str)} {h₀ : Heap} {L : Addr} {m : Str → Option Value} {news : List (Addr × Obj)} {Q : Value → Shared → Prop} (F : Fr h₀ L s.heap m) (N : News h₀ L s.heap news) (hbig : h₀.NoLimit)
    {l' : List (Int × Str)} (hc : ConstPairs keys values l') (hl : l' = l) (hn : (l.map (·.1)).Nodup) (hlen : l.length = 36 ∨ (l.length ≤ 15 ∧ l ≠ []))
    (h : ∀ d h' tk o kvs, Fr h₀ L h' m → News h₀ L h' ((d, o) :: news) → (∀ q ∈ news, q.1 < d) → (d == sysModules) = false → o.IsDictOf (intKind prog w) kvs → SV kvs l → Q (.ref d) { s with heap := h', toks := tk }) :
    wpAny (model prog w) A (eval (.Dict keys values pos) env) Q E s := by
  obtain ⟨hp, hall, hkl⟩ := pairsAre_const (prog := prog) (w := w) (env := env) (pos := pos) hc
  rw [hl] at hp
  have hlow : sysModules < s.heap.objs.size := by
    have h1 := modules_low hbig
    exact Nat.lt_trans (Nat.lt_of_lt_of_le h1 F.above) F.ns.lt
  have hd : (s.heap.objs.size == sysModules) = false := by
    simp only [beq_eq_false_iff_ne, ne_eq]
    exact fun e => Nat.lt_irrefl _ (by rw [e] at hlow; exact hlow)
  have fin : ∀ h' tk kvs, h'.DictOf (intKind prog w) s.heap.objs.size kvs → SV kvs l → (∀ b o, s.heap.get? b = some o → h'.get? b = some o) → Q (.ref s.heap.objs.size) { s with heap := h', toks := tk } := by
    intro h' tk kvs hD hS hK
    obtain ⟨o, ho, hd'⟩ := Heap.dictOf_iff.mp hD
    exact h _ h' tk o kvs (F.keeps hK) (news_pushed F N hK ho rfl) (fun q hq => Heap.lt_size (N q hq).1) hd hd' hS
  rw [arm_eval_Dict, zip_pairTrees keys values env pos hall hkl]
  refine wpAny_bind (wpAny_standAt ?_)
  rcases hlen with h36 | ⟨h15, hne⟩
  · have e : pairTrees keys values env pos = (pairTrees keys values env pos).take 17 ++ ((pairTrees keys values env pos).drop 17).take 17 ++ (pairTrees keys values env pos).drop 34 := by
      have e1 := List.take_append_drop 17 (pairTrees keys values env pos)
      have e2 := List.take_append_drop 17 ((pairTrees keys values env pos).drop 17)
      rw [List.drop_drop] at e2
      rw [List.append_assoc, e2, e1]
    have e' : l = l.take 17 ++ (l.drop 17).take 17 ++ l.drop 34 := by
      have e1 := List.take_append_drop 17 l
      have e2 := List.take_append_drop 17 (l.drop 17)
      rw [List.drop_drop] at e2
      rw [List.append_assoc, e2, e1]
    rw [e]
    refine display36 (PairsAre.take 17 hp) (PairsAre.take 17 (PairsAre.drop 17 hp)) (PairsAre.drop 34 hp) (by rw [List.length_take, h36]; rfl) (by rw [List.length_take, List.length_drop, h36]; rfl) (by rw [List.length_drop, h36]) (by rw [← e']; exact hn) hlow ?_
    rw [← e']
    exact fin
  · have hpl := hp.length
    rw [dictDisplay_pairs _ (by intro e; rw [e] at hpl; exact hne (List.length_eq_zero_iff.mp hpl.symm)) (by (first | lia | omega))]
    exact wpAny_bind (subDict_is hp hn (Nat.le_trans h15 (by decide)) fun h' tk kvs hD hS hK => wpAny_pure (fin h' tk kvs hD hS hK))
theorem stop_wp {α : Type} {M : Model} {A : Around} {t : Sem α} {Q : α → Shared → Prop} {E : Value → Shared → Prop} {s : Shared} (h : Stop (wpAny M A t Q E s)) : wpAny M A t Q E s := h
theorem privL_nodup : (privL.map (·.1)).Nodup := by decide +kernel
theorem plainL_nodup : (plainL.map (·.1)).Nodup := by decide +kernel
theorem privL_length : privL.length = 36 := by decide +kernel
theorem plainL_length : plainL.length = 4 := by decide +kernel
end
end
section
section
variable {prog : Program} {w : World} {A : Around} {E : Value → Shared → Prop} {s : Shared} {h₀ : Heap} {L : Addr} {m : Str → Option Value} {news : List (Addr × Obj)} {Q : Value → Shared → Prop}
theorem strsAre_of {K : Type} : ∀ {vs : List Value} {kvs : List (Str × Value)}, vs.length = kvs.length → (∀ (j : Nat) (v : Value), vs[j]? = some v → ∃ k x, kvs[j]? = some (k, x) ∧ (PySem.strKind prog w).is k v = true) → StrsAre vs (kvs.map (·.1))
  | [], [], _, _ => .nil
  | v :: vs, (k, x) :: kvs, hl, h => by
    obtain ⟨k', x', e, hk⟩ := h 0 v rfl
    simp only [List.getElem?_cons_zero, Option.some.injEq, Prod.mk.injEq] at e
    obtain ⟨rfl, rfl⟩ := e
    have hv : ∃ t, v = .str k t := by
      cases v <;> simp [PySem.strKind, Value.isStrOf] at hk
      subst hk; exact ⟨_, rfl⟩
    obtain ⟨t, rfl⟩ := hv
    exact .cons k t (strsAre_of (K := K) (by simpa using hl) fun j v hj => h (j + 1) v hj)
  | [], _ :: _, h, _ => by simp at h
  | _ :: _, [], h, _ => by simp at h
theorem intsAre_of {K : Type} : ∀ {vs : List Value} {kvs : List (Int × Value)}, vs.length = kvs.length → (∀ (j : Nat) (v : Value), vs[j]? = some v → ∃ k x, kvs[j]? = some (k, x) ∧ (PySem.intKind prog w).is k v = true) → IntsAre vs (kvs.map (·.1))
  | [], [], _, _ => .nil
  | v :: vs, (k, x) :: kvs, hl, h => by
    obtain ⟨k', x', e, hk⟩ := h 0 v rfl
    simp only [List.getElem?_cons_zero, Option.some.injEq, Prod.mk.injEq] at e
    obtain ⟨rfl, rfl⟩ := e
    have hv : ∃ t, v = .int k t := by
      cases v <;> simp [PySem.intKind, Value.isInt] at hk
      subst hk; exact ⟨_, rfl⟩
    obtain ⟨t, rfl⟩ := hv
    exact .cons k t (intsAre_of (K := K) (by simpa using hl) fun j v hj => h (j + 1) v hj)
  | [], _ :: _, h, _ => by simp at h
  | _ :: _, [], h, _ => by simp at h

theorem sorted_at {D : Addr} {vs : List Value} {n : Nat} {out : Array Value} (F : Fr h₀ L s.heap m) (N : News h₀ L s.heap ((D, seqObj "list" vs.toArray n) :: news)) (hlt : ∀ q ∈ news, q.1 < D) :
    ∃ e, Fr h₀ L (sortedHeap s.heap D vs out) m ∧ News h₀ L (sortedHeap s.heap D vs out) ((D, seqObj "list" out e) :: news) := by
  have hD := N (D, seqObj "list" vs.toArray n) (.head _)
  obtain ⟨e, he⟩ := sortedHeap_at (out := out) hD.1
  have old : ∀ b o, b ≠ D → s.heap.get? b = some o → (sortedHeap s.heap D vs out).get? b = some o := fun b o hb hg => (sortedHeap_old hb (Heap.lt_size hg)).trans hg
  obtain ⟨oL, a1, a2, hL, a3⟩ := F.ns
  refine ⟨e, ⟨⟨oL, a1, a2, old _ _ (Ne.symm hD.2.1) hL, a3⟩, fun b o hb => old b o (fun q => ?_) (F.keep b o hb), F.above⟩, fun p hp => ?_⟩
  · have := hD.2.2
    rw [← q, hb] at this; cases this
  · rcases List.mem_cons.mp hp with rfl | hp
    · exact ⟨he, hD.2⟩
    · have := N p (.tail _ hp)
      exact ⟨old _ _ (Nat.ne_of_lt (hlt p hp)) this.1, this.2⟩

theorem sorted_dict_str {d : Addr} {o : Obj} {kvs : List (Str × Value)} (hh : A.handled = none) (F : Fr h₀ L s.heap m) (N : News h₀ L s.heap news) (hp : (d, o) ∈ news) (hd : o.IsDictOf (PySem.strKind prog w) kvs) (lo : (d == sysModules) = false) (h64 : kvs.length < 64)
    (h : ∀ D vs ss h' tk n, Fr h₀ L h' m → News h₀ L h' ((D, seqObj "list" vs.toArray n) :: news) → (∀ q ∈ news, q.1 < D) → StrsAre vs ss → ss.Perm (kvs.map (·.1)) → sortedS ss = true → Q (.ref D) { s with heap := h', toks := tk }) :
    wpAny (model prog w) A (call (.builtin "sorted") [.ref d]) Q E s := by
  have hD := kda_dict N hp hd
  obtain ⟨ep, hat⟩ := hD.dictAt
  refine kdu_sorted (kdl_dict (knd := PySem.strKind prog w) (kvs := kvs) (ep := ep) lo) hh F N hat (by rw [sizeLine_eq]; (first | lia | omega)) fun D h' tk vs F' N' l1 hl hv => ?_
  have hS := strsAre_of (K := Str) hl hv
  have z := N' (D, listOf vs.toArray 0) (.head _)
  refine wpAny_call_entry PyProof.Rows.slot_list_sort ⟨_, z.1, rfl⟩ PyProof.Rows.entry_list_sort (list_sort_treeK strKind_oneLt (n := 0) (vs := vs) z.1 hS.keysOf (fun v₁ v₂ rest e => keyKind_strs (by rw [← e]; exact hS)) (by (first | lia | omega)) fun st' hp hs => ⟨.none, rfl, ?_⟩) (PyProof.Rows.args_list_sort _)
  obtain ⟨ss', h1, h2, h3⟩ := sorted_out_str hS hp hs
  obtain ⟨e, F2, N2⟩ := sorted_at (s := { s with heap := h', toks := tk }) (out := (arrOf st').map (·.2)) F' N' l1
  refine h D ((arrOf st').map (·.2)).toList ss' _ tk e F2 ?_ l1 h1 h2 h3
  rw [Array.toArray_toList]; exact N2

theorem sorted_dict_int {d : Addr} {o : Obj} {kvs : List (Int × Value)} (hh : A.handled = none) (F : Fr h₀ L s.heap m) (N : News h₀ L s.heap news) (hp : (d, o) ∈ news) (hd : o.IsDictOf (PySem.intKind prog w) kvs) (lo : (d == sysModules) = false) (h64 : kvs.length < 64)
    (h : ∀ D vs ns h' tk n, Fr h₀ L h' m → News h₀ L h' ((D, seqObj "list" vs.toArray n) :: news) → (∀ q ∈ news, q.1 < D) → IntsAre vs ns → ns.Perm (kvs.map (·.1)) → ns.Pairwise (· ≤ ·) → Q (.ref D) { s with heap := h', toks := tk }) :
    wpAny (model prog w) A (call (.builtin "sorted") [.ref d]) Q E s := by
  have hD := kda_dict N hp hd
  obtain ⟨ep, hat⟩ := hD.dictAt
  refine kdu_sorted (kdl_dict (knd := PySem.intKind prog w) (kvs := kvs) (ep := ep) lo) hh F N hat (by rw [sizeLine_eq]; (first | lia | omega)) fun D h' tk vs F' N' l1 hl hv => ?_
  have hS := intsAre_of (K := Int) hl hv
  have z := N' (D, listOf vs.toArray 0) (.head _)
  refine wpAny_call_entry PyProof.Rows.slot_list_sort ⟨_, z.1, rfl⟩ PyProof.Rows.entry_list_sort (list_sort_tree (n := 0) (vs := vs) z.1 hS (by (first | lia | omega)) fun out ns' h1 h2 h3 => ⟨.none, rfl, ?_⟩) (PyProof.Rows.args_list_sort _)
  obtain ⟨e, F2, N2⟩ := sorted_at (s := { s with heap := h', toks := tk }) (out := out) F' N' l1
  refine h D out.toList ns' _ tk e F2 ?_ l1 h1 h2 h3
  rw [Array.toArray_toList]; exact N2
end

theorem sortedS_pairwise : ∀ {l : List Str}, sortedS l = true → l.Pairwise (fun a b => a.cps.toList ≤ b.cps.toList) := by
  have rise : ∀ (l : List Str) (p : Str), risingS p l = true → (∀ x ∈ l, p.cps.toList ≤ x.cps.toList) ∧ l.Pairwise (fun a b => a.cps.toList ≤ b.cps.toList) := by
    intro l
    induction l with
    | nil => intro p _; exact ⟨fun _ h => (nomatch h), List.Pairwise.nil⟩
    | cons x r ih =>
      intro p h
      simp only [risingS, Bool.and_eq_true, Bool.not_eq_true'] at h
      obtain ⟨h1, h2⟩ := h
      rw [ltCps_eq] at h1
      have hpx : p.cps.toList ≤ x.cps.toList := List.not_lt.mp (of_decide_eq_false h1)
      obtain ⟨a, b⟩ := ih x h2
      refine ⟨fun y hy => ?_, .cons a b⟩
      rcases List.mem_cons.mp hy with rfl | hy
      · exact hpx
      · exact List.le_trans hpx (a y hy)
  intro l h
  cases l with
  | nil => exact .nil
  | cons x r => exact .cons (rise r x h).1 (rise r x h).2
theorem str_ext {a b : Str} (h : a.cps.toList = b.cps.toList) : a = b := by
  cases a; cases b; simp only [Str.mk.injEq] at h ⊢; exact Array.toList_inj.mp h
theorem pairwise_unique {a b : List Str} (p : a.Perm b) (ha : a.Pairwise (fun a b => a.cps.toList ≤ b.cps.toList)) (hb : b.Pairwise (fun a b => a.cps.toList ≤ b.cps.toList)) : a = b := by
  induction a generalizing b with
  | nil => exact p.nil_eq
  | cons x r ih =>
    cases b with
    | nil => exact absurd p.length_eq (by simp)
    | cons y t =>
      have e : x = y := by
        rcases List.mem_cons.mp (p.mem_iff.mp (List.mem_cons_self (a := x))) with h | h
        · exact h
        · rcases List.mem_cons.mp (p.mem_iff.mpr (List.mem_cons_self (a := y))) with h' | h'
          · exact h'.symm
          · exact str_ext (List.le_antisymm ((List.pairwise_cons.mp ha).1 y h') ((List.pairwise_cons.mp hb).1 x h))
      subst e
      rw [ih (List.Perm.cons_inv p) (List.pairwise_cons.mp ha).2 (List.pairwise_cons.mp hb).2]
theorem sorted_unique {a b : List Str} (p : a.Perm b) (ha : sortedS a = true) (hb : sortedS b = true) : a = b := pairwise_unique p (sortedS_pairwise ha) (sortedS_pairwise hb)
theorem sortedS_of_le {l : List Str} (h : l.Pairwise (fun a b => a.cps.toList ≤ b.cps.toList)) : sortedS l = true :=
  sortedS_of_pairwise l (h.imp fun {a b} hab => by rw [ltCps_eq]; exact decide_eq_false (List.not_lt.mpr hab))
theorem sortedS_filter {l : List Str} (f : Str → Bool) (h : sortedS l = true) : sortedS (l.filter f) = true :=
  sortedS_of_le ((sortedS_pairwise h).sublist List.filter_sublist)
theorem strsAre_app {vs us : List Value} {ss ts : List Str} (h : StrsAre vs ss) (h2 : StrsAre us ts) : StrsAre (vs ++ us) (ss ++ ts) := by
  induction h with
  | nil => exact h2
  | cons x t _ ih => exact .cons x t ih
theorem filter_take_succ {l : List Str} {i : Nat} {x : Str} (f : Str → Bool) (h : l[i]? = some x) : (l.take (i + 1)).filter f = (l.take i).filter f ++ if f x then [x] else [] := by
  rw [List.take_add_one, h, List.filter_append]
  simp only [Option.toList_some]
  by_cases hx : f x = true
  · rw [if_pos hx, List.filter_cons_of_pos hx]; rfl
  · rw [if_neg hx, List.filter_cons_of_neg hx]; rfl
end
section
def CompAt (P : Prop) : Prop := P
section
open LCg LCt
variable {prog : Program} {w : World} {A : Around} {E : Value → Shared → Prop} {s : Shared} {h₀ : Heap} {L : Addr} {m : Str → Option Value} {env : Env}
theorem comp_imp {s₁ s₂ : Shared} {I C D : Addr} {oI oC oD : Obj} {S : List (Addr × Obj) → Prop} {r r' : Value → List (Addr × Obj) → Prop} {y y' : Value} (h : ∀ nw, r y nw → r' y' nw) (hq : CompEnd h₀ L m s₁ I oI C oC D oD S r y s₂) : CompEnd h₀ L m s₁ I oI C oC D oD S r' y' s₂ :=
  Exists.imp (fun _ => Exists.imp fun _ => Exists.imp fun nw => And.imp_right (And.imp_right (And.imp_right (And.imp_right (And.imp_right (h nw)))))) hq
theorem restT_inv {ct elt : Expr} {x : Str} {scope : Scope} {cl : List (Str × Addr)} {S : List (Addr × Obj) → Prop} {P : Nat → Value → Prop} {Fin : List Value → List (Addr × Obj) → Prop} {n : Nat} (J : Nat → List Value → List (Addr × Obj) → Prop)
    (turn : ∀ i ys news v I oI C oC D m₂ h tk (E' : Value → Shared → Prop), i < n → J i ys news → P i v → NsObj oC m₂ → m₂ x = some v → Fr h₀ L h m → News h₀ L h ((I, oI) :: (C, oC) :: (D, lst ys) :: news) → Off3 I C D news → ((@Ne Nat I C) ∧ (@Ne Nat I D) ∧ (@Ne Nat C D)) →
      wpAny (model prog w) A (isTrue ct (compEnvC scope cl C env) (eval ct (compEnvC scope cl C env))) (fun ok s' => if ok = true then
        wpAny (model prog w) A (eval elt (compEnvC scope cl C env)) (CompEnd h₀ L m { s with heap := h, toks := tk } I oI C oC D (lst ys) S (fun y news' => J (i + 1) (ys ++ [y]) news')) E' s'
        else CompEnd h₀ L m { s with heap := h, toks := tk } I oI C oC D (lst ys) S (fun _ news' => J (i + 1) ys news') Value.none s') E' { s with heap := h, toks := tk })
    (fin : ∀ ys news, J n ys news → Fin ys news) : ∀ (j i : Nat) (ys : List Value) (news : List (Addr × Obj)), i + j = n → J i ys news → CompRestT prog w A h₀ L m env ct elt x scope cl s S P Fin j i ys news := by
  intro j
  induction j with
  | zero =>
    intro i ys news hi hJ
    have e : i = n := by (first | lia | omega)
    subst e
    exact CompRestT.zero (fin ys news hJ)
  | succ j ih =>
    intro i ys news hi hJ
    refine CompRestT.succ fun v I oI C oC D m₂ h tk E' hv hC hx F N off ne => wpAny_mono (turn i ys news v I oI C oC D m₂ h tk E' (by (first | lia | omega)) hJ hv hC hx F N off ne) (fun b s₂ hq => ?_) fun _ _ e => e
    have ih2 := fun ys news h => ih (i + 1) ys news (by (first | lia | omega)) h
    cases b with
    | true => exact wpAny_mono (show wpAny (model prog w) A (eval elt (compEnvC scope cl C env)) _ E' s₂ from hq) (fun y s₃ hr => comp_imp (fun nw hr' => ih2 _ _ hr') hr) fun _ _ e => e
    | false => exact comp_imp (r := fun _ nw => J (i + 1) ys nw) (r' := fun _ nw => CompRestT prog w A h₀ L m env ct elt x scope cl s S P Fin j (i + 1) ys nw) (y := Value.none) (y' := Value.none) (fun nw hr' => ih2 ys nw hr') hq

theorem rest_inv {elt : Expr} {x : Str} {scope : Scope} {cl : List (Str × Addr)} {S : List (Addr × Obj) → Prop} {P : Nat → Value → Prop} {Fin : List Value → List (Addr × Obj) → Prop} {n : Nat} (J : Nat → List Value → List (Addr × Obj) → Prop)
    (turn : ∀ i ys news v I oI C oC D m₂ h tk (E' : Value → Shared → Prop), i < n → J i ys news → P i v → NsObj oC m₂ → m₂ x = some v → Fr h₀ L h m → News h₀ L h ((I, oI) :: (C, oC) :: (D, lst ys) :: news) → Off3 I C D news → ((@Ne Nat I C) ∧ (@Ne Nat I D) ∧ (@Ne Nat C D)) →
      wpAny (model prog w) A (eval elt (compEnvC scope cl C env)) (CompEnd h₀ L m { s with heap := h, toks := tk } I oI C oC D (lst ys) S (fun y news' => J (i + 1) (ys ++ [y]) news')) E' { s with heap := h, toks := tk })
    (fin : ∀ ys news, J n ys news → Fin ys news) : ∀ (j i : Nat) (ys : List Value) (news : List (Addr × Obj)), i + j = n → J i ys news → CompRest prog w A h₀ L m env elt x scope cl s S P Fin j i ys news := by
  intro j
  induction j with
  | zero =>
    intro i ys news hi hJ
    have e : i = n := by (first | lia | omega)
    subst e
    exact CompRest.zero (fin ys news hJ)
  | succ j ih =>
    intro i ys news hi hJ
    refine CompRest.succ fun v I oI C oC D m₂ h tk E' hv hC hx F N off ne => wpAny_mono (turn i ys news v I oI C oC D m₂ h tk E' (by (first | lia | omega)) hJ hv hC hx F N off ne) (fun y s₃ hr => comp_imp (fun nw hr' => ih (i + 1) _ _ (by (first | lia | omega)) hr') hr) fun _ _ e => e
end
def Then (M : Model) (A : Around) (env : Env) (rest : List Stmt) (Q : Flow → Shared → Prop) (E : Value → Shared → Prop) (f : Flow) (s' : Shared) : Prop := match f with | .next => wpAny M A (execs rest env) Q E s' | f => Q f s'
section
variable {M : Model} {A : Around} {E : Value → Shared → Prop} {s : Shared} {env : Env} {Q : Flow → Shared → Prop} {st : Stmt} {rest : List Stmt} {v : Value}
theorem exec_hid (h : wpAny M A (exec st env) (Then M A env rest Q E) E s) : wpAny M A (execs (st :: rest) env) Q E s :=
  wpAny_execs_cons (wpAny_mono h (fun f s' h => h) fun _ _ e => e)
theorem Then.next (h : wpAny M A (execs rest env) Q E s) : Then M A env rest Q E .next s := h
theorem Then.ret (h : Q (.ret v) s) : Then M A env rest Q E (.ret v) s := h
end
theorem hide_turn {M : Model} {A : Around} {t : Sem Flow} {E : Value → Shared → Prop} {s : Shared} {h₀ : Heap} {L I : Addr} {own : List (Addr × Obj)} {J : (Str → Option Value) → List (Addr × Obj) → Prop} {s₁ : Shared} {Q : Flow → Shared → Prop} (h : ∀ Q1, HidV Q1 (TurnEnd h₀ L I own J s₁ Q) → wpAny M A t Q1 E s) : wpAny M A t (TurnEnd h₀ L I own J s₁ Q) E s := hide_post h
theorem TurnEnd.toRet {h₀ : Heap} {L I : Addr} {own : List (Addr × Obj)} {J : (Str → Option Value) → List (Addr × Obj) → Prop} {s₁ s₂ : Shared} {Q : Flow → Shared → Prop} {v : Value} (h : Q (.ret v) s₂) : TurnEnd h₀ L I own J s₁ Q (.ret v) s₂ := h
def Joined (R : Shared → Prop) (Q : Flow → Shared → Prop) (f : Flow) (s' : Shared) : Prop := match f with | .next => R s' | f => Q f s'
theorem Joined.next {R : Shared → Prop} {Q : Flow → Shared → Prop} {s : Shared} (h : R s) : Joined R Q .next s := h
theorem Joined.ret {R : Shared → Prop} {Q : Flow → Shared → Prop} {s : Shared} {v : Value} (h : Q (.ret v) s) : Joined R Q (.ret v) s := h
theorem exec_join {M : Model} {A : Around} {E : Value → Shared → Prop} {s : Shared} {env : Env} {Q : Flow → Shared → Prop} {st : Stmt} {rest : List Stmt} (R : Shared → Prop)
    (h1 : ∀ Q1, HidV Q1 (Joined R Q) → wpAny M A (exec st env) Q1 E s) (h2 : ∀ s', R s' → wpAny M A (execs rest env) Q E s') : wpAny M A (execs (st :: rest) env) Q E s := by
  rw [execs_cons]
  refine wpAny_bind (wpAny_mono (h1 _ ⟨fun _ _ h => h⟩) (fun f s' h => ?_) fun _ _ e => e)
  cases f with
  | next => exact h2 s' h
  | ret v => exact wpAny_pure h
  | brk => exact wpAny_pure h
  | cont => exact wpAny_pure h
theorem hide1 {M : Model} {A : Around} {E : Value → Shared → Prop} {s : Shared} {env : Env} {Q : Flow → Shared → Prop} {a : Stmt} {tl : List Stmt} (h : ∀ R : List Stmt, R = tl → wpAny M A (execs (a :: R) env) Q E s) : wpAny M A (execs (a :: tl) env) Q E s := h tl rfl
theorem fr_key {h₀ h : Heap} {L : Addr} {x k : Str} {v vk : Value} {m : Str → Option Value} (F : Fr h₀ L h (fun y => if y = x then some v else m y)) (hk : m k = some vk) (_ : x ≠ k) : Fr h₀ L h (fun y => if y = x then some v else if y = k then some vk else m y) := by
  have q : (fun y => if y = x then some v else m y) = fun y => if y = x then some v else if y = k then some vk else m y := by
    funext y
    by_cases h : y = x
    · rw [if_pos h, if_pos h]
    · rw [if_neg h, if_neg h]
      by_cases h2 : y = k
      · rw [if_pos h2, h2, hk]
      · rw [if_neg h2]
  exact q ▸ F
theorem fr_key0 {h₀ h : Heap} {L : Addr} {k : Str} {vk : Value} {m : Str → Option Value} (F : Fr h₀ L h m) (hk : m k = some vk) : Fr h₀ L h (fun y => if y = k then some vk else m y) := by
  have q : m = fun y => if y = k then some vk else m y := by
    funext y
    by_cases h2 : y = k
    · rw [if_pos h2, h2, hk]
    · rw [if_neg h2]
  exact q ▸ F
section
variable {M : Model} {A : Around} {E : Value → Shared → Prop} {s : Shared} {Q : Value → Shared → Prop} {a b : Addr} {vs : List Value} {kw : List (Str × Value)} {x y z : Str} {t : Tok} {i : Int} {pl : Sem Bool} {e1 e2 e3 : Expr} {gs} {sc : Scope} {p1 p2 : Pos} {env : Env} {c : Const} {n} {o : Operator} {as ks us} {o1 o2 o3 : Option Expr}
theorem sp1 (h : Stop (wpAny M A (call (.ref a) vs kw) Q E s)) : wpAny M A (call (.ref a) vs kw) Q E s := h
theorem sp2 (h : Stop (wpAny M A (call (.builtin "sorted") vs kw) Q E s)) : wpAny M A (call (.builtin "sorted") vs kw) Q E s := h
theorem sp3 (h : Stop (wpAny M A (call (.builtin "dict.get") vs kw) Q E s)) : wpAny M A (call (.builtin "dict.get") vs kw) Q E s := h
theorem sp4 (h : Stop (wpAny M A (call (.builtin "dict.values") vs kw) Q E s)) : wpAny M A (call (.builtin "dict.values") vs kw) Q E s := h
theorem sp5 (h : Stop (wpAny M A (call (.builtin "list.pop") vs kw) Q E s)) : wpAny M A (call (.builtin "list.pop") vs kw) Q E s := h
theorem sp6 (h : Stop (wpAny M A (call (.builtin "list.append") vs kw) Q E s)) : wpAny M A (call (.builtin "list.append") vs kw) Q E s := h
theorem sp7 (h : Stop (wpAny M A (call (.builtin "len") vs kw) Q E s)) : wpAny M A (call (.builtin "len") vs kw) Q E s := h
theorem sp8 (h : Stop (wpAny M A (call (.type "dict") vs kw) Q E s)) : wpAny M A (call (.type "dict") vs kw) Q E s := h
theorem sp9 (h : Stop (wpAny M A (call (.type "list") vs kw) Q E s)) : wpAny M A (call (.type "list") vs kw) Q E s := h
theorem sp10 (h : Stop (wpAny M A (call (.type "tuple") vs kw) Q E s)) : wpAny M A (call (.type "tuple") vs kw) Q E s := h
theorem sp11 (h : Stop (wpAny M A (compareOp .NotEq (.ref a) (.ref b)) Q E s)) : wpAny M A (compareOp .NotEq (.ref a) (.ref b)) Q E s := h
theorem sp12 (h : Stop (wpAny M A (compareOp .In (.str x t) (.ref b)) Q E s)) : wpAny M A (compareOp .In (.str x t) (.ref b)) Q E s := h
theorem sp13 (h : Stop (wpAny M A (compareOp .In (.int i t) (.ref b)) Q E s)) : wpAny M A (compareOp .In (.int i t) (.ref b)) Q E s := h
theorem sp14 (h : Stop (wpAny M A (binaryOp .Add (.ref a) (.ref b)) Q E s)) : wpAny M A (binaryOp .Add (.ref a) (.ref b)) Q E s := h
theorem sp15 {Q : Value × List Value → Shared → Prop} (h : Stop (wpAny M A (getMethod (.ref a) (Str.ofString "get") pl) Q E s)) : wpAny M A (getMethod (.ref a) (Str.ofString "get") pl) Q E s := h
theorem sp16 {Q : Value × List Value → Shared → Prop} (h : Stop (wpAny M A (getMethod (.ref a) (Str.ofString "values") pl) Q E s)) : wpAny M A (getMethod (.ref a) (Str.ofString "values") pl) Q E s := h
theorem sp17 (h : Stop (wpAny M A (eval (.ListComp e1 gs sc p1) env) Q E s)) : wpAny M A (eval (.ListComp e1 gs sc p1) env) Q E s := h
theorem sp18 (h : Stop (wpAny M A (subscriptTail (.Name x p1) (.Name y p2) (.ref a) (.int i t)) Q E s)) : wpAny M A (subscriptTail (.Name x p1) (.Name y p2) (.ref a) (.int i t)) Q E s := h
theorem sp19 (h : Stop (wpAny M A (subscriptTail (.Name x p1) (.Name y p2) (.ref a) (.str z t)) Q E s)) : wpAny M A (subscriptTail (.Name x p1) (.Name y p2) (.ref a) (.str z t)) Q E s := h
theorem sp22 (h : Stop (wpAny M A (subscriptTail (.Name x p1) (.Constant c n p2) (.ref a) (.str z t)) Q E s)) : wpAny M A (subscriptTail (.Name x p1) (.Constant c n p2) (.ref a) (.str z t)) Q E s := h
theorem sp23 (h : Stop (wpAny M A (subscriptTail (.BinOp e1 o e2 p1) (.Constant c n p2) (.ref a) (.int i t)) Q E s)) : wpAny M A (subscriptTail (.BinOp e1 o e2 p1) (.Constant c n p2) (.ref a) (.int i t)) Q E s := h
theorem sp24 (h : Stop (wpAny M A (subscriptTail (.Call e1 as ks p1) (.BinOp e2 o e3 p2) (.ref a) (.int i t)) Q E s)) : wpAny M A (subscriptTail (.Call e1 as ks p1) (.BinOp e2 o e3 p2) (.ref a) (.int i t)) Q E s := h
theorem sp26 (h : Stop (wpAny M A (eval (.Dict ks us p1) env) Q E s)) : wpAny M A (eval (.Dict ks us p1) env) Q E s := h
theorem sp25 (h : Stop (wpAny M A (subscriptTail (.Name x p1) (.Slice o1 o2 o3 p2) (.ref a) (.ref b)) Q E s)) : wpAny M A (subscriptTail (.Name x p1) (.Slice o1 o2 o3 p2) (.ref a) (.ref b)) Q E s := h
end
end
section
section
open LCg LCt
variable {prog : Program} {w : World} {A : Around} {E : Value → Shared → Prop} {s : Shared} {h₀ : Heap} {L : Addr} {m : Str → Option Value} {env : Env}

def SrcW (prog : Program) (w : World) (A : Around) (E : Value → Shared → Prop) (h₀ : Heap) (L : Addr) (m : Str → Option Value) (R : Shared → (List (Addr × Obj) → Prop) → (Nat → Value → Prop) → Nat → List (Addr × Obj) → Prop) (xv : Value) (s₁ : Shared) : Prop :=
  wpAny (model prog w) A (pyIter xv) (fun it s₂ => ∀ C : Prop, (∀ (I : Addr) (fp : List Addr) (n : Nat) (P : Nat → Value → Prop) (St : Nat → Heap → Prop) (S : List (Addr × Obj) → Prop) (news : List (Addr × Obj)), it = .ref I → Walks prog w A I fp [I] n P St → n ≤ sizeLine → (∀ i h, St i h → ∃ o, h.get? I = some o) →
    (∀ i h h' o nw, St i h → h.get? I = some o → h'.get? I = some o → (∀ b o, h₀.get? b = some o → h'.get? b = some o) → News h₀ L h' nw → S nw → St i h') → St 0 s₂.heap → (∀ b ∈ fp, b < s₂.heap.objs.size) →
    Fr h₀ L s₂.heap m → News h₀ L s₂.heap news → L ≠ I → h₀.get? I = none → (∀ p ∈ news, p.1 ≠ I) → S news → R s₂ S P n news → C) → C) E s₁
def CompT (prog : Program) (w : World) (A : Around) (E : Value → Shared → Prop) (h₀ : Heap) (L : Addr) (m : Str → Option Value) (env : Env) (ct elt : Expr) (x : Str) (scope : Scope) (cl : List (Str × Addr)) (Fin : Shared → List Value → List (Addr × Obj) → Prop) (xv : Value) (s₁ : Shared) : Prop :=
  SrcW prog w A E h₀ L m (fun s₂ S P n news => CompRestT prog w A h₀ L m env ct elt x scope cl s₂ S P (Fin s₂) n 0 [] news) xv s₁
def CompU (prog : Program) (w : World) (A : Around) (E : Value → Shared → Prop) (h₀ : Heap) (L : Addr) (m : Str → Option Value) (env : Env) (elt : Expr) (x : Str) (scope : Scope) (cl : List (Str × Addr)) (Fin : Shared → List Value → List (Addr × Obj) → Prop) (xv : Value) (s₁ : Shared) : Prop :=
  SrcW prog w A E h₀ L m (fun s₂ S P n news => CompRest prog w A h₀ L m env elt x scope cl s₂ S P (Fin s₂) n 0 [] news) xv s₁

theorem end_leave {s₂ : Shared} {Q : Value → Shared → Prop} {D C : Addr} {h : Heap} {tk : Nat} {ys : List Value} {news' : List (Addr × Obj)} (F' : Fr h₀ L h m) (N' : News h₀ L h ((D, lst ys) :: news')) (o1 : Off1 D news') (hC₀ : h₀.get? C = none) (hCL : C ≠ L) (hCD : C ≠ D) (offC : ∀ p ∈ news', p.1 ≠ C) (fin : FinE h₀ L m s₂ Q ys news') :
    ∀ h'' : Heap, Heap.SameBut C h h'' → Q (.ref D) { s₂ with heap := h'', toks := tk } := fun h'' hs'' => by
  refine fin D h'' tk (F'.change hs'' hCL hC₀) (fun p hp => ⟨hs''.extBut _ _ ?_ (N' p hp).1, (N' p hp).2⟩) o1
  rcases List.mem_cons.mp hp with rfl | hp
  · exact Ne.symm hCD
  · exact offC p hp

theorem comp_TW {ct elt iter : Expr} {x : Str} {px : Pos} {scope : Scope} {cl : List (Str × Addr)} {pos : Pos} {Q : Value → Shared → Prop} (_F₀ : Fr h₀ L s.heap m)
    (hclos : closureFor scope env = pure cl) (hcell : ∀ y ∈ scope.names, y.2 ≠ .cell) (hkind : scope.kind = .function)
    (hnames : ∀ y ∈ scope.names, y.2 = .local → scope.names.lookup y.1 = some .local) (hx : scope.names.lookup x = some .local)
    (h : wpAny (model prog w) A (eval iter env) (fun xv s₁ => CompAt (CompT prog w A E h₀ L m env ct elt x scope cl (fun s₂ => FinE h₀ L m s₂ Q) xv s₁)) E s)
    (hs : ∀ x, foldedSetIterable iter env x = pure x) :
    wpAny (model prog w) A (eval (.ListComp elt [⟨.Name x px, iter, [ct], 0⟩] scope pos) env) Q E s := by
  rw [eval_ListComp]
  refine wpAny_comprehension_free (use := none) rfl hs hclos hkind hnames (wpAny_mono h (fun xv s₁ h₁ => ?_) fun _ _ e => e)
  refine wpAny_mono h₁ (fun it s₂ h₂ => h₂ _ fun I fp n P St S news e W hsz hIo hSt hst hfp F N hIL hI₀ off hS R => ?_) fun _ _ e => e
  subst e
  exact block_T W hsz hIo hSt hcell hkind hx hst hfp F N hIL hI₀ off hS R fun D C h tk m' ys news' F' N' o1 hn hC₀ hD₀ hCL hDL hCD offC fin => ⟨m', hn, end_leave F' N' o1 hC₀ hCL hCD offC fin⟩
theorem comp_UW {elt iter : Expr} {x : Str} {px : Pos} {scope : Scope} {cl : List (Str × Addr)} {pos : Pos} {Q : Value → Shared → Prop} (_F₀ : Fr h₀ L s.heap m)
    (hclos : closureFor scope env = pure cl) (hcell : ∀ y ∈ scope.names, y.2 ≠ .cell) (hkind : scope.kind = .function)
    (hnames : ∀ y ∈ scope.names, y.2 = .local → scope.names.lookup y.1 = some .local) (hx : scope.names.lookup x = some .local)
    (h : wpAny (model prog w) A (eval iter env) (fun xv s₁ => CompAt (CompU prog w A E h₀ L m env elt x scope cl (fun s₂ => FinE h₀ L m s₂ Q) xv s₁)) E s)
    (hs : ∀ x, foldedSetIterable iter env x = pure x) :
    wpAny (model prog w) A (eval (.ListComp elt [⟨.Name x px, iter, [], 0⟩] scope pos) env) Q E s := by
  rw [eval_ListComp]
  refine wpAny_comprehension_free (use := none) rfl hs hclos hkind hnames (wpAny_mono h (fun xv s₁ h₁ => ?_) fun _ _ e => e)
  refine wpAny_mono h₁ (fun it s₂ h₂ => h₂ _ fun I fp n P St S news e W hsz hIo hSt hst hfp F N hIL hI₀ off hS R => ?_) fun _ _ e => e
  subst e
  exact block_U W hsz hIo hSt hcell hkind hx hst hfp F N hIL hI₀ off hS R fun D C h tk m' ys news' F' N' o1 hn hC₀ hD₀ hCL hDL hCD offC fin => ⟨m', hn, end_leave F' N' o1 hC₀ hCL hCD offC fin⟩

theorem src_list {R : Shared → (List (Addr × Obj) → Prop) → (Nat → Value → Prop) → Nat → List (Addr × Obj) → Prop} {ax : Addr} {its : Array Value} {news : List (Addr × Obj)} {s₁ : Shared}
    (hh : A.handled = none) (F : Fr h₀ L s₁.heap m) (N : News h₀ L s₁.heap news) (S : SrcAt h₀ ax its news) (hsz : its.size ≤ sizeLine)
    (r : ∀ g, R { s₁ with heap := g } (SrcAt h₀ ax its) (fun i v => its[i]? = some v) its.size news) : SrcW prog w A E h₀ L m R (.ref ax) s₁ := by
  have hl := S.list F.keep N
  have hlt : ax < s₁.heap.objs.size := by obtain ⟨_, e, _⟩ := hl; exact Heap.lt_size e
  refine wpAny_pyIter_list hl ?_
  have up : ∀ b o, s₁.heap.get? b = some o → (s₁.heap.push { cls := .type "list_iterator", data := .fields #[.ref ax, .int 0 0] }).get? b = some o := fun b o e => Heap.get?_push_of_some _ e
  refine fun C k => k _ _ _ _ _ (SrcAt h₀ ax its) news rfl (Walks.list hh s₁.heap.objs.size ax (Nat.ne_of_lt hlt) its) hsz (fun i h st => st.1.imp fun _ e => e.1) list_st ⟨⟨_, Heap.get?_push_size _ rfl, rfl, rfl⟩, hl.push _⟩ (fun b hb => ?_)
    (F.keeps up) (N.grown up) (Nat.ne_of_lt F.ns.lt) (next_is_new F) (fun p hp => Nat.ne_of_lt (Heap.lt_size (N p hp).1)) S (r _)
  show b < (s₁.heap.push _).objs.size
  rw [Heap.size_push]
  rcases List.mem_cons.mp hb with rfl | hb
  · exact Nat.lt_succ_self _
  · rw [List.mem_singleton.mp hb]; exact Nat.lt_succ_of_lt hlt
theorem src_dict {K : Type} [DecidableEq K] {knd : KeyKind prog w K} {R : Shared → (List (Addr × Obj) → Prop) → (Nat → Value → Prop) → Nat → List (Addr × Obj) → Prop} {d : Addr} {o : Obj} {kvs : List (K × Value)} {news : List (Addr × Obj)} {s₁ : Shared}
    (hh : A.handled = none) (F : Fr h₀ L s₁.heap m) (N : News h₀ L s₁.heap news) (hp : (d, o) ∈ news) (hd : o.IsDictOf knd kvs) (lo : (d == sysModules) = false) (hsz : kvs.length ≤ sizeLine)
    (r : ∀ g, R { s₁ with heap := g } (fun nw => (d, o) ∈ nw) (fun i v => ∃ k x, kvs[i]? = some (k, x) ∧ knd.is k v = true) kvs.length news) : SrcW prog w A E h₀ L m R (.ref d) s₁ := by
  obtain ⟨ep, hat⟩ := (kda_dict N hp hd).dictAt
  have hlt : d < s₁.heap.objs.size := Heap.lt_size (N _ hp).1
  have hne : d ≠ s₁.heap.objs.size := Nat.ne_of_lt hlt
  refine wpAny_pyIter_dict lo hat ?_
  have up : ∀ b o, s₁.heap.get? b = some o → (s₁.heap.push { cls := .type "dict_keyiterator", data := .fields #[.ref d, .int 0 0, .int kvs.length 0, .int ep 0] }).get? b = some o := fun b o e => Heap.get?_push_of_some _ e
  have ho := (N _ hp).1
  refine fun C k => k _ _ _ _ _ (fun nw => (d, o) ∈ nw) news rfl (Walks.dictKeys (knd := knd) hh s₁.heap.objs.size d hne kvs ep) hsz (fun i h st => st.1.imp fun _ e => e.1) ?_ ⟨⟨_, Heap.get?_push_size _ rfl, rfl, rfl⟩, hat.at' fun o e => up _ _ e⟩ (fun b hb => ?_)
    (F.keeps up) (N.grown up) (Nat.ne_of_lt F.ns.lt) (next_is_new F) (fun p hp => Nat.ne_of_lt (Heap.lt_size (N p hp).1)) hp (r _)
  · intro i h h' oI nw st e e' k2 N' S
    refine ⟨by obtain ⟨o', q, r⟩ := st.1; rw [e] at q; cases q; exact ⟨oI, e', r⟩, hat.at' fun o1 e1 => ?_⟩
    rw [ho] at e1
    cases e1
    exact (N' _ S).1
  · show b < (s₁.heap.push _).objs.size
    rw [Heap.size_push]
    rcases List.mem_cons.mp hb with rfl | hb
    · exact Nat.lt_succ_self _
    · rw [List.mem_singleton.mp hb]; exact Nat.lt_succ_of_lt hlt
end
end
theorem filled (w : World) (h : Heap) : (hd.heap_39 w.params).In h → PySem.Challenge.rw_og0231_01.prog = PySem.Challenge.rw_og0231_01.prog → True := by
  k_fill
  intro _ _
  trivial
section
local macro_rules | `(tactic| k_mem) => `(tactic| first | assumption | (refine List.mem_cons_of_mem _ ?_; k_mem) | (refine List.mem_append_right _ ?_; k_mem))
local macro_rules | `(tactic| k_all) => `(tactic| first | assumption | exact off_lt (by assumption))
section
section
variable {w : World} {p : Program} {loose : List Str} {mean : ExcName → Option Value} {mg mb : Str → Option Value}

noncomputable abbrev mdDict (w : World) (t1 t2 : Tok) (n : Nat) (dS dK : Addr) : Obj :=
  dictOf [⟨PySem.PyData.keyHash w.params (Str.ofString "states"), .str (Str.ofString "states") t1, .ref dS⟩, ⟨PySem.PyData.keyHash w.params (Str.ofString "kept"), .str (Str.ofString "kept") t2, .ref dK⟩] n

theorem c_isOn {x dx dS dK : Addr} {t1 t2 t : Tok} {n : Nat} {oS : Obj} {S : List (Str × Bool)} {word : Str} :
    Con w p loose mean mg mb 67 1 [.ref x, .str word t]
     (fun news G => (x, instObj 77 dx) ∈ news → (dx, mdDict w t1 t2 n dS dK) ∈ news → (dS, oS) ∈ news → oS.IsDictOf (strKind PG w) (vals S) → (dS == sysModules) = false → G) (fun news P => P (.bool (onB S word)) news) := by
  unfold Con
  intro A env outer A₀ base h₀ L m news hp0 G0 Dr0 tk0 O0 Q E hA hf hke B F X N T hd hu hx hdx hdS hS hlo hret
  refine wpAny_call ?_
  k_dflt (refine' code_defG (binds := [(Str.ofString "self", .ref x), (Str.ofString "word", .str word t)]) ?k1 ?k2 ?k3 ?k4 ?k5 ?kA ?kF ?kK ?k6 ?k7 ?kd ?ku ?k9 ?kB ?_ ?c2 ?c3 ?c4 ?c5; (case kA => assumption); (case kF => assumption); (case kK => assumption); (case k1 => k_asm); (case k2 => k_asm); (case k3 => k_asm); (case k4 => k_asm); (case k5 => k_asm); (case k6 => k_is); (case k7 => k_is); (case kd => assumption); (case ku => assumption); (case k9 => exact BindsTo.of_eq rfl); (case c5 => decide); (case kB => exact locs rfl); (case c2 => exact rfl); (case c3 => exact rfl); (case c4 => exact rfl); k_whole; intro A1 g' L' h' tk' Q1 E1 hA1 hd1 hu1 FG' F' N' B' X' T' H1 P1; (try dsimp only))
  (repeat' (first | (k_unfold; (try dsimp only)) | ((first | (with_reducible refine Then.next ?_) | (with_reducible refine Then.ret ?_) | (with_reducible refine Joined.next ?_) | (with_reducible refine Joined.ret ?_) | (with_reducible refine HidV.get (by with_reducible assumption) _ _ ?_) | (with_reducible refine Hdn.get (by with_reducible assumption) ?_) | (with_reducible refine TurnEnd.toRet ?_)); (try dsimp only)) | (k_end; wrow_close) | ((with_reducible refine hide_turn ?_); intro Q1 H1) | (with_reducible refine exec_hid ?_) | (with_reducible (first | refine sp1 ?_ | refine sp2 ?_ | refine sp3 ?_ | refine sp4 ?_ | refine sp5 ?_ | refine sp6 ?_ | refine sp7 ?_ | refine sp8 ?_ | refine sp9 ?_ | refine sp10 ?_ | refine sp11 ?_ | refine sp12 ?_ | refine sp13 ?_ | refine sp14 ?_ | refine sp15 ?_ | refine sp16 ?_ | refine sp17 ?_ | refine sp18 ?_ | refine sp19 ?_ | refine sp22 ?_ | refine sp23 ?_ | refine sp24 ?_)) | ((with_reducible show wpAny _ _ (exec (Stmt.For (Expr.Name _ _) _ _ [] _) _) _ _ _); (with_unfolding_all refine' for_at ?F ?k1 ?k2 ?_ ?k3 ?k4; (case F => k_asm); (case k1 => exact rfl); (case k2 => exact rfl); (case k3 => intro _; rfl); (case k4 => assumption); k_whole)) | walk1 | (dsimp only; walk1) | (leave1; walk_say "STEP leave1"; try dsimp only) | fail "no step"))
  refine Stop.go ?_
  refine kdg_method (knd := PySem.strKind _ _) (by k_asm) hdS hS ?_
  (try dsimp only)
  (repeat' (first | (k_unfold; (try dsimp only)) | ((first | (with_reducible refine Then.next ?_) | (with_reducible refine Then.ret ?_) | (with_reducible refine Joined.next ?_) | (with_reducible refine Joined.ret ?_) | (with_reducible refine HidV.get (by with_reducible assumption) _ _ ?_) | (with_reducible refine Hdn.get (by with_reducible assumption) ?_) | (with_reducible refine TurnEnd.toRet ?_)); (try dsimp only)) | (k_end; wrow_close) | ((with_reducible refine hide_turn ?_); intro Q1 H1) | (with_reducible refine exec_hid ?_) | (with_reducible (first | refine sp1 ?_ | refine sp2 ?_ | refine sp3 ?_ | refine sp4 ?_ | refine sp5 ?_ | refine sp6 ?_ | refine sp7 ?_ | refine sp8 ?_ | refine sp9 ?_ | refine sp10 ?_ | refine sp11 ?_ | refine sp12 ?_ | refine sp13 ?_ | refine sp14 ?_ | refine sp15 ?_ | refine sp16 ?_ | refine sp17 ?_ | refine sp18 ?_ | refine sp19 ?_ | refine sp22 ?_ | refine sp23 ?_ | refine sp24 ?_)) | ((with_reducible show wpAny _ _ (exec (Stmt.For (Expr.Name _ _) _ _ [] _) _) _ _ _); (with_unfolding_all refine' for_at ?F ?k1 ?k2 ?_ ?k3 ?k4; (case F => k_asm); (case k1 => exact rfl); (case k2 => exact rfl); (case k3 => intro _; rfl); (case k4 => assumption); k_whole)) | walk1 | (dsimp only; walk1) | (leave1; walk_say "STEP leave1"; try dsimp only) | fail "no step"))
  refine Stop.go ?_
  refine kdg_get2 (knd := PySem.strKind _ _) (by k_asm) hdS hS hlo (strKind_is _ _ _ _) _ rfl ?_
  (try dsimp only)
  (repeat' (first | (k_unfold; (try dsimp only)) | ((first | (with_reducible refine Then.next ?_) | (with_reducible refine Then.ret ?_) | (with_reducible refine Joined.next ?_) | (with_reducible refine Joined.ret ?_) | (with_reducible refine HidV.get (by with_reducible assumption) _ _ ?_) | (with_reducible refine Hdn.get (by with_reducible assumption) ?_) | (with_reducible refine TurnEnd.toRet ?_)); (try dsimp only)) | (k_end; wrow_close) | ((with_reducible refine hide_turn ?_); intro Q1 H1) | (with_reducible refine exec_hid ?_) | (with_reducible (first | refine sp1 ?_ | refine sp2 ?_ | refine sp3 ?_ | refine sp4 ?_ | refine sp5 ?_ | refine sp6 ?_ | refine sp7 ?_ | refine sp8 ?_ | refine sp9 ?_ | refine sp10 ?_ | refine sp11 ?_ | refine sp12 ?_ | refine sp13 ?_ | refine sp14 ?_ | refine sp15 ?_ | refine sp16 ?_ | refine sp17 ?_ | refine sp18 ?_ | refine sp19 ?_ | refine sp22 ?_ | refine sp23 ?_ | refine sp24 ?_)) | ((with_reducible show wpAny _ _ (exec (Stmt.For (Expr.Name _ _) _ _ [] _) _) _ _ _); (with_unfolding_all refine' for_at ?F ?k1 ?k2 ?_ ?k3 ?k4; (case F => k_asm); (case k1 => exact rfl); (case k2 => exact rfl); (case k3 => intro _; rfl); (case k4 => assumption); k_whole)) | walk1 | (dsimp only; walk1) | (leave1; walk_say "STEP leave1"; try dsimp only) | fail "no step"))
  rw [valueAt_vals_getD]
  exact hret _ _ (by k_asm) (by k_asm)

theorem mm_tup {h : Heap} (X : (hd.heap_39 w.params).In h) : ∃ items, IsTup h 15 items ∧ StrsAre items.toList MM :=
  ⟨_, ⟨_, X 15 _ rfl, rfl, _, rfl⟩, .cons _ _ (.cons _ _ (.cons _ _ (.cons _ _ .nil)))⟩
theorem me_tup {h : Heap} (X : (hd.heap_39 w.params).In h) : ∃ items, IsTup h 16 items ∧ StrsAre items.toList ME :=
  ⟨_, ⟨_, X 16 _ rfl, rfl, _, rfl⟩, .cons _ _ (.cons _ _ (.cons _ _ (.cons _ _ .nil)))⟩
end
section
variable {prog : Program} {w : World} {A : Around} {E : Value → Shared → Prop} {s : Shared} {h₀ : Heap} {L : Addr} {m : Str → Option Value} {x : Str} {u : Tok} {Q : Value → Shared → Prop}
theorem in_mm (F : Fr h₀ L s.heap m) (X : (hd.heap_39 w.params).In h₀) (h : Q (.bool (MM.any (· == x))) s) : wpAny (model prog w) A (compareOp .In (.str x u) (.ref 15)) Q E s :=
  let ⟨_, ht, hi⟩ := mm_tup (X.keeps F.keep)
  in_tuple_strs ht hi h
theorem in_me (F : Fr h₀ L s.heap m) (X : (hd.heap_39 w.params).In h₀) (h : Q (.bool (ME.any (· == x))) s) : wpAny (model prog w) A (compareOp .In (.str x u) (.ref 16)) Q E s :=
  let ⟨_, ht, hi⟩ := me_tup (X.keeps F.keep)
  in_tuple_strs ht hi h
end
end
section
section
variable {w : World} {p : Program} {loose : List Str} {mean : ExcName → Option Value} {mg mb : Str → Option Value}
noncomputable abbrev tupO (items : List Value) (n : Nat) : Obj := { cls := .type "tuple", data := .seq items.toArray n }
theorem c_group {t : Tok} {word : Str} :
    Con w p loose mean mg mb 46 1 [.str word t] (fun _ G => G)
      (fun news P => ∀ g nw, (((g = 15 ∧ groupOf word = MM ∧ nw = news) ∨ (g = 16 ∧ groupOf word = ME ∧ nw = news) ∨ (groupOf word = [] ∧ nw = (g, tupO [] 0) :: news ∧ ∀ q ∈ news, q.1 < g))) → P (.ref g) nw) := by
  unfold Con
  intro A env outer A₀ base h₀ L m news hp0 G0 Dr0 tk0 O0 Q E hA hf hke B F X N T hd hu hret
  refine wpAny_call ?_
  k_dflt (refine' code_defG (binds := [(Str.ofString "word", .str word t)]) ?k1 ?k2 ?k3 ?k4 ?k5 ?kA ?kF ?kK ?k6 ?k7 ?kd ?ku ?k9 ?kB ?_ ?c2 ?c3 ?c4 ?c5; (case kA => assumption); (case kF => assumption); (case kK => assumption); (case k1 => k_asm); (case k2 => k_asm); (case k3 => k_asm); (case k4 => k_asm); (case k5 => k_asm); (case k6 => k_is); (case k7 => k_is); (case kd => assumption); (case ku => assumption); (case k9 => exact BindsTo.of_eq rfl); (case c5 => decide); (case kB => exact locs rfl); (case c2 => exact rfl); (case c3 => exact rfl); (case c4 => exact rfl); k_whole; intro A1 g' L' h' tk' Q1 E1 hA1 hd1 hu1 FG' F' N' B' X' T' H1 P1; (try dsimp only))
  (repeat' (first | (k_unfold; (try dsimp only)) | ((first | (with_reducible refine Then.next ?_) | (with_reducible refine Then.ret ?_) | (with_reducible refine Joined.next ?_) | (with_reducible refine Joined.ret ?_) | (with_reducible refine HidV.get (by with_reducible assumption) _ _ ?_) | (with_reducible refine Hdn.get (by with_reducible assumption) ?_) | (with_reducible refine TurnEnd.toRet ?_)); (try dsimp only)) | (k_end; wrow_close) | ((with_reducible refine hide_turn ?_); intro Q1 H1) | (with_reducible refine exec_hid ?_) | (with_reducible (first | refine sp1 ?_ | refine sp2 ?_ | refine sp3 ?_ | refine sp4 ?_ | refine sp5 ?_ | refine sp6 ?_ | refine sp7 ?_ | refine sp8 ?_ | refine sp9 ?_ | refine sp10 ?_ | refine sp11 ?_ | refine sp12 ?_ | refine sp13 ?_ | refine sp14 ?_ | refine sp15 ?_ | refine sp16 ?_ | refine sp17 ?_ | refine sp18 ?_ | refine sp19 ?_ | refine sp22 ?_ | refine sp23 ?_ | refine sp24 ?_)) | ((with_reducible show wpAny _ _ (exec (Stmt.For (Expr.Name _ _) _ _ [] _) _) _ _ _); (with_unfolding_all refine' for_at ?F ?k1 ?k2 ?_ ?k3 ?k4; (case F => k_asm); (case k1 => exact rfl); (case k2 => exact rfl); (case k3 => intro _; rfl); (case k4 => assumption); k_whole)) | walk1 | (dsimp only; walk1) | (leave1; walk_say "STEP leave1"; try dsimp only) | fail "no step"))
  refine Stop.go ?_
  refine in_mm (by k_asm) (by k_asm) ?_
  (repeat' (first | (k_unfold; (try dsimp only)) | ((first | (with_reducible refine Then.next ?_) | (with_reducible refine Then.ret ?_) | (with_reducible refine Joined.next ?_) | (with_reducible refine Joined.ret ?_) | (with_reducible refine HidV.get (by with_reducible assumption) _ _ ?_) | (with_reducible refine Hdn.get (by with_reducible assumption) ?_) | (with_reducible refine TurnEnd.toRet ?_)); (try dsimp only)) | (k_end; wrow_close) | ((with_reducible refine hide_turn ?_); intro Q1 H1) | (with_reducible refine exec_hid ?_) | (with_reducible (first | refine sp1 ?_ | refine sp2 ?_ | refine sp3 ?_ | refine sp4 ?_ | refine sp5 ?_ | refine sp6 ?_ | refine sp7 ?_ | refine sp8 ?_ | refine sp9 ?_ | refine sp10 ?_ | refine sp11 ?_ | refine sp12 ?_ | refine sp13 ?_ | refine sp14 ?_ | refine sp15 ?_ | refine sp16 ?_ | refine sp17 ?_ | refine sp18 ?_ | refine sp19 ?_ | refine sp22 ?_ | refine sp23 ?_ | refine sp24 ?_)) | ((with_reducible show wpAny _ _ (exec (Stmt.For (Expr.Name _ _) _ _ [] _) _) _ _ _); (with_unfolding_all refine' for_at ?F ?k1 ?k2 ?_ ?k3 ?k4; (case F => k_asm); (case k1 => exact rfl); (case k2 => exact rfl); (case k3 => intro _; rfl); (case k4 => assumption); k_whole)) | walk1 | (dsimp only; walk1) | (leave1; walk_say "STEP leave1"; try dsimp only) | fail "no step"))
  rotate_left
  · refine Stop.go ?_
    refine in_me (by k_asm) (by k_asm) ?_
    (repeat' (first | (k_unfold; (try dsimp only)) | ((first | (with_reducible refine Then.next ?_) | (with_reducible refine Then.ret ?_) | (with_reducible refine Joined.next ?_) | (with_reducible refine Joined.ret ?_) | (with_reducible refine HidV.get (by with_reducible assumption) _ _ ?_) | (with_reducible refine Hdn.get (by with_reducible assumption) ?_) | (with_reducible refine TurnEnd.toRet ?_)); (try dsimp only)) | (k_end; wrow_close) | ((with_reducible refine hide_turn ?_); intro Q1 H1) | (with_reducible refine exec_hid ?_) | (with_reducible (first | refine sp1 ?_ | refine sp2 ?_ | refine sp3 ?_ | refine sp4 ?_ | refine sp5 ?_ | refine sp6 ?_ | refine sp7 ?_ | refine sp8 ?_ | refine sp9 ?_ | refine sp10 ?_ | refine sp11 ?_ | refine sp12 ?_ | refine sp13 ?_ | refine sp14 ?_ | refine sp15 ?_ | refine sp16 ?_ | refine sp17 ?_ | refine sp18 ?_ | refine sp19 ?_ | refine sp22 ?_ | refine sp23 ?_ | refine sp24 ?_)) | ((with_reducible show wpAny _ _ (exec (Stmt.For (Expr.Name _ _) _ _ [] _) _) _ _ _); (with_unfolding_all refine' for_at ?F ?k1 ?k2 ?_ ?k3 ?k4; (case F => k_asm); (case k1 => exact rfl); (case k2 => exact rfl); (case k3 => intro _; rfl); (case k4 => assumption); k_whole)) | walk1 | (dsimp only; walk1) | (leave1; walk_say "STEP leave1"; try dsimp only) | fail "no step"))
    · exact hret _ _ (.inr (.inl ⟨rfl, by unfold groupOf; rw [if_neg (by simp only [*]; decide), if_pos (by assumption)], rfl⟩)) _ _ (by k_asm) (by k_asm)
    · exact hret _ _ (.inr (.inr ⟨by unfold groupOf; rw [if_neg (by simp only [*]; decide), if_neg (by simp only [*]; decide)], rfl, by assumption⟩)) _ _ (by k_asm) (by k_asm)
  · exact hret _ _ (.inl ⟨rfl, by unfold groupOf; rw [if_pos (by assumption)], rfl⟩) _ _ (by k_asm) (by k_asm)

theorem group_tup {h₀ h : Heap} {L g : Addr} {news : List (Addr × Obj)} {m : Str → Option Value} {word : Str} {nw : List (Addr × Obj)} (F : Fr h₀ L h m) (X : (hd.heap_39 w.params).In h₀) (N : News h₀ L h nw)
    (hg : (g = 15 ∧ groupOf word = MM ∧ nw = news) ∨ (g = 16 ∧ groupOf word = ME ∧ nw = news) ∨ (groupOf word = [] ∧ nw = (g, tupO [] 0) :: news ∧ ∀ q ∈ news, q.1 < g)) :
    News h₀ L h news ∧ g ≠ L ∧ ∃ items : List Value, h.IsTuple g items.toArray ∧ StrsAre items (groupOf word) ∧ (items = [] ∨ ∀ q ∈ news, q.1 ≠ g) := by
  have hl15 : ∃ o, h₀.get? 15 = some o := ⟨_, X 15 _ rfl⟩
  have hl16 : ∃ o, h₀.get? 16 = some o := ⟨_, X 16 _ rfl⟩
  rcases hg with ⟨rfl, e, rfl⟩ | ⟨rfl, e, rfl⟩ | ⟨e, rfl, hlt⟩
  · obtain ⟨o, ho⟩ := hl15
    obtain ⟨items, ⟨o', ho', hc, n, hd⟩, hi⟩ := mm_tup (X.keeps F.keep)
    refine ⟨N, fun q => ?_, items.toList, ⟨o', ho', hc, n, by simpa using hd⟩, e ▸ hi, .inr fun q hq e' => ?_⟩
    · have := Nat.lt_of_lt_of_le (Heap.lt_size ho) F.above
      rw [q] at this; exact absurd this (Nat.lt_irrefl _)
    · have := (N q hq).2.2
      rw [e', ho] at this; cases this
  · obtain ⟨o, ho⟩ := hl16
    obtain ⟨items, ⟨o', ho', hc, n, hd⟩, hi⟩ := me_tup (X.keeps F.keep)
    refine ⟨N, fun q => ?_, items.toList, ⟨o', ho', hc, n, by simpa using hd⟩, e ▸ hi, .inr fun q hq e' => ?_⟩
    · have := Nat.lt_of_lt_of_le (Heap.lt_size ho) F.above
      rw [q] at this; exact absurd this (Nat.lt_irrefl _)
    · have := (N q hq).2.2
      rw [e', ho] at this; cases this
  · have hN := N (g, tupO [] 0) (.head _)
    exact ⟨fun q hq => N q (.tail _ hq), hN.2.1, [], ⟨_, hN.1, rfl, _, rfl⟩, e ▸ .nil, .inl rfl⟩
end
end
section
section
variable {w : World} {p : Program} {loose : List Str} {mean : ExcName → Option Value} {mg mb : Str → Option Value}
theorem c_set {x dx dS dK : Addr} {t1 t2 t : Tok} {n : Nat} {oS : Obj} {S : List (Str × Bool)} {word : Str} {b : Bool} :
    Con w p loose mean mg mb 74 2 [.ref x, .str word t, .bool b]
     (fun news G => (x, instObj 77 dx) ∈ news → (dx, mdDict w t1 t2 n dS dK) ∈ news → (dS, oS) ∈ news → oS.IsDictOf (strKind PG w) (vals S) → S.length ≤ 1000 → dx ≠ dS → x ≠ dS → G)
     (fun news P => ∀ oS', oS'.IsDictOf (strKind PG w) (vals (setB S word b)) → P .none (updL news dS oS')) := by
  unfold Con
  intro A env outer A₀ base h₀ L m news hp0 G0 Dr0 tk0 O0 Q E hA hf hke B F X N T hd hu hx hdx hdS hS hlen ne1 ne2 hret
  refine wpAny_call ?_
  k_dflt (refine' code_defG (binds := [(Str.ofString "self", .ref x), (Str.ofString "word", .str word t), (Str.ofString "is_on", .bool b)]) ?k1 ?k2 ?k3 ?k4 ?k5 ?kA ?kF ?kK ?k6 ?k7 ?kd ?ku ?k9 ?kB ?_ ?c2 ?c3 ?c4 ?c5; (case kA => assumption); (case kF => assumption); (case kK => assumption); (case k1 => k_asm); (case k2 => k_asm); (case k3 => k_asm); (case k4 => k_asm); (case k5 => k_asm); (case k6 => k_is); (case k7 => k_is); (case kd => assumption); (case ku => assumption); (case k9 => exact BindsTo.of_eq rfl); (case c5 => decide); (case kB => exact locs rfl); (case c2 => exact rfl); (case c3 => exact rfl); (case c4 => exact rfl); k_whole; intro A1 g' L' h' tk' Q1 E1 hA1 hd1 hu1 FG' F' N' B' X' T' H1 P1; (try dsimp only))
  (repeat' (first | (k_unfold; (try dsimp only)) | ((first | (with_reducible refine Then.next ?_) | (with_reducible refine Then.ret ?_) | (with_reducible refine Joined.next ?_) | (with_reducible refine Joined.ret ?_) | (with_reducible refine HidV.get (by with_reducible assumption) _ _ ?_) | (with_reducible refine Hdn.get (by with_reducible assumption) ?_) | (with_reducible refine TurnEnd.toRet ?_)); (try dsimp only)) | (k_end; wrow_close) | ((with_reducible refine hide_turn ?_); intro Q1 H1) | (with_reducible refine exec_hid ?_) | (with_reducible (first | refine sp1 ?_ | refine sp2 ?_ | refine sp3 ?_ | refine sp4 ?_ | refine sp5 ?_ | refine sp6 ?_ | refine sp7 ?_ | refine sp8 ?_ | refine sp9 ?_ | refine sp10 ?_ | refine sp11 ?_ | refine sp12 ?_ | refine sp13 ?_ | refine sp14 ?_ | refine sp15 ?_ | refine sp16 ?_ | refine sp17 ?_ | refine sp18 ?_ | refine sp19 ?_ | refine sp22 ?_ | refine sp23 ?_ | refine sp24 ?_)) | ((with_reducible show wpAny _ _ (exec (Stmt.For (Expr.Name _ _) _ _ [] _) _) _ _ _); (with_unfolding_all refine' for_at ?F ?k1 ?k2 ?_ ?k3 ?k4; (case F => k_asm); (case k1 => exact rfl); (case k2 => exact rfl); (case k3 => intro _; rfl); (case k4 => assumption); k_whole)) | walk1 | (dsimp only; walk1) | (leave1; walk_say "STEP leave1"; try dsimp only) | fail "no step"))
  · refine Stop.go ?_
    k_dflt (refine' (c_group) _ _ _ _ _ _ _ _ _ _ _ _ _ _ _ _ ?kA ?kF ?kK ?k1 ?k2 ?k3 ?k4 ?k5 ?kd ?ku  ?_; (case kA => assumption); (case kF => exact rfl); (case kK => exact rfl); (case k1 => k_asm); (case k2 => k_asm); (case k3 => k_asm); (case k4 => k_asm); (case k5 => k_asm);  (case kd => exact room (by assumption) (by decide)); (case ku => exact room (by assumption) (by decide)); intro g nw hg h2 tk2 F2 N2)
    obtain ⟨N3, hgL, items, hit, hia, hoff⟩ := group_tup F2 X' N2 hg
    clear hg N2
    (try ((first | (with_reducible refine Then.next ?_) | (with_reducible refine Then.ret ?_) | (with_reducible refine Joined.next ?_) | (with_reducible refine Joined.ret ?_) | (with_reducible refine HidV.get (by with_reducible assumption) _ _ ?_) | (with_reducible refine Hdn.get (by with_reducible assumption) ?_) | (with_reducible refine TurnEnd.toRet ?_)); (try dsimp only)))
    refine loop_tuple (fun i m₁ nw => (∀ y, y ≠ Str.ofString "other" → m₁ y = List.lookup y [(Str.ofString "self", Value.ref x), (Str.ofString "word", Value.str word t), (Str.ofString "is_on", Value.bool b)].reverse) ∧
        ∃ o, nw = updL news dS o ∧ o.IsDictOf (strKind PG w) (vals (((groupOf word).take i).foldl (fun S o => storeB S o false) S))) rfl hit hgL F2 N3 ⟨fun _ _ => rfl, oS, ?_, hS⟩ ?_ ?_
    · exact (updL_id N3 hdS).symm
    · intro I i v m₁ news₁ own h3 tk3 hv hlt hI hown hJ hnI F4 N4
      refine hide_goal (fun Hq => ?_)
      obtain ⟨sw, st, rfl, hs⟩ := strsAt_get hia hv
      obtain ⟨e1, o1, rfl, hd1⟩ := hJ
      have F5 := fr_in F4 e1
      have hgo : dS ≠ g := by
        rcases hoff with e | e
        · subst e; simp at hv
        · exact e _ hdS
      have hx' : (x, instObj 77 dx) ∈ own ++ updL news dS o1 := List.mem_append_right _ (updL_ne hx ne2)
      have hdx' : (dx, mdDict w t1 t2 n dS dK) ∈ own ++ updL news dS o1 := List.mem_append_right _ (updL_ne hdx ne1)
      have hS' : (dS, o1) ∈ own ++ updL news dS o1 := List.mem_append_right _ (updL_self hdS)
      clear F4
      (repeat' (first | (k_unfold; (try dsimp only)) | ((first | (with_reducible refine Then.next ?_) | (with_reducible refine Then.ret ?_) | (with_reducible refine Joined.next ?_) | (with_reducible refine Joined.ret ?_) | (with_reducible refine HidV.get (by with_reducible assumption) _ _ ?_) | (with_reducible refine Hdn.get (by with_reducible assumption) ?_) | (with_reducible refine TurnEnd.toRet ?_)); (try dsimp only)) | (k_end; wrow_close) | ((with_reducible refine hide_turn ?_); intro Q1 H1) | (with_reducible refine exec_hid ?_) | (with_reducible (first | refine sp1 ?_ | refine sp2 ?_ | refine sp3 ?_ | refine sp4 ?_ | refine sp5 ?_ | refine sp6 ?_ | refine sp7 ?_ | refine sp8 ?_ | refine sp9 ?_ | refine sp10 ?_ | refine sp11 ?_ | refine sp12 ?_ | refine sp13 ?_ | refine sp14 ?_ | refine sp15 ?_ | refine sp16 ?_ | refine sp17 ?_ | refine sp18 ?_ | refine sp19 ?_ | refine sp22 ?_ | refine sp23 ?_ | refine sp24 ?_)) | ((with_reducible show wpAny _ _ (exec (Stmt.For (Expr.Name _ _) _ _ [] _) _) _ _ _); (with_unfolding_all refine' for_at ?F ?k1 ?k2 ?_ ?k3 ?k4; (case F => k_asm); (case k1 => exact rfl); (case k2 => exact rfl); (case k3 => intro _; rfl); (case k4 => assumption); k_whole)) | walk1 | (dsimp only; walk1) | (leave1; walk_say "STEP leave1"; try dsimp only) | fail "no step"))
      refine dset (knd := strKind _ _) (by k_asm) (by k_asm) hS' hd1 (strKind_is _ _ _ _) ?_ (fun h6 o6 F6 N6 hd6 => ?_)
      · exact size_vals (Nat.le_trans (length_foldl_false _ S) (Nat.le_trans (Nat.add_le_add hlen (by rw [List.length_take]; exact Nat.le_trans (Nat.min_le_right _ _) (length_groupOf word))) (by decide)))
      (try dsimp only)
      (repeat' (first | (k_unfold; (try dsimp only)) | ((first | (with_reducible refine Then.next ?_) | (with_reducible refine Then.ret ?_) | (with_reducible refine Joined.next ?_) | (with_reducible refine Joined.ret ?_) | (with_reducible refine HidV.get (by with_reducible assumption) _ _ ?_) | (with_reducible refine Hdn.get (by with_reducible assumption) ?_) | (with_reducible refine TurnEnd.toRet ?_)); (try dsimp only)) | (k_end; wrow_close) | ((with_reducible refine hide_turn ?_); intro Q1 H1) | (with_reducible refine exec_hid ?_) | (with_reducible (first | refine sp1 ?_ | refine sp2 ?_ | refine sp3 ?_ | refine sp4 ?_ | refine sp5 ?_ | refine sp6 ?_ | refine sp7 ?_ | refine sp8 ?_ | refine sp9 ?_ | refine sp10 ?_ | refine sp11 ?_ | refine sp12 ?_ | refine sp13 ?_ | refine sp14 ?_ | refine sp15 ?_ | refine sp16 ?_ | refine sp17 ?_ | refine sp18 ?_ | refine sp19 ?_ | refine sp22 ?_ | refine sp23 ?_ | refine sp24 ?_)) | ((with_reducible show wpAny _ _ (exec (Stmt.For (Expr.Name _ _) _ _ [] _) _) _ _ _); (with_unfolding_all refine' for_at ?F ?k1 ?k2 ?_ ?k3 ?k4; (case F => k_asm); (case k1 => exact rfl); (case k2 => exact rfl); (case k3 => intro _; rfl); (case k4 => assumption); k_whole)) | walk1 | (dsimp only; walk1) | (leave1; walk_say "STEP leave1"; try dsimp only) | fail "no step"))
      rw [updL_own (own_off hdS hlt hown hgo)] at N6
      rw [stored_vals, ← fold_take_succ _ S hs] at hd6
      exact TurnEnd.intro F6 N6 (updL_neI hlt) ⟨fun y hy => if_neg hy, o6, rfl, hd6⟩
    · intro m₁ news₁ h3 tk3 hJ F4 N4
      refine hide_goal (fun Hq => ?_)
      obtain ⟨e1, o1, rfl, hd1⟩ := hJ
      have F5 := fr_out _ F4 e1
      rw [hia.length, List.take_length] at hd1
      have hx' : (x, instObj 77 dx) ∈ updL news dS o1 := updL_ne hx ne2
      have hdx' : (dx, mdDict w t1 t2 n dS dK) ∈ updL news dS o1 := updL_ne hdx ne1
      have hS' : (dS, o1) ∈ updL news dS o1 := updL_self hdS
      clear F4
      (try dsimp only)
      (repeat' (first | (k_unfold; (try dsimp only)) | ((first | (with_reducible refine Then.next ?_) | (with_reducible refine Then.ret ?_) | (with_reducible refine Joined.next ?_) | (with_reducible refine Joined.ret ?_) | (with_reducible refine HidV.get (by with_reducible assumption) _ _ ?_) | (with_reducible refine Hdn.get (by with_reducible assumption) ?_) | (with_reducible refine TurnEnd.toRet ?_)); (try dsimp only)) | (k_end; wrow_close) | ((with_reducible refine hide_turn ?_); intro Q1 H1) | (with_reducible refine exec_hid ?_) | (with_reducible (first | refine sp1 ?_ | refine sp2 ?_ | refine sp3 ?_ | refine sp4 ?_ | refine sp5 ?_ | refine sp6 ?_ | refine sp7 ?_ | refine sp8 ?_ | refine sp9 ?_ | refine sp10 ?_ | refine sp11 ?_ | refine sp12 ?_ | refine sp13 ?_ | refine sp14 ?_ | refine sp15 ?_ | refine sp16 ?_ | refine sp17 ?_ | refine sp18 ?_ | refine sp19 ?_ | refine sp22 ?_ | refine sp23 ?_ | refine sp24 ?_)) | ((with_reducible show wpAny _ _ (exec (Stmt.For (Expr.Name _ _) _ _ [] _) _) _ _ _); (with_unfolding_all refine' for_at ?F ?k1 ?k2 ?_ ?k3 ?k4; (case F => k_asm); (case k1 => exact rfl); (case k2 => exact rfl); (case k3 => intro _; rfl); (case k4 => assumption); k_whole)) | walk1 | (dsimp only; walk1) | (leave1; walk_say "STEP leave1"; try dsimp only) | fail "no step"))
      refine dset (knd := strKind _ _) (by k_asm) (by k_asm) hS' hd1 (strKind_is _ _ _ _) ?_ (fun h6 o6 F6 N6 hd6 => ?_)
      · exact size_vals (Nat.le_trans (length_foldl_false _ S) (Nat.le_trans (Nat.add_le_add hlen (length_groupOf word)) (by decide)))
      (try dsimp only)
      (repeat' (first | (k_unfold; (try dsimp only)) | ((first | (with_reducible refine Then.next ?_) | (with_reducible refine Then.ret ?_) | (with_reducible refine Joined.next ?_) | (with_reducible refine Joined.ret ?_) | (with_reducible refine HidV.get (by with_reducible assumption) _ _ ?_) | (with_reducible refine Hdn.get (by with_reducible assumption) ?_) | (with_reducible refine TurnEnd.toRet ?_)); (try dsimp only)) | (k_end; wrow_close) | ((with_reducible refine hide_turn ?_); intro Q1 H1) | (with_reducible refine exec_hid ?_) | (with_reducible (first | refine sp1 ?_ | refine sp2 ?_ | refine sp3 ?_ | refine sp4 ?_ | refine sp5 ?_ | refine sp6 ?_ | refine sp7 ?_ | refine sp8 ?_ | refine sp9 ?_ | refine sp10 ?_ | refine sp11 ?_ | refine sp12 ?_ | refine sp13 ?_ | refine sp14 ?_ | refine sp15 ?_ | refine sp16 ?_ | refine sp17 ?_ | refine sp18 ?_ | refine sp19 ?_ | refine sp22 ?_ | refine sp23 ?_ | refine sp24 ?_)) | ((with_reducible show wpAny _ _ (exec (Stmt.For (Expr.Name _ _) _ _ [] _) _) _ _ _); (with_unfolding_all refine' for_at ?F ?k1 ?k2 ?_ ?k3 ?k4; (case F => k_asm); (case k1 => exact rfl); (case k2 => exact rfl); (case k3 => intro _; rfl); (case k4 => assumption); k_whole)) | walk1 | (dsimp only; walk1) | (leave1; walk_say "STEP leave1"; try dsimp only) | fail "no step"))
      rename News h₀ L _ _ => N9
      rw [updL_updL] at N9
      refine hret o6 ?_ _ _ (by k_asm) N9
      rw [stored_vals] at hd6
      have hb : b = true := by assumption
      subst hb
      exact hd6
  · refine dset (knd := strKind _ _) (by k_asm) (by k_asm) hdS hS (strKind_is _ _ _ _) (size_vals (Nat.le_trans hlen (by decide))) (fun h6 o6 F6 N6 hd6 => ?_)
    (try dsimp only)
    (repeat' (first | (k_unfold; (try dsimp only)) | ((first | (with_reducible refine Then.next ?_) | (with_reducible refine Then.ret ?_) | (with_reducible refine Joined.next ?_) | (with_reducible refine Joined.ret ?_) | (with_reducible refine HidV.get (by with_reducible assumption) _ _ ?_) | (with_reducible refine Hdn.get (by with_reducible assumption) ?_) | (with_reducible refine TurnEnd.toRet ?_)); (try dsimp only)) | (k_end; wrow_close) | ((with_reducible refine hide_turn ?_); intro Q1 H1) | (with_reducible refine exec_hid ?_) | (with_reducible (first | refine sp1 ?_ | refine sp2 ?_ | refine sp3 ?_ | refine sp4 ?_ | refine sp5 ?_ | refine sp6 ?_ | refine sp7 ?_ | refine sp8 ?_ | refine sp9 ?_ | refine sp10 ?_ | refine sp11 ?_ | refine sp12 ?_ | refine sp13 ?_ | refine sp14 ?_ | refine sp15 ?_ | refine sp16 ?_ | refine sp17 ?_ | refine sp18 ?_ | refine sp19 ?_ | refine sp22 ?_ | refine sp23 ?_ | refine sp24 ?_)) | ((with_reducible show wpAny _ _ (exec (Stmt.For (Expr.Name _ _) _ _ [] _) _) _ _ _); (with_unfolding_all refine' for_at ?F ?k1 ?k2 ?_ ?k3 ?k4; (case F => k_asm); (case k1 => exact rfl); (case k2 => exact rfl); (case k3 => intro _; rfl); (case k4 => assumption); k_whole)) | walk1 | (dsimp only; walk1) | (leave1; walk_say "STEP leave1"; try dsimp only) | fail "no step"))
    refine hret o6 ?_ _ _ (by k_asm) (by k_asm)
    rw [stored_vals] at hd6
    have hb : b = false := by assumption
    subst hb
    exact hd6
end
end
section
section
variable {w : World} {p : Program} {loose : List Str} {mean : ExcName → Option Value} {mg mb : Str → Option Value}
theorem c_words {b : Bool} :
    Con w p loose mean mg mb 25 1 [.bool b] (fun _ G => G)
      (fun news P => ∀ d o kvs, (∀ q ∈ news, q.1 < d) → (d == sysModules) = false → o.IsDictOf (intKind PG w) kvs → SV kvs (if b then privL else plainL) → P (.ref d) ((d, o) :: news)) := by
  unfold Con
  intro A env outer A₀ base h₀ L m news hp0 G0 Dr0 tk0 O0 Q E hA hf hke B F X N T hd hu hret
  refine wpAny_call ?_
  k_dflt (refine' code_defG (binds := [(Str.ofString "is_private", .bool b)]) ?k1 ?k2 ?k3 ?k4 ?k5 ?kA ?kF ?kK ?k6 ?k7 ?kd ?ku ?k9 ?kB ?_ ?c2 ?c3 ?c4 ?c5; (case kA => assumption); (case kF => assumption); (case kK => assumption); (case k1 => k_asm); (case k2 => k_asm); (case k3 => k_asm); (case k4 => k_asm); (case k5 => k_asm); (case k6 => k_is); (case k7 => k_is); (case kd => assumption); (case ku => assumption); (case k9 => exact BindsTo.of_eq rfl); (case c5 => decide); (case kB => exact locs rfl); (case c2 => exact rfl); (case c3 => exact rfl); (case c4 => exact rfl); k_whole; intro A1 g' L' h' tk' Q1 E1 hA1 hd1 hu1 FG' F' N' B' X' T' H1 P1; (try dsimp only))
  (repeat' (first | (with_reducible refine sp26 ?_) | (k_unfold; (try dsimp only)) | ((first | (with_reducible refine Then.next ?_) | (with_reducible refine Then.ret ?_) | (with_reducible refine Joined.next ?_) | (with_reducible refine Joined.ret ?_) | (with_reducible refine HidV.get (by with_reducible assumption) _ _ ?_) | (with_reducible refine Hdn.get (by with_reducible assumption) ?_) | (with_reducible refine TurnEnd.toRet ?_)); (try dsimp only)) | (k_end; wrow_close) | ((with_reducible refine hide_turn ?_); intro Q1 H1) | (with_reducible refine exec_hid ?_) | (with_reducible (first | refine sp1 ?_ | refine sp2 ?_ | refine sp3 ?_ | refine sp4 ?_ | refine sp5 ?_ | refine sp6 ?_ | refine sp7 ?_ | refine sp8 ?_ | refine sp9 ?_ | refine sp10 ?_ | refine sp11 ?_ | refine sp12 ?_ | refine sp13 ?_ | refine sp14 ?_ | refine sp15 ?_ | refine sp16 ?_ | refine sp17 ?_ | refine sp18 ?_ | refine sp19 ?_ | refine sp22 ?_ | refine sp23 ?_ | refine sp24 ?_)) | ((with_reducible show wpAny _ _ (exec (Stmt.For (Expr.Name _ _) _ _ [] _) _) _ _ _); (with_unfolding_all refine' for_at ?F ?k1 ?k2 ?_ ?k3 ?k4; (case F => k_asm); (case k1 => exact rfl); (case k2 => exact rfl); (case k3 => intro _; rfl); (case k4 => assumption); k_whole)) | walk1 | (dsimp only; walk1) | (leave1; walk_say "STEP leave1"; try dsimp only) | fail "no step"))
  · refine Stop.go ?_
    refine' dict_display (l := privL) ?zF ?zN ?zb ?zc ?ze ?zn ?zl ?_
    case zF => k_asm
    case zN => k_asm
    case zb => exact Top.nolimit (by k_asm)
    case zn => exact privL_nodup
    case zl => exact .inl privL_length
    case zc => (repeat (first | exact ConstPairs.nil | apply ConstPairs.cons))
    case ze => kernel_rfl
    intro d h2 tk2 o kvs F2 N2 hlt hlo hd2 hS
    have hb : b = true := by assumption
    subst hb
    (try dsimp only)
    (repeat' (first | (k_unfold; (try dsimp only)) | ((first | (with_reducible refine Then.next ?_) | (with_reducible refine Then.ret ?_) | (with_reducible refine Joined.next ?_) | (with_reducible refine Joined.ret ?_) | (with_reducible refine HidV.get (by with_reducible assumption) _ _ ?_) | (with_reducible refine Hdn.get (by with_reducible assumption) ?_) | (with_reducible refine TurnEnd.toRet ?_)); (try dsimp only)) | (k_end; wrow_close) | ((with_reducible refine hide_turn ?_); intro Q1 H1) | (with_reducible refine exec_hid ?_) | (with_reducible (first | refine sp1 ?_ | refine sp2 ?_ | refine sp3 ?_ | refine sp4 ?_ | refine sp5 ?_ | refine sp6 ?_ | refine sp7 ?_ | refine sp8 ?_ | refine sp9 ?_ | refine sp10 ?_ | refine sp11 ?_ | refine sp12 ?_ | refine sp13 ?_ | refine sp14 ?_ | refine sp15 ?_ | refine sp16 ?_ | refine sp17 ?_ | refine sp18 ?_ | refine sp19 ?_ | refine sp22 ?_ | refine sp23 ?_ | refine sp24 ?_)) | ((with_reducible show wpAny _ _ (exec (Stmt.For (Expr.Name _ _) _ _ [] _) _) _ _ _); (with_unfolding_all refine' for_at ?F ?k1 ?k2 ?_ ?k3 ?k4; (case F => k_asm); (case k1 => exact rfl); (case k2 => exact rfl); (case k3 => intro _; rfl); (case k4 => assumption); k_whole)) | walk1 | (dsimp only; walk1) | (leave1; walk_say "STEP leave1"; try dsimp only) | fail "no step"))
    exact hret d o kvs hlt hlo hd2 hS _ _ (by k_asm) (by k_asm)
  · refine Stop.go ?_
    refine' dict_display (l := plainL) ?zF ?zN ?zb ?zc ?ze ?zn ?zl ?_
    case zF => k_asm
    case zN => k_asm
    case zb => exact Top.nolimit (by k_asm)
    case zn => exact plainL_nodup
    case zl => exact .inr ⟨by rw [plainL_length]; decide, by intro e; have := plainL_length; rw [e] at this; simp at this⟩
    case zc => (repeat (first | exact ConstPairs.nil | apply ConstPairs.cons))
    case ze => kernel_rfl
    intro d h2 tk2 o kvs F2 N2 hlt hlo hd2 hS
    have hb : b = false := by assumption
    subst hb
    (try dsimp only)
    (repeat' (first | (k_unfold; (try dsimp only)) | ((first | (with_reducible refine Then.next ?_) | (with_reducible refine Then.ret ?_) | (with_reducible refine Joined.next ?_) | (with_reducible refine Joined.ret ?_) | (with_reducible refine HidV.get (by with_reducible assumption) _ _ ?_) | (with_reducible refine Hdn.get (by with_reducible assumption) ?_) | (with_reducible refine TurnEnd.toRet ?_)); (try dsimp only)) | (k_end; wrow_close) | ((with_reducible refine hide_turn ?_); intro Q1 H1) | (with_reducible refine exec_hid ?_) | (with_reducible (first | refine sp1 ?_ | refine sp2 ?_ | refine sp3 ?_ | refine sp4 ?_ | refine sp5 ?_ | refine sp6 ?_ | refine sp7 ?_ | refine sp8 ?_ | refine sp9 ?_ | refine sp10 ?_ | refine sp11 ?_ | refine sp12 ?_ | refine sp13 ?_ | refine sp14 ?_ | refine sp15 ?_ | refine sp16 ?_ | refine sp17 ?_ | refine sp18 ?_ | refine sp19 ?_ | refine sp22 ?_ | refine sp23 ?_ | refine sp24 ?_)) | ((with_reducible show wpAny _ _ (exec (Stmt.For (Expr.Name _ _) _ _ [] _) _) _ _ _); (with_unfolding_all refine' for_at ?F ?k1 ?k2 ?_ ?k3 ?k4; (case F => k_asm); (case k1 => exact rfl); (case k2 => exact rfl); (case k3 => intro _; rfl); (case k4 => assumption); k_whole)) | walk1 | (dsimp only; walk1) | (leave1; walk_say "STEP leave1"; try dsimp only) | fail "no step"))
    exact hret d o kvs hlt hlo hd2 hS _ _ (by k_asm) (by k_asm)
end
end
section
def StrOpt (r : Value) (o : Option Str) : Prop := (o = none ∧ r = .none) ∨ ∃ s t, o = some s ∧ r = .str s t
noncomputable def wordB (k : Int) (b : Bool) : Option Str := getB (if b then privL else plainL) k
theorem optK {P : Value → Prop} {o : Option Str} {r : Value} (h : (o = none → P .none) ∧ ∀ s t, o = some s → P (.str s t)) (hr : StrOpt r o) : P r := by
  rcases hr with ⟨e, rfl⟩ | ⟨s, t, e, rfl⟩
  · exact h.1 e
  · exact h.2 s t e
section
variable {w : World} {p : Program} {loose : List Str} {mean : ExcName → Option Value} {mg mb : Str → Option Value}
theorem c_word {k : Int} {t : Tok} {b : Bool} :
    Con w p loose mean mg mb 32 2 [.int k t, .bool b] (fun _ G => G) (fun news P => (wordB k b = none → P .none news) ∧ ∀ x t, wordB k b = some x → P (.str x t) news) := by
  unfold Con
  intro A env outer A₀ base h₀ L m news hp0 G0 Dr0 tk0 O0 Q E hA hf hke B F X N T hd hu hret
  refine wpAny_call ?_
  k_dflt (refine' code_defG (binds := [(Str.ofString "number", .int k t), (Str.ofString "is_private", .bool b)]) ?k1 ?k2 ?k3 ?k4 ?k5 ?kA ?kF ?kK ?k6 ?k7 ?kd ?ku ?k9 ?kB ?_ ?c2 ?c3 ?c4 ?c5; (case kA => assumption); (case kF => assumption); (case kK => assumption); (case k1 => k_asm); (case k2 => k_asm); (case k3 => k_asm); (case k4 => k_asm); (case k5 => k_asm); (case k6 => k_is); (case k7 => k_is); (case kd => assumption); (case ku => assumption); (case k9 => exact BindsTo.of_eq rfl); (case c5 => decide); (case kB => exact locs rfl); (case c2 => exact rfl); (case c3 => exact rfl); (case c4 => exact rfl); k_whole; intro A1 g' L' h' tk' Q1 E1 hA1 hd1 hu1 FG' F' N' B' X' T' H1 P1; (try dsimp only))
  (repeat' (first | (k_unfold; (try dsimp only)) | ((first | (with_reducible refine Then.next ?_) | (with_reducible refine Then.ret ?_) | (with_reducible refine Joined.next ?_) | (with_reducible refine Joined.ret ?_) | (with_reducible refine HidV.get (by with_reducible assumption) _ _ ?_) | (with_reducible refine Hdn.get (by with_reducible assumption) ?_) | (with_reducible refine TurnEnd.toRet ?_)); (try dsimp only)) | (k_end; wrow_close) | ((with_reducible refine hide_turn ?_); intro Q1 H1) | (with_reducible refine exec_hid ?_) | (with_reducible (first | refine sp1 ?_ | refine sp2 ?_ | refine sp3 ?_ | refine sp4 ?_ | refine sp5 ?_ | refine sp6 ?_ | refine sp7 ?_ | refine sp8 ?_ | refine sp9 ?_ | refine sp10 ?_ | refine sp11 ?_ | refine sp12 ?_ | refine sp13 ?_ | refine sp14 ?_ | refine sp15 ?_ | refine sp16 ?_ | refine sp17 ?_ | refine sp18 ?_ | refine sp19 ?_ | refine sp22 ?_ | refine sp23 ?_ | refine sp24 ?_)) | ((with_reducible show wpAny _ _ (exec (Stmt.For (Expr.Name _ _) _ _ [] _) _) _ _ _); (with_unfolding_all refine' for_at ?F ?k1 ?k2 ?_ ?k3 ?k4; (case F => k_asm); (case k1 => exact rfl); (case k2 => exact rfl); (case k3 => intro _; rfl); (case k4 => assumption); k_whole)) | walk1 | (dsimp only; walk1) | (leave1; walk_say "STEP leave1"; try dsimp only) | fail "no step"))
  refine Stop.go ?_
  k_dflt (refine' (c_words) _ _ _ _ _ _ _ _ _ _ _ _ _ _ _ _ ?kA ?kF ?kK ?k1 ?k2 ?k3 ?k4 ?k5 ?kd ?ku  ?_; (case kA => assumption); (case kF => exact rfl); (case kK => exact rfl); (case k1 => k_asm); (case k2 => k_asm); (case k3 => k_asm); (case k4 => k_asm); (case k5 => k_asm);  (case kd => exact room (by assumption) (by decide)); (case ku => exact room (by assumption) (by decide)); intro d o kvs hlt hlo hd2 hS h2 tk2 F2 N2)
  (try dsimp only)
  (repeat' (first | (k_unfold; (try dsimp only)) | ((first | (with_reducible refine Then.next ?_) | (with_reducible refine Then.ret ?_) | (with_reducible refine Joined.next ?_) | (with_reducible refine Joined.ret ?_) | (with_reducible refine HidV.get (by with_reducible assumption) _ _ ?_) | (with_reducible refine Hdn.get (by with_reducible assumption) ?_) | (with_reducible refine TurnEnd.toRet ?_)); (try dsimp only)) | (k_end; wrow_close) | ((with_reducible refine hide_turn ?_); intro Q1 H1) | (with_reducible refine exec_hid ?_) | (with_reducible (first | refine sp1 ?_ | refine sp2 ?_ | refine sp3 ?_ | refine sp4 ?_ | refine sp5 ?_ | refine sp6 ?_ | refine sp7 ?_ | refine sp8 ?_ | refine sp9 ?_ | refine sp10 ?_ | refine sp11 ?_ | refine sp12 ?_ | refine sp13 ?_ | refine sp14 ?_ | refine sp15 ?_ | refine sp16 ?_ | refine sp17 ?_ | refine sp18 ?_ | refine sp19 ?_ | refine sp22 ?_ | refine sp23 ?_ | refine sp24 ?_)) | ((with_reducible show wpAny _ _ (exec (Stmt.For (Expr.Name _ _) _ _ [] _) _) _ _ _); (with_unfolding_all refine' for_at ?F ?k1 ?k2 ?_ ?k3 ?k4; (case F => k_asm); (case k1 => exact rfl); (case k2 => exact rfl); (case k3 => intro _; rfl); (case k4 => assumption); k_whole)) | walk1 | (dsimp only; walk1) | (leave1; walk_say "STEP leave1"; try dsimp only) | fail "no step"))
  refine Stop.go ?_
  refine kdg_method (knd := PySem.intKind _ _) (by k_asm) (.head _) hd2 ?_
  (try dsimp only)
  (repeat' (first | (k_unfold; (try dsimp only)) | ((first | (with_reducible refine Then.next ?_) | (with_reducible refine Then.ret ?_) | (with_reducible refine Joined.next ?_) | (with_reducible refine Joined.ret ?_) | (with_reducible refine HidV.get (by with_reducible assumption) _ _ ?_) | (with_reducible refine Hdn.get (by with_reducible assumption) ?_) | (with_reducible refine TurnEnd.toRet ?_)); (try dsimp only)) | (k_end; wrow_close) | ((with_reducible refine hide_turn ?_); intro Q1 H1) | (with_reducible refine exec_hid ?_) | (with_reducible (first | refine sp1 ?_ | refine sp2 ?_ | refine sp3 ?_ | refine sp4 ?_ | refine sp5 ?_ | refine sp6 ?_ | refine sp7 ?_ | refine sp8 ?_ | refine sp9 ?_ | refine sp10 ?_ | refine sp11 ?_ | refine sp12 ?_ | refine sp13 ?_ | refine sp14 ?_ | refine sp15 ?_ | refine sp16 ?_ | refine sp17 ?_ | refine sp18 ?_ | refine sp19 ?_ | refine sp22 ?_ | refine sp23 ?_ | refine sp24 ?_)) | ((with_reducible show wpAny _ _ (exec (Stmt.For (Expr.Name _ _) _ _ [] _) _) _ _ _); (with_unfolding_all refine' for_at ?F ?k1 ?k2 ?_ ?k3 ?k4; (case F => k_asm); (case k1 => exact rfl); (case k2 => exact rfl); (case k3 => intro _; rfl); (case k4 => assumption); k_whole)) | walk1 | (dsimp only; walk1) | (leave1; walk_say "STEP leave1"; try dsimp only) | fail "no step"))
  refine Stop.go ?_
  refine kdg_get1 (knd := PySem.intKind _ _) (by k_asm) (.head _) hd2 hlo (intKind_is _ _ _ _) _ rfl ?_
  (try dsimp only)
  (repeat' (first | (k_unfold; (try dsimp only)) | ((first | (with_reducible refine Then.next ?_) | (with_reducible refine Then.ret ?_) | (with_reducible refine Joined.next ?_) | (with_reducible refine Joined.ret ?_) | (with_reducible refine HidV.get (by with_reducible assumption) _ _ ?_) | (with_reducible refine Hdn.get (by with_reducible assumption) ?_) | (with_reducible refine TurnEnd.toRet ?_)); (try dsimp only)) | (k_end; wrow_close) | ((with_reducible refine hide_turn ?_); intro Q1 H1) | (with_reducible refine exec_hid ?_) | (with_reducible (first | refine sp1 ?_ | refine sp2 ?_ | refine sp3 ?_ | refine sp4 ?_ | refine sp5 ?_ | refine sp6 ?_ | refine sp7 ?_ | refine sp8 ?_ | refine sp9 ?_ | refine sp10 ?_ | refine sp11 ?_ | refine sp12 ?_ | refine sp13 ?_ | refine sp14 ?_ | refine sp15 ?_ | refine sp16 ?_ | refine sp17 ?_ | refine sp18 ?_ | refine sp19 ?_ | refine sp22 ?_ | refine sp23 ?_ | refine sp24 ?_)) | ((with_reducible show wpAny _ _ (exec (Stmt.For (Expr.Name _ _) _ _ [] _) _) _ _ _); (with_unfolding_all refine' for_at ?F ?k1 ?k2 ?_ ?k3 ?k4; (case F => k_asm); (case k1 => exact rfl); (case k2 => exact rfl); (case k3 => intro _; rfl); (case k4 => assumption); k_whole)) | walk1 | (dsimp only; walk1) | (leave1; walk_say "STEP leave1"; try dsimp only) | fail "no step"))
  rename News _ _ _ _ => N9
  have N10 : News h₀ L _ news := news_sub N9 fun q hq => .tail _ hq
  refine optK (P := fun r => Q r _) ⟨fun e => hret.1 e _ _ (by k_asm) N10, fun x t e => hret.2 x t e _ _ (by k_asm) N10⟩ ?_
  · rcases hS.valueAt k with ⟨e1, e2⟩ | ⟨s, t', e1, e2⟩
    · rw [e2]; exact .inl ⟨e1, rfl⟩
    · rw [e2]; exact .inr ⟨s, t', e1, rfl⟩
end
end
section
noncomputable def repB (S : List (Str × Bool)) (k : Int) (b : Bool) : Int := match wordB k b with
  | none => if b = false ∧ FIXED.any (· == k) = true then 4 else 0
  | some s => if onB S s = true then 1 else 2
theorem int_q {a b : Int} {t : Tok} {Q : Value → Shared → Prop} {s : Shared} (e : b = a) (h : Q (.int b t) s) : Q (.int a t) s := e ▸ h
theorem in_fixed {prog : Program} {w : World} {A : Around} {E : Value → Shared → Prop} {s : Shared} {h₀ : Heap} {L : Addr} {m : Str → Option Value} {x : Int} {u : Tok} {Q : Value → Shared → Prop} (F : Fr h₀ L s.heap m) (X : (hd.heap_39 w.params).In h₀) (h : Q (.bool (FIXED.any (· == x))) s) :
    wpAny (model prog w) A (compareOp .In (.int x u) (.ref 17)) Q E s := by
  have hl := X.keeps F.keep 17 _ rfl
  exact in_tuple_ints ⟨_, hl, rfl, _, rfl⟩ (.cons _ _ (.cons _ _ (.cons _ _ (.cons _ _ (.cons _ _ (.cons _ _ (.cons _ _ (.cons _ _ (.cons _ _ (.cons _ _ (.cons _ _ (.cons _ _ .nil)))))))))))) h
section
variable {w : World} {p : Program} {loose : List Str} {mean : ExcName → Option Value} {mg mb : Str → Option Value}
theorem c_report {x dx dS dK : Addr} {t1 t2 t : Tok} {n : Nat} {oS : Obj} {S : List (Str × Bool)} {k : Int} {b : Bool} :
    Con w p loose mean mg mb 88 3 [.ref x, .int k t, .bool b]
     (fun news G => (x, instObj 77 dx) ∈ news → (dx, mdDict w t1 t2 n dS dK) ∈ news → (dS, oS) ∈ news → oS.IsDictOf (strKind PG w) (vals S) → (dS == sysModules) = false → G) (fun news P => ∀ t', P (.int (repB S k b) t') news) := by
  unfold Con
  intro A env outer A₀ base h₀ L m news hp0 G0 Dr0 tk0 O0 Q E hA hf hke B F X N T hd hu hx hdx hdS hS hlo hret
  refine wpAny_call ?_
  k_dflt (refine' code_defG (binds := [(Str.ofString "modes", .ref x), (Str.ofString "number", .int k t), (Str.ofString "is_private", .bool b)]) ?k1 ?k2 ?k3 ?k4 ?k5 ?kA ?kF ?kK ?k6 ?k7 ?kd ?ku ?k9 ?kB ?_ ?c2 ?c3 ?c4 ?c5; (case kA => assumption); (case kF => assumption); (case kK => assumption); (case k1 => k_asm); (case k2 => k_asm); (case k3 => k_asm); (case k4 => k_asm); (case k5 => k_asm); (case k6 => k_is); (case k7 => k_is); (case kd => assumption); (case ku => assumption); (case k9 => exact BindsTo.of_eq rfl); (case c5 => decide); (case kB => exact locs rfl); (case c2 => exact rfl); (case c3 => exact rfl); (case c4 => exact rfl); k_whole; intro A1 g' L' h' tk' Q1 E1 hA1 hd1 hu1 FG' F' N' B' X' T' H1 P1; (try dsimp only))
  (repeat' (first | (k_unfold; (try dsimp only)) | ((first | (with_reducible refine Then.next ?_) | (with_reducible refine Then.ret ?_) | (with_reducible refine Joined.next ?_) | (with_reducible refine Joined.ret ?_) | (with_reducible refine HidV.get (by with_reducible assumption) _ _ ?_) | (with_reducible refine Hdn.get (by with_reducible assumption) ?_) | (with_reducible refine TurnEnd.toRet ?_)); (try dsimp only)) | (k_end; wrow_close) | ((with_reducible refine hide_turn ?_); intro Q1 H1) | (with_reducible refine exec_hid ?_) | (with_reducible (first | refine sp1 ?_ | refine sp2 ?_ | refine sp3 ?_ | refine sp4 ?_ | refine sp5 ?_ | refine sp6 ?_ | refine sp7 ?_ | refine sp8 ?_ | refine sp9 ?_ | refine sp10 ?_ | refine sp11 ?_ | refine sp12 ?_ | refine sp13 ?_ | refine sp14 ?_ | refine sp15 ?_ | refine sp16 ?_ | refine sp17 ?_ | refine sp18 ?_ | refine sp19 ?_ | refine sp22 ?_ | refine sp23 ?_ | refine sp24 ?_)) | ((with_reducible show wpAny _ _ (exec (Stmt.For (Expr.Name _ _) _ _ [] _) _) _ _ _); (with_unfolding_all refine' for_at ?F ?k1 ?k2 ?_ ?k3 ?k4; (case F => k_asm); (case k1 => exact rfl); (case k2 => exact rfl); (case k3 => intro _; rfl); (case k4 => assumption); k_whole)) | walk1 | (dsimp only; walk1) | (leave1; walk_say "STEP leave1"; try dsimp only) | fail "no step"))
  refine Stop.go ?_
  k_dflt (refine' (c_word) _ _ _ _ _ _ _ _ _ _ _ _ _ _ _ _ ?kA ?kF ?kK ?k1 ?k2 ?k3 ?k4 ?k5 ?kd ?ku  ?_; (case kA => assumption); (case kF => exact rfl); (case kK => exact rfl); (case k1 => k_asm); (case k2 => k_asm); (case k3 => k_asm); (case k4 => k_asm); (case k5 => k_asm);  (case kd => exact room (by assumption) (by decide)); (case ku => exact room (by assumption) (by decide)); refine ⟨fun ew => ?_, fun sw st ew => ?_⟩ <;> intro h2 tk2 F2 N2)
  · (try dsimp only)
    (repeat' (first | (k_unfold; (try dsimp only)) | ((first | (with_reducible refine Then.next ?_) | (with_reducible refine Then.ret ?_) | (with_reducible refine Joined.next ?_) | (with_reducible refine Joined.ret ?_) | (with_reducible refine HidV.get (by with_reducible assumption) _ _ ?_) | (with_reducible refine Hdn.get (by with_reducible assumption) ?_) | (with_reducible refine TurnEnd.toRet ?_)); (try dsimp only)) | (k_end; wrow_close) | ((with_reducible refine hide_turn ?_); intro Q1 H1) | (with_reducible refine exec_hid ?_) | (with_reducible (first | refine sp1 ?_ | refine sp2 ?_ | refine sp3 ?_ | refine sp4 ?_ | refine sp5 ?_ | refine sp6 ?_ | refine sp7 ?_ | refine sp8 ?_ | refine sp9 ?_ | refine sp10 ?_ | refine sp11 ?_ | refine sp12 ?_ | refine sp13 ?_ | refine sp14 ?_ | refine sp15 ?_ | refine sp16 ?_ | refine sp17 ?_ | refine sp18 ?_ | refine sp19 ?_ | refine sp22 ?_ | refine sp23 ?_ | refine sp24 ?_)) | ((with_reducible show wpAny _ _ (exec (Stmt.For (Expr.Name _ _) _ _ [] _) _) _ _ _); (with_unfolding_all refine' for_at ?F ?k1 ?k2 ?_ ?k3 ?k4; (case F => k_asm); (case k1 => exact rfl); (case k2 => exact rfl); (case k3 => intro _; rfl); (case k4 => assumption); k_whole)) | walk1 | (dsimp only; walk1) | (leave1; walk_say "STEP leave1"; try dsimp only) | fail "no step"))
    · have hb : b = true := by assumption
      subst hb
      refine int_q (by unfold repB; rw [ew]; rfl) (hret _ _ _ (by k_asm) (by k_asm))
    · have hb : b = false := by assumption
      subst hb
      refine in_fixed (by k_asm) (by k_asm) ?_
      (try dsimp only)
      (repeat' (first | (k_unfold; (try dsimp only)) | ((first | (with_reducible refine Then.next ?_) | (with_reducible refine Then.ret ?_) | (with_reducible refine Joined.next ?_) | (with_reducible refine Joined.ret ?_) | (with_reducible refine HidV.get (by with_reducible assumption) _ _ ?_) | (with_reducible refine Hdn.get (by with_reducible assumption) ?_) | (with_reducible refine TurnEnd.toRet ?_)); (try dsimp only)) | (k_end; wrow_close) | ((with_reducible refine hide_turn ?_); intro Q1 H1) | (with_reducible refine exec_hid ?_) | (with_reducible (first | refine sp1 ?_ | refine sp2 ?_ | refine sp3 ?_ | refine sp4 ?_ | refine sp5 ?_ | refine sp6 ?_ | refine sp7 ?_ | refine sp8 ?_ | refine sp9 ?_ | refine sp10 ?_ | refine sp11 ?_ | refine sp12 ?_ | refine sp13 ?_ | refine sp14 ?_ | refine sp15 ?_ | refine sp16 ?_ | refine sp17 ?_ | refine sp18 ?_ | refine sp19 ?_ | refine sp22 ?_ | refine sp23 ?_ | refine sp24 ?_)) | ((with_reducible show wpAny _ _ (exec (Stmt.For (Expr.Name _ _) _ _ [] _) _) _ _ _); (with_unfolding_all refine' for_at ?F ?k1 ?k2 ?_ ?k3 ?k4; (case F => k_asm); (case k1 => exact rfl); (case k2 => exact rfl); (case k3 => intro _; rfl); (case k4 => assumption); k_whole)) | walk1 | (dsimp only; walk1) | (leave1; walk_say "STEP leave1"; try dsimp only) | fail "no step"))
      · rename (FIXED.any _) = true => hf
        refine int_q (by unfold repB; rw [ew]; dsimp only; rw [if_pos ⟨rfl, hf⟩]) (hret _ _ _ (by k_asm) (by k_asm))
      · rename (FIXED.any _) = false => hf
        refine int_q (by unfold repB; rw [ew]; dsimp only; rw [if_neg (fun h => by rw [hf] at h; exact absurd h.2 (by decide))]) (hret _ _ _ (by k_asm) (by k_asm))
  · (try dsimp only)
    (repeat' (first | (k_unfold; (try dsimp only)) | ((first | (with_reducible refine Then.next ?_) | (with_reducible refine Then.ret ?_) | (with_reducible refine Joined.next ?_) | (with_reducible refine Joined.ret ?_) | (with_reducible refine HidV.get (by with_reducible assumption) _ _ ?_) | (with_reducible refine Hdn.get (by with_reducible assumption) ?_) | (with_reducible refine TurnEnd.toRet ?_)); (try dsimp only)) | (k_end; wrow_close) | ((with_reducible refine hide_turn ?_); intro Q1 H1) | (with_reducible refine exec_hid ?_) | (with_reducible (first | refine sp1 ?_ | refine sp2 ?_ | refine sp3 ?_ | refine sp4 ?_ | refine sp5 ?_ | refine sp6 ?_ | refine sp7 ?_ | refine sp8 ?_ | refine sp9 ?_ | refine sp10 ?_ | refine sp11 ?_ | refine sp12 ?_ | refine sp13 ?_ | refine sp14 ?_ | refine sp15 ?_ | refine sp16 ?_ | refine sp17 ?_ | refine sp18 ?_ | refine sp19 ?_ | refine sp22 ?_ | refine sp23 ?_ | refine sp24 ?_)) | ((with_reducible show wpAny _ _ (exec (Stmt.For (Expr.Name _ _) _ _ [] _) _) _ _ _); (with_unfolding_all refine' for_at ?F ?k1 ?k2 ?_ ?k3 ?k4; (case F => k_asm); (case k1 => exact rfl); (case k2 => exact rfl); (case k3 => intro _; rfl); (case k4 => assumption); k_whole)) | walk1 | (dsimp only; walk1) | (leave1; walk_say "STEP leave1"; try dsimp only) | fail "no step"))
    refine Stop.go ?_
    k_dflt (refine' (c_isOn) _ _ _ _ _ _ _ _ _ _ _ _ _ _ _ _ ?kA ?kF ?kK ?k1 ?k2 ?k3 ?k4 ?k5 ?kd ?ku ?p0 ?p1 ?p2 ?p3 ?p4 ?_; (case kA => assumption); (case kF => exact rfl); (case kK => exact rfl); (case k1 => k_asm); (case k2 => k_asm); (case k3 => k_asm); (case k4 => k_asm); (case k5 => k_asm); (case p0 => exact hx); (case p1 => exact hdx); (case p2 => exact hdS); (case p3 => exact hS); (case p4 => exact hlo); (case kd => exact room (by assumption) (by decide)); (case ku => exact room (by assumption) (by decide)); intro h3 tk3 F3 N3)
    (try dsimp only)
    (repeat' (first | (k_unfold; (try dsimp only)) | ((first | (with_reducible refine Then.next ?_) | (with_reducible refine Then.ret ?_) | (with_reducible refine Joined.next ?_) | (with_reducible refine Joined.ret ?_) | (with_reducible refine HidV.get (by with_reducible assumption) _ _ ?_) | (with_reducible refine Hdn.get (by with_reducible assumption) ?_) | (with_reducible refine TurnEnd.toRet ?_)); (try dsimp only)) | (k_end; wrow_close) | ((with_reducible refine hide_turn ?_); intro Q1 H1) | (with_reducible refine exec_hid ?_) | (with_reducible (first | refine sp1 ?_ | refine sp2 ?_ | refine sp3 ?_ | refine sp4 ?_ | refine sp5 ?_ | refine sp6 ?_ | refine sp7 ?_ | refine sp8 ?_ | refine sp9 ?_ | refine sp10 ?_ | refine sp11 ?_ | refine sp12 ?_ | refine sp13 ?_ | refine sp14 ?_ | refine sp15 ?_ | refine sp16 ?_ | refine sp17 ?_ | refine sp18 ?_ | refine sp19 ?_ | refine sp22 ?_ | refine sp23 ?_ | refine sp24 ?_)) | ((with_reducible show wpAny _ _ (exec (Stmt.For (Expr.Name _ _) _ _ [] _) _) _ _ _); (with_unfolding_all refine' for_at ?F ?k1 ?k2 ?_ ?k3 ?k4; (case F => k_asm); (case k1 => exact rfl); (case k2 => exact rfl); (case k3 => intro _; rfl); (case k4 => assumption); k_whole)) | walk1 | (dsimp only; walk1) | (leave1; walk_say "STEP leave1"; try dsimp only) | fail "no step"))
    · rename onB S sw = true => hf
      refine int_q (by unfold repB; rw [ew]; dsimp only; rw [if_pos hf]) (hret _ _ _ (by k_asm) (by k_asm))
    · rename onB S sw = false => hf
      refine int_q (by unfold repB; rw [ew]; dsimp only; rw [if_neg (by rw [hf]; decide)]) (hret _ _ _ (by k_asm) (by k_asm))
end
end
section
section
variable {w : World} {p : Program} {loose : List Str} {mean : ExcName → Option Value} {mg mb : Str → Option Value}
theorem c_number {t : Tok} {word : Str} :
    Con w p loose mean mg mb 39 2 [.str word t] (fun _ G => G)
      (fun news P => ((∀ b k, wordB k b ≠ some word) → P .none news) ∧ (∀ a k t b n, (∀ q ∈ news, q.1 < a) → wordB k b = some word → P (.ref a) ((a, tupO [.int k t, .bool b] n) :: news))) := by
  unfold Con
  intro A env outer A₀ base h₀ L m news hp0 G0 Dr0 tk0 O0 Q E hA hf hke B F X N T hd hu hret
  refine wpAny_call ?_
  k_dflt (refine' code_defG (binds := [(Str.ofString "word", .str word t)]) ?k1 ?k2 ?k3 ?k4 ?k5 ?kA ?kF ?kK ?k6 ?k7 ?kd ?ku ?k9 ?kB ?_ ?c2 ?c3 ?c4 ?c5; (case kA => assumption); (case kF => assumption); (case kK => assumption); (case k1 => k_asm); (case k2 => k_asm); (case k3 => k_asm); (case k4 => k_asm); (case k5 => k_asm); (case k6 => k_is); (case k7 => k_is); (case kd => assumption); (case ku => assumption); (case k9 => exact BindsTo.of_eq rfl); (case c5 => decide); (case kB => exact locs rfl); (case c2 => exact rfl); (case c3 => exact rfl); (case c4 => exact rfl); k_whole; intro A1 g' L' h' tk' Q1 E1 hA1 hd1 hu1 FG' F' N' B' X' T' H1 P1; (try dsimp only))
  (repeat' (first | (k_unfold; (try dsimp only)) | ((first | (with_reducible refine Then.next ?_) | (with_reducible refine Then.ret ?_) | (with_reducible refine Joined.next ?_) | (with_reducible refine Joined.ret ?_) | (with_reducible refine HidV.get (by with_reducible assumption) _ _ ?_) | (with_reducible refine Hdn.get (by with_reducible assumption) ?_) | (with_reducible refine TurnEnd.toRet ?_)); (try dsimp only)) | (k_end; wrow_close) | ((with_reducible refine hide_turn ?_); intro Q1 H1) | (with_reducible refine exec_hid ?_) | (with_reducible (first | refine sp1 ?_ | refine sp2 ?_ | refine sp3 ?_ | refine sp4 ?_ | refine sp5 ?_ | refine sp6 ?_ | refine sp7 ?_ | refine sp8 ?_ | refine sp9 ?_ | refine sp10 ?_ | refine sp11 ?_ | refine sp12 ?_ | refine sp13 ?_ | refine sp14 ?_ | refine sp15 ?_ | refine sp16 ?_ | refine sp17 ?_ | refine sp18 ?_ | refine sp19 ?_ | refine sp22 ?_ | refine sp23 ?_ | refine sp24 ?_)) | ((with_reducible show wpAny _ _ (exec (Stmt.For (Expr.Name _ _) _ _ [] _) _) _ _ _); (with_unfolding_all refine' for_at ?F ?k1 ?k2 ?_ ?k3 ?k4; (case F => k_asm); (case k1 => exact rfl); (case k2 => exact rfl); (case k3 => intro _; rfl); (case k4 => assumption); k_whole)) | walk1 | (dsimp only; walk1) | (leave1; walk_say "STEP leave1"; try dsimp only) | fail "no step"))
  rename News _ _ _ _ => N2
  rename Fr _ _ _ _ => F2
  rename_i tkT l1T
  have zT := N2 _ (.head _)
  refine loop_tuple (vs := [.bool false, .bool true]) (fun i m₁ nw => (∀ y, y ≠ Str.ofString "is_private" → y ≠ Str.ofString "words" → y ≠ Str.ofString "number" → m₁ y = List.lookup y [(Str.ofString "word", Value.str word t)].reverse) ∧
      news = nw ∧ (1 ≤ i → ∀ k, wordB k false ≠ some word) ∧ (2 ≤ i → ∀ k, wordB k true ≠ some word)) rfl ⟨_, zT.1, rfl, _, rfl⟩ zT.2.1 F2 (news_sub N2 fun q hq => .tail _ hq) ⟨fun _ _ _ _ => rfl, rfl, fun h => absurd h (by decide), fun h => absurd h (by decide)⟩ ?_ ?_
  · intro I i v m₁ news₁ own h3 tk3 hv hlt hI hown hJ hnI F4 N4
    refine hide_goal (fun Hq => ?_)
    obtain ⟨e1, rfl, e2, e3⟩ := hJ
    have hvb : ∃ b, v = .bool b ∧ ((i = 0 ∧ b = false) ∨ (i = 1 ∧ b = true)) := by
      rcases i with _ | _ | i
      · simp at hv; exact ⟨_, hv.symm, .inl ⟨rfl, rfl⟩⟩
      · simp at hv; exact ⟨_, hv.symm, .inr ⟨rfl, rfl⟩⟩
      · simp at hv
    obtain ⟨b, rfl, hib⟩ := hvb
    have F5 := fr_in3 F4 e1
    clear F4
    (repeat' (first | (k_unfold; (try dsimp only)) | ((first | (with_reducible refine Then.next ?_) | (with_reducible refine Then.ret ?_) | (with_reducible refine Joined.next ?_) | (with_reducible refine Joined.ret ?_) | (with_reducible refine HidV.get (by with_reducible assumption) _ _ ?_) | (with_reducible refine Hdn.get (by with_reducible assumption) ?_) | (with_reducible refine TurnEnd.toRet ?_)); (try dsimp only)) | (k_end; wrow_close) | ((with_reducible refine hide_turn ?_); intro Q1 H1) | (with_reducible refine exec_hid ?_) | (with_reducible (first | refine sp1 ?_ | refine sp2 ?_ | refine sp3 ?_ | refine sp4 ?_ | refine sp5 ?_ | refine sp6 ?_ | refine sp7 ?_ | refine sp8 ?_ | refine sp9 ?_ | refine sp10 ?_ | refine sp11 ?_ | refine sp12 ?_ | refine sp13 ?_ | refine sp14 ?_ | refine sp15 ?_ | refine sp16 ?_ | refine sp17 ?_ | refine sp18 ?_ | refine sp19 ?_ | refine sp22 ?_ | refine sp23 ?_ | refine sp24 ?_)) | ((with_reducible show wpAny _ _ (exec (Stmt.For (Expr.Name _ _) _ _ [] _) _) _ _ _); (with_unfolding_all refine' for_at ?F ?k1 ?k2 ?_ ?k3 ?k4; (case F => k_asm); (case k1 => exact rfl); (case k2 => exact rfl); (case k3 => intro _; rfl); (case k4 => assumption); k_whole)) | walk1 | (dsimp only; walk1) | (leave1; walk_say "STEP leave1"; try dsimp only) | fail "no step"))
    refine Stop.go ?_
    k_dflt (refine' (c_words) _ _ _ _ _ _ _ _ _ _ _ _ _ _ _ _ ?kA ?kF ?kK ?k1 ?k2 ?k3 ?k4 ?k5 ?kd ?ku  ?_; (case kA => assumption); (case kF => exact rfl); (case kK => exact rfl); (case k1 => k_asm); (case k2 => k_asm); (case k3 => k_asm); (case k4 => k_asm); (case k5 => k_asm);  (case kd => exact room (by assumption) (by decide)); (case ku => exact room (by assumption) (by decide)); intro d o kvs hltd hlo hdd hS h6 tk6 F6 N6)
    (try dsimp only)
    (repeat' (first | (k_unfold; (try dsimp only)) | ((first | (with_reducible refine Then.next ?_) | (with_reducible refine Then.ret ?_) | (with_reducible refine Joined.next ?_) | (with_reducible refine Joined.ret ?_) | (with_reducible refine HidV.get (by with_reducible assumption) _ _ ?_) | (with_reducible refine Hdn.get (by with_reducible assumption) ?_) | (with_reducible refine TurnEnd.toRet ?_)); (try dsimp only)) | (k_end; wrow_close) | ((with_reducible refine hide_turn ?_); intro Q1 H1) | (with_reducible refine exec_hid ?_) | (with_reducible (first | refine sp1 ?_ | refine sp2 ?_ | refine sp3 ?_ | refine sp4 ?_ | refine sp5 ?_ | refine sp6 ?_ | refine sp7 ?_ | refine sp8 ?_ | refine sp9 ?_ | refine sp10 ?_ | refine sp11 ?_ | refine sp12 ?_ | refine sp13 ?_ | refine sp14 ?_ | refine sp15 ?_ | refine sp16 ?_ | refine sp17 ?_ | refine sp18 ?_ | refine sp19 ?_ | refine sp22 ?_ | refine sp23 ?_ | refine sp24 ?_)) | ((with_reducible show wpAny _ _ (exec (Stmt.For (Expr.Name _ _) _ _ [] _) _) _ _ _); (with_unfolding_all refine' for_at ?F ?k1 ?k2 ?_ ?k3 ?k4; (case F => k_asm); (case k1 => exact rfl); (case k2 => exact rfl); (case k3 => intro _; rfl); (case k4 => assumption); k_whole)) | walk1 | (dsimp only; walk1) | (leave1; walk_say "STEP leave1"; try dsimp only) | fail "no step"))
    refine Stop.go ?_
    rename Fr _ _ _ _ => F7
    rename News _ _ _ _ => N7
    refine sorted_dict_int rfl F7 N7 (.head _) hdd hlo (by have := congrArg List.length hS.keys; have h36 := privL_length; have h4 := plainL_length; cases b <;> simp at this <;> omega) ?_
    intro D vs ns h8 tk8 n8 F8 N8 hltD hia hperm hasc
    have zD := N8 _ (.head _)
    have hmd : (d, o) ∈ (D, listOf vs.toArray n8) :: (d, o) :: (own ++ news) := .tail _ (.head _)
    refine loop_list (vs := vs) (fun j m₂ nw => (∀ y, y ≠ Str.ofString "number" → m₂ y = (fun y => if y = Str.ofString "words" then some (Value.ref d) else if y = Str.ofString "is_private" then some (Value.bool b) else if y = Str.ofString "words" then m₁ (Str.ofString "words") else if y = Str.ofString "number" then m₁ (Str.ofString "number") else List.lookup y [(Str.ofString "word", Value.str word t)].reverse) y) ∧
      nw = (d, o) :: (own ++ news) ∧ ∀ k ∈ ns.take j, wordB k b ≠ some word) rfl ⟨_, zD.1, rfl, _, rfl⟩ zD.2.1 F8 (news_sub N8 fun q hq => .tail _ hq) ⟨fun _ _ => rfl, rfl, fun k hk => by simp at hk⟩ ?_ ?_
    · intro I2 j v2 m₂ news₂ own2 h9 tk9 hv2 hlt2 hI2 hown2 hJ2 hnI2 F9 N9
      refine hide_goal (fun Hq => ?_)
      obtain ⟨e4, rfl, e5⟩ := hJ2
      have hvk : ∃ k t', v2 = .int k t' ∧ ns[j]? = some k := by
        obtain ⟨k, t', e, e'⟩ := IntsAre.at hia j v2 hv2
        exact ⟨k, t', e, e'⟩
      obtain ⟨k, t', rfl, hk2⟩ := hvk
      have F10 := fr_in F9 e4
      clear F9
      have hmem : (d, o) ∈ own2 ++ ((d, o) :: (own ++ news)) := List.mem_append_right _ (.head _)
      have hin : k ∈ kvs.map (·.1) := hperm.mem_iff.mp (List.mem_of_getElem? hk2)
      obtain ⟨sw, st, ew, ev⟩ : ∃ sw st, wordB k b = some sw ∧ valueAt kvs k = some (.str sw st) := by
        rcases hS.valueAt k with ⟨x, _⟩ | ⟨sw, st, x, y⟩
        · rw [getB_none_iff, ← hS.keys] at x
          exact absurd hin x
        · exact ⟨sw, st, x, y⟩
      (repeat' (first | (k_unfold; (try dsimp only)) | ((first | (with_reducible refine Then.next ?_) | (with_reducible refine Then.ret ?_) | (with_reducible refine Joined.next ?_) | (with_reducible refine Joined.ret ?_) | (with_reducible refine HidV.get (by with_reducible assumption) _ _ ?_) | (with_reducible refine Hdn.get (by with_reducible assumption) ?_) | (with_reducible refine TurnEnd.toRet ?_)); (try dsimp only)) | (k_end; wrow_close) | ((with_reducible refine hide_turn ?_); intro Q1 H1) | (with_reducible refine exec_hid ?_) | (with_reducible (first | refine sp1 ?_ | refine sp2 ?_ | refine sp3 ?_ | refine sp4 ?_ | refine sp5 ?_ | refine sp6 ?_ | refine sp7 ?_ | refine sp8 ?_ | refine sp9 ?_ | refine sp10 ?_ | refine sp11 ?_ | refine sp12 ?_ | refine sp13 ?_ | refine sp14 ?_ | refine sp15 ?_ | refine sp16 ?_ | refine sp17 ?_ | refine sp18 ?_ | refine sp19 ?_ | refine sp22 ?_ | refine sp23 ?_ | refine sp24 ?_)) | ((with_reducible show wpAny _ _ (exec (Stmt.For (Expr.Name _ _) _ _ [] _) _) _ _ _); (with_unfolding_all refine' for_at ?F ?k1 ?k2 ?_ ?k3 ?k4; (case F => k_asm); (case k1 => exact rfl); (case k2 => exact rfl); (case k3 => intro _; rfl); (case k4 => assumption); k_whole)) | walk1 | (dsimp only; walk1) | (leave1; walk_say "STEP leave1"; try dsimp only) | fail "no step"))
      refine Stop.go ?_
      refine kda_item (knd := PySem.intKind _ _) (by k_asm) hmem hdd (intKind_is _ _ _ _) ev ?_
      (try dsimp only)
      (repeat' (first | (k_unfold; (try dsimp only)) | ((first | (with_reducible refine Then.next ?_) | (with_reducible refine Then.ret ?_) | (with_reducible refine Joined.next ?_) | (with_reducible refine Joined.ret ?_) | (with_reducible refine HidV.get (by with_reducible assumption) _ _ ?_) | (with_reducible refine Hdn.get (by with_reducible assumption) ?_) | (with_reducible refine TurnEnd.toRet ?_)); (try dsimp only)) | (k_end; wrow_close) | ((with_reducible refine hide_turn ?_); intro Q1 H1) | (with_reducible refine exec_hid ?_) | (with_reducible (first | refine sp1 ?_ | refine sp2 ?_ | refine sp3 ?_ | refine sp4 ?_ | refine sp5 ?_ | refine sp6 ?_ | refine sp7 ?_ | refine sp8 ?_ | refine sp9 ?_ | refine sp10 ?_ | refine sp11 ?_ | refine sp12 ?_ | refine sp13 ?_ | refine sp14 ?_ | refine sp15 ?_ | refine sp16 ?_ | refine sp17 ?_ | refine sp18 ?_ | refine sp19 ?_ | refine sp22 ?_ | refine sp23 ?_ | refine sp24 ?_)) | ((with_reducible show wpAny _ _ (exec (Stmt.For (Expr.Name _ _) _ _ [] _) _) _ _ _); (with_unfolding_all refine' for_at ?F ?k1 ?k2 ?_ ?k3 ?k4; (case F => k_asm); (case k1 => exact rfl); (case k2 => exact rfl); (case k3 => intro _; rfl); (case k4 => assumption); k_whole)) | walk1 | (dsimp only; walk1) | (leave1; walk_say "STEP leave1"; try dsimp only) | fail "no step"))
      · rename (∀ p ∈ own2 ++ _, p.1 < _) => l9
        rename (sw == word) = true => hsw
        have hsw' : sw = word := by simpa using hsw
        (repeat' (first | (k_unfold; (try dsimp only)) | ((first | (with_reducible refine Then.next ?_) | (with_reducible refine Then.ret ?_) | (with_reducible refine Joined.next ?_) | (with_reducible refine Joined.ret ?_) | (with_reducible refine HidV.get (by with_reducible assumption) _ _ ?_) | (with_reducible refine Hdn.get (by with_reducible assumption) ?_) | (with_reducible refine TurnEnd.toRet ?_)); (try dsimp only)) | (k_end; wrow_close) | ((with_reducible refine hide_turn ?_); intro Q1 H1) | (with_reducible refine exec_hid ?_) | (with_reducible (first | refine sp1 ?_ | refine sp2 ?_ | refine sp3 ?_ | refine sp4 ?_ | refine sp5 ?_ | refine sp6 ?_ | refine sp7 ?_ | refine sp8 ?_ | refine sp9 ?_ | refine sp10 ?_ | refine sp11 ?_ | refine sp12 ?_ | refine sp13 ?_ | refine sp14 ?_ | refine sp15 ?_ | refine sp16 ?_ | refine sp17 ?_ | refine sp18 ?_ | refine sp19 ?_ | refine sp22 ?_ | refine sp23 ?_ | refine sp24 ?_)) | ((with_reducible show wpAny _ _ (exec (Stmt.For (Expr.Name _ _) _ _ [] _) _) _ _ _); (with_unfolding_all refine' for_at ?F ?k1 ?k2 ?_ ?k3 ?k4; (case F => k_asm); (case k1 => exact rfl); (case k2 => exact rfl); (case k3 => intro _; rfl); (case k4 => assumption); k_whole)) | walk1 | (dsimp only; walk1) | (leave1; walk_say "STEP leave1"; try dsimp only) | fail "no step"))
        rename News h₀ L _ _ => N11
        exact hret.2 _ k t' b _ (fun q hq => l9 q (List.mem_append_right _ (.tail _ (List.mem_append_right _ hq)))) (by rw [ew, hsw']) _ _ (by k_asm) (news_sub N11 (List.forall_mem_cons.mpr ⟨.head _, fun q hq => .tail _ (List.mem_append_right _ (.tail _ (List.mem_append_right _ hq)))⟩))
      · rename (sw == word) = false => hsw
        have hsw' : sw ≠ word := by simpa using hsw
        refine TurnEnd.intro F10 N9 hnI2 ⟨fun y hy => if_neg hy, rfl, fun k' hk' => ?_⟩
        rw [List.take_add_one, hk2] at hk'
        rcases List.mem_append.mp hk' with h | h
        · exact e5 k' h
        · simp at h
          subst h
          rw [ew]
          exact fun e => hsw' (Option.some.inj e)
    · intro m₂ news₂ h9 tk9 hJ2 F9 N9
      refine hide_goal (fun Hq => ?_)
      obtain ⟨e4, rfl, e5⟩ := hJ2
      rw [show vs.length = ns.length from hia.length, List.take_length] at e5
      have hall : ∀ k, wordB k b ≠ some word := by
        intro k
        by_cases hk : k ∈ ns
        · exact e5 k hk
        · have hk' : k ∉ kvs.map (·.1) := fun h => hk (hperm.mem_iff.mpr h)
          rw [hS.keys] at hk'
          have := (getB_none_iff _ k).mpr hk'
          unfold wordB
          rw [this]
          exact fun e => nomatch e
      (try dsimp only)
      (repeat' (first | (k_unfold; (try dsimp only)) | ((first | (with_reducible refine Then.next ?_) | (with_reducible refine Then.ret ?_) | (with_reducible refine Joined.next ?_) | (with_reducible refine Joined.ret ?_) | (with_reducible refine HidV.get (by with_reducible assumption) _ _ ?_) | (with_reducible refine Hdn.get (by with_reducible assumption) ?_) | (with_reducible refine TurnEnd.toRet ?_)); (try dsimp only)) | (k_end; wrow_close) | ((with_reducible refine hide_turn ?_); intro Q1 H1) | (with_reducible refine exec_hid ?_) | (with_reducible (first | refine sp1 ?_ | refine sp2 ?_ | refine sp3 ?_ | refine sp4 ?_ | refine sp5 ?_ | refine sp6 ?_ | refine sp7 ?_ | refine sp8 ?_ | refine sp9 ?_ | refine sp10 ?_ | refine sp11 ?_ | refine sp12 ?_ | refine sp13 ?_ | refine sp14 ?_ | refine sp15 ?_ | refine sp16 ?_ | refine sp17 ?_ | refine sp18 ?_ | refine sp19 ?_ | refine sp22 ?_ | refine sp23 ?_ | refine sp24 ?_)) | ((with_reducible show wpAny _ _ (exec (Stmt.For (Expr.Name _ _) _ _ [] _) _) _ _ _); (with_unfolding_all refine' for_at ?F ?k1 ?k2 ?_ ?k3 ?k4; (case F => k_asm); (case k1 => exact rfl); (case k2 => exact rfl); (case k3 => intro _; rfl); (case k4 => assumption); k_whole)) | walk1 | (dsimp only; walk1) | (leave1; walk_say "STEP leave1"; try dsimp only) | fail "no step"))
      refine TurnEnd.intro (news' := news) F9 (news_sub N9 (fun q hq => .tail _ hq)) hnI ⟨fun y h1 h2 h3 => ?_, rfl, ?_, ?_⟩
      · rw [e4 y h3]
        dsimp only
        rw [if_neg h2, if_neg h1, if_neg h2, if_neg h3]
      · intro _
        rcases hib with ⟨rfl, rfl⟩ | ⟨rfl, rfl⟩
        · exact hall
        · exact e2 (by decide)
      · intro h
        rcases hib with ⟨rfl, rfl⟩ | ⟨rfl, rfl⟩
        · exact absurd h (by decide)
        · exact hall
  · intro m₁ news₁ h3 tk3 hJ F4 N4
    refine hide_goal (fun Hq => ?_)
    obtain ⟨e1, rfl, e2, e3⟩ := hJ
    (try dsimp only)
    (repeat' (first | (k_unfold; (try dsimp only)) | ((first | (with_reducible refine Then.next ?_) | (with_reducible refine Then.ret ?_) | (with_reducible refine Joined.next ?_) | (with_reducible refine Joined.ret ?_) | (with_reducible refine HidV.get (by with_reducible assumption) _ _ ?_) | (with_reducible refine Hdn.get (by with_reducible assumption) ?_) | (with_reducible refine TurnEnd.toRet ?_)); (try dsimp only)) | (k_end; wrow_close) | ((with_reducible refine hide_turn ?_); intro Q1 H1) | (with_reducible refine exec_hid ?_) | (with_reducible (first | refine sp1 ?_ | refine sp2 ?_ | refine sp3 ?_ | refine sp4 ?_ | refine sp5 ?_ | refine sp6 ?_ | refine sp7 ?_ | refine sp8 ?_ | refine sp9 ?_ | refine sp10 ?_ | refine sp11 ?_ | refine sp12 ?_ | refine sp13 ?_ | refine sp14 ?_ | refine sp15 ?_ | refine sp16 ?_ | refine sp17 ?_ | refine sp18 ?_ | refine sp19 ?_ | refine sp22 ?_ | refine sp23 ?_ | refine sp24 ?_)) | ((with_reducible show wpAny _ _ (exec (Stmt.For (Expr.Name _ _) _ _ [] _) _) _ _ _); (with_unfolding_all refine' for_at ?F ?k1 ?k2 ?_ ?k3 ?k4; (case F => k_asm); (case k1 => exact rfl); (case k2 => exact rfl); (case k3 => intro _; rfl); (case k4 => assumption); k_whole)) | walk1 | (dsimp only; walk1) | (leave1; walk_say "STEP leave1"; try dsimp only) | fail "no step"))
    refine hret.1 (fun b => ?_) _ _ (by k_asm) (by k_asm)
    cases b
    · exact e2 (by decide)
    · exact e3 (by decide)
end
end
section
noncomputable def S0 : List (Str × Bool) := FIRST.foldl (fun S w => storeB S w true) []
theorem length_foldl_true : ∀ (g : List Str) (S : List (Str × Bool)), (g.foldl (fun S o => storeB S o true) S).length ≤ S.length + g.length
  | [], S => by simp
  | o :: g, S => by
    rw [List.foldl_cons]
    have h1 := length_foldl_true g (storeB S o true)
    have h2 := length_storeB S o true
    rw [List.length_cons]; (first | exact Nat.le_trans (by assumption) (by decide) | exact Nat.lt_of_le_of_lt (by assumption) (by decide) | omega)
theorem FIRST_length : FIRST.length = 5 := by decide +kernel
theorem first_tup {w : World} {h : Heap} (X : (hd.heap_39 w.params).In h) : ∃ items, IsTup h 18 items ∧ StrsAre items.toList FIRST :=
  ⟨_, ⟨_, X 18 _ rfl, rfl, _, rfl⟩, .cons _ _ (.cons _ _ (.cons _ _ (.cons _ _ (.cons _ _ .nil))))⟩
theorem low_of {h₀ h : Heap} {L a : Addr} {m : Str → Option Value} (F : Fr h₀ L h m) {o : Obj} (e : h₀.get? a = some o) : a ≠ L := fun q => by
  have := Nat.lt_of_lt_of_le (Heap.lt_size e) F.above
  rw [q] at this; exact absurd this (Nat.lt_irrefl _)
theorem low_news {h₀ h : Heap} {L a : Addr} {news : List (Addr × Obj)} (N : News h₀ L h news) {o : Obj} (e : h₀.get? a = some o) : ∀ q ∈ news, q.1 ≠ a := fun q hq e' => by
  have := (N q hq).2.2
  rw [e', e] at this; cases this
theorem under_in {M : Model} {A : Around} {env : Env} {outer : List Env} {C : Addr} {vals : List Value} {c : Code} {R : Result → Shared → Prop} {s : Shared} (hA : A.frames = some (env :: outer)) (hd : A.depth + 2 < recursionLimit) (hu : A.units + 8 * 2 < cLine)
    (h : ∀ A2, A2.frames = some (env :: outer) → A2.depth + 1 < recursionLimit → A2.units + 8 * 1 < cLine → codeAny M (Clm A2) c R s) : codeAny M ((Clm A).under (Code.builtin "type.__call__" ⟨.ref C :: vals, []⟩)) c R s :=
  h ((Clm A).under (Code.builtin "type.__call__" ⟨.ref C :: vals, []⟩)) hA (by rw [depth_under_make]; exact hd) (by rw [units_under_make]; show A.units + 1 + 8 * 1 < _; (first | exact Nat.le_trans (by assumption) (by decide) | exact Nat.lt_of_le_of_lt (by assumption) (by decide) | omega))
section
variable {w : World} {p : Program} {loose : List Str} {mean : ExcName → Option Value} {mg mb : Str → Option Value}
theorem c_new :
    Con w p loose mean mg mb 77 2 [] (fun _ G => G)
      (fun news P => ∀ x dx dS dK t1 t2 oS oK, (∀ q ∈ news, q.1 < dx) → @LT.lt Nat _ dx x → @LT.lt Nat _ x dS → @LT.lt Nat _ dS dK → (dS == sysModules) = false → (dK == sysModules) = false → oS.IsDictOf (strKind PG w) (vals S0) → oK.IsDictOf (strKind PG w) (vals ([] : List (Str × Bool))) → P (.ref x) ((dS, oS) :: (dK, oK) :: (x, instObj 77 dx) :: (dx, mdDict w t1 t2 2 dS dK) :: news)) := by
  unfold Con
  intro A env outer A₀ base h₀ L m news hp0 G0 Dr0 tk0 O0 Q E hA hf hke B F X N T hd hu hret
  k_dflt (refine' call_cls ?k1 ?k2 ?k3 ?k4 ?k5 ?k6 ?_; (case k1 => k_asm); (case k2 => k_asm); (case k3 => k_asm); (case k4 => k_is); (case k5 => k_is); (case k6 => k_is); k_whole; intro x dx hX FX NX l1 l2)
  replace l2 := ltN l2
  refine under_in hA hd hu (fun A2 hA2 hd2 hu2 => ?_)
  k_dflt (refine' code_defG (binds := [(Str.ofString "self", .ref x)]) ?k1 ?k2 ?k3 ?k4 ?k5 ?kA ?kF ?kK ?k6 ?k7 ?kd ?ku ?k9 ?kB ?_ ?c2 ?c3 ?c4 ?c5; (case kA => assumption); (case kF => assumption); (case kK => assumption); (case k1 => k_asm); (case k2 => k_asm); (case k3 => k_asm); (case k4 => k_asm); (case k5 => k_asm); (case k6 => k_is); (case k7 => k_is); (case kd => assumption); (case ku => assumption); (case k9 => exact BindsTo.of_eq rfl); (case c5 => decide); (case kB => exact locs rfl); (case c2 => exact rfl); (case c3 => exact rfl); (case c4 => exact rfl); k_whole; intro A1 g' L' h' tk' Q1 E1 hA1 hd1 hu1 FG' F' N' B' X' T' H1 P1; (try dsimp only))
  (repeat' (first | (k_unfold; (try dsimp only)) | ((first | (with_reducible refine Then.next ?_) | (with_reducible refine Then.ret ?_) | (with_reducible refine Joined.next ?_) | (with_reducible refine Joined.ret ?_) | (with_reducible refine HidV.get (by with_reducible assumption) _ _ ?_) | (with_reducible refine Hdn.get (by with_reducible assumption) ?_) | (with_reducible refine TurnEnd.toRet ?_)); (try dsimp only)) | (k_end; wrow_close) | ((with_reducible refine hide_turn ?_); intro Q1 H1) | (with_reducible refine exec_hid ?_) | (with_reducible (first | refine sp1 ?_ | refine sp2 ?_ | refine sp3 ?_ | refine sp4 ?_ | refine sp5 ?_ | refine sp6 ?_ | refine sp7 ?_ | refine sp8 ?_ | refine sp9 ?_ | refine sp10 ?_ | refine sp11 ?_ | refine sp12 ?_ | refine sp13 ?_ | refine sp14 ?_ | refine sp15 ?_ | refine sp16 ?_ | refine sp17 ?_ | refine sp18 ?_ | refine sp19 ?_ | refine sp22 ?_ | refine sp23 ?_ | refine sp24 ?_)) | ((with_reducible show wpAny _ _ (exec (Stmt.For (Expr.Name _ _) _ _ [] _) _) _ _ _); (with_unfolding_all refine' for_at ?F ?k1 ?k2 ?_ ?k3 ?k4; (case F => k_asm); (case k1 => exact rfl); (case k2 => exact rfl); (case k3 => intro _; rfl); (case k4 => assumption); k_whole)) | walk1 | (dsimp only; walk1) | (leave1; walk_say "STEP leave1"; try dsimp only) | fail "no step"))
  rename_i dS hA oS loS hsS fsS hiS fiS lS hB dK hC oK loK hsK fsK hiK fiK lK hD FF NN
  generalize ht1 : Shared.toks _ + 1 = t1 at NN
  generalize ht2 : Shared.toks _ + 1 = t2 at NN
  clear ht1 ht2 fsS hiS fiS fsK hiK fiK
  have lS1 : @LT.lt Nat _ x dS := lS.1
  have lK1 : @LT.lt Nat _ dS dK := by (first | exact Nat.le_trans (by assumption) (by decide) | exact Nat.lt_of_le_of_lt (by assumption) (by decide) | omega)
  refine hide_goal (fun Hq => ?_)
  obtain ⟨items, ⟨o18, ho18, hc18, n18, hd18⟩, hi18⟩ := first_tup (X'.keeps FF.keep)
  (try ((first | (with_reducible refine Then.next ?_) | (with_reducible refine Then.ret ?_) | (with_reducible refine Joined.next ?_) | (with_reducible refine Joined.ret ?_) | (with_reducible refine HidV.get (by with_reducible assumption) _ _ ?_) | (with_reducible refine Hdn.get (by with_reducible assumption) ?_) | (with_reducible refine TurnEnd.toRet ?_)); (try dsimp only)))
  refine loop_tuple (vs := items.toList) (fun i m₁ nw => (∀ y, y ≠ Str.ofString "word" → m₁ y = List.lookup y [(Str.ofString "self", Value.ref x)].reverse) ∧
      ∃ o, nw = updL ((dK, oK) :: (dS, oS) :: (x, instObj 77 dx) :: (dx, mdDict w t1 t2 2 dS dK) :: news) dS o ∧ o.IsDictOf (strKind PG w) (vals ((FIRST.take i).foldl (fun S w => storeB S w true) []))) rfl ⟨o18, ho18, hc18, n18, by simpa using hd18⟩ (low_of FF (X' 18 _ rfl)) FF NN ⟨fun _ _ => rfl, oS, (updL_id NN (.tail _ (.head _))).symm, hsS⟩ ?_ ?_
  · intro I i v m₁ news₁ own h3 tk3 hv hlt hI hown hJ hnI F4 N4
    refine hide_goal (fun Hq => ?_)
    obtain ⟨sw, st, rfl, hs⟩ := strsAt_get hi18 hv
    obtain ⟨e1, o1, rfl, hd1⟩ := hJ
    have F5 := fr_in F4 e1
    have hgo : dS ≠ 18 := low_news NN (X' 18 _ rfl) (dS, oS) (.tail _ (.head _))
    have hx' := List.mem_append_right own (updL_ne (o' := o1) (.tail _ (.tail _ (.head _)) : (x, instObj 77 dx) ∈ (dK, oK) :: (dS, oS) :: (x, instObj 77 dx) :: (dx, mdDict w t1 t2 2 dS dK) :: news) (Nat.ne_of_lt lS1))
    have hdx' := List.mem_append_right own (updL_ne (o' := o1) (.tail _ (.tail _ (.tail _ (.head _))) : (dx, mdDict w t1 t2 2 dS dK) ∈ (dK, oK) :: (dS, oS) :: (x, instObj 77 dx) :: (dx, mdDict w t1 t2 2 dS dK) :: news) (Nat.ne_of_lt lS.2.1))
    have hS' := List.mem_append_right own (updL_self (o' := o1) (.tail _ (.head _) : (dS, oS) ∈ (dK, oK) :: (dS, oS) :: (x, instObj 77 dx) :: (dx, mdDict w t1 t2 2 dS dK) :: news))
    clear F4
    (repeat' (first | (k_unfold; (try dsimp only)) | ((first | (with_reducible refine Then.next ?_) | (with_reducible refine Then.ret ?_) | (with_reducible refine Joined.next ?_) | (with_reducible refine Joined.ret ?_) | (with_reducible refine HidV.get (by with_reducible assumption) _ _ ?_) | (with_reducible refine Hdn.get (by with_reducible assumption) ?_) | (with_reducible refine TurnEnd.toRet ?_)); (try dsimp only)) | (k_end; wrow_close) | ((with_reducible refine hide_turn ?_); intro Q1 H1) | (with_reducible refine exec_hid ?_) | (with_reducible (first | refine sp1 ?_ | refine sp2 ?_ | refine sp3 ?_ | refine sp4 ?_ | refine sp5 ?_ | refine sp6 ?_ | refine sp7 ?_ | refine sp8 ?_ | refine sp9 ?_ | refine sp10 ?_ | refine sp11 ?_ | refine sp12 ?_ | refine sp13 ?_ | refine sp14 ?_ | refine sp15 ?_ | refine sp16 ?_ | refine sp17 ?_ | refine sp18 ?_ | refine sp19 ?_ | refine sp22 ?_ | refine sp23 ?_ | refine sp24 ?_)) | ((with_reducible show wpAny _ _ (exec (Stmt.For (Expr.Name _ _) _ _ [] _) _) _ _ _); (with_unfolding_all refine' for_at ?F ?k1 ?k2 ?_ ?k3 ?k4; (case F => k_asm); (case k1 => exact rfl); (case k2 => exact rfl); (case k3 => intro _; rfl); (case k4 => assumption); k_whole)) | walk1 | (dsimp only; walk1) | (leave1; walk_say "STEP leave1"; try dsimp only) | fail "no step"))
    refine dset (knd := strKind _ _) (by k_asm) (by k_asm) hS' hd1 (strKind_is _ _ _ _) ?_ (fun h6 o6 F6 N6 hd6 => ?_)
    · exact size_vals (Nat.le_trans (length_foldl_true _ _) (by have := FIRST_length; rw [List.length_take]; simp; omega))
    (try dsimp only)
    (repeat' (first | (k_unfold; (try dsimp only)) | ((first | (with_reducible refine Then.next ?_) | (with_reducible refine Then.ret ?_) | (with_reducible refine Joined.next ?_) | (with_reducible refine Joined.ret ?_) | (with_reducible refine HidV.get (by with_reducible assumption) _ _ ?_) | (with_reducible refine Hdn.get (by with_reducible assumption) ?_) | (with_reducible refine TurnEnd.toRet ?_)); (try dsimp only)) | (k_end; wrow_close) | ((with_reducible refine hide_turn ?_); intro Q1 H1) | (with_reducible refine exec_hid ?_) | (with_reducible (first | refine sp1 ?_ | refine sp2 ?_ | refine sp3 ?_ | refine sp4 ?_ | refine sp5 ?_ | refine sp6 ?_ | refine sp7 ?_ | refine sp8 ?_ | refine sp9 ?_ | refine sp10 ?_ | refine sp11 ?_ | refine sp12 ?_ | refine sp13 ?_ | refine sp14 ?_ | refine sp15 ?_ | refine sp16 ?_ | refine sp17 ?_ | refine sp18 ?_ | refine sp19 ?_ | refine sp22 ?_ | refine sp23 ?_ | refine sp24 ?_)) | ((with_reducible show wpAny _ _ (exec (Stmt.For (Expr.Name _ _) _ _ [] _) _) _ _ _); (with_unfolding_all refine' for_at ?F ?k1 ?k2 ?_ ?k3 ?k4; (case F => k_asm); (case k1 => exact rfl); (case k2 => exact rfl); (case k3 => intro _; rfl); (case k4 => assumption); k_whole)) | walk1 | (dsimp only; walk1) | (leave1; walk_say "STEP leave1"; try dsimp only) | fail "no step"))
    rw [updL_own (own_off (.tail _ (.head _)) hlt hown hgo)] at N6
    rw [stored_vals] at hd6
    refine TurnEnd.intro F6 N6 (updL_neI hlt) ⟨fun y hy => if_neg hy, o6, rfl, ?_⟩
    rw [List.take_add_one, hs]
    simpa using hd6
  · intro m₁ news₁ h3 tk3 hJ F4 N4
    refine hide_goal (fun Hq => ?_)
    obtain ⟨e1, o1, rfl, hd1⟩ := hJ
    rw [hi18.length, List.take_length] at hd1
    (try dsimp only)
    (repeat' (first | (k_unfold; (try dsimp only)) | ((first | (with_reducible refine Then.next ?_) | (with_reducible refine Then.ret ?_) | (with_reducible refine Joined.next ?_) | (with_reducible refine Joined.ret ?_) | (with_reducible refine HidV.get (by with_reducible assumption) _ _ ?_) | (with_reducible refine Hdn.get (by with_reducible assumption) ?_) | (with_reducible refine TurnEnd.toRet ?_)); (try dsimp only)) | (k_end; wrow_close) | ((with_reducible refine hide_turn ?_); intro Q1 H1) | (with_reducible refine exec_hid ?_) | (with_reducible (first | refine sp1 ?_ | refine sp2 ?_ | refine sp3 ?_ | refine sp4 ?_ | refine sp5 ?_ | refine sp6 ?_ | refine sp7 ?_ | refine sp8 ?_ | refine sp9 ?_ | refine sp10 ?_ | refine sp11 ?_ | refine sp12 ?_ | refine sp13 ?_ | refine sp14 ?_ | refine sp15 ?_ | refine sp16 ?_ | refine sp17 ?_ | refine sp18 ?_ | refine sp19 ?_ | refine sp22 ?_ | refine sp23 ?_ | refine sp24 ?_)) | ((with_reducible show wpAny _ _ (exec (Stmt.For (Expr.Name _ _) _ _ [] _) _) _ _ _); (with_unfolding_all refine' for_at ?F ?k1 ?k2 ?_ ?k3 ?k4; (case F => k_asm); (case k1 => exact rfl); (case k2 => exact rfl); (case k3 => intro _; rfl); (case k4 => assumption); k_whole)) | walk1 | (dsimp only; walk1) | (leave1; walk_say "STEP leave1"; try dsimp only) | fail "no step"))
    rename News h₀ L _ _ => N9
    refine hret x dx dS dK t1 t2 o1 oK l1 l2 lS1 lK1 loS loK hd1 hsK _ _ (by k_asm) (news_sub N9 ?_)
    refine List.forall_mem_cons.mpr ⟨updL_self (.tail _ (.head _)), List.forall_mem_cons.mpr ⟨updL_ne (.head _) (Nat.ne_of_gt lK1), List.forall_mem_cons.mpr ⟨updL_ne (.tail _ (.tail _ (.head _))) (Nat.ne_of_lt lS1), List.forall_mem_cons.mpr ⟨updL_ne (.tail _ (.tail _ (.tail _ (.head _)))) (Nat.ne_of_lt lS.2.1), fun q hq => ?_⟩⟩⟩⟩
    exact updL_ne (.tail _ (.tail _ (.tail _ (.tail _ hq)))) (Nat.ne_of_lt (Nat.lt_trans (l1 q hq) lS.2.1))
end
end
section
section
variable {w : World} {p : Program} {loose : List Str} {mean : ExcName → Option Value} {mg mb : Str → Option Value}
theorem c_on {x dx dS dK : Addr} {t1 t2 : Tok} {n : Nat} {oS : Obj} {S : List (Str × Bool)} :
    Con w p loose mean mg mb 107 1 [.ref x]
     (fun news G => (x, instObj 77 dx) ∈ news → (dx, mdDict w t1 t2 n dS dK) ∈ news → (dS, oS) ∈ news → oS.IsDictOf (strKind PG w) (vals S) → (dS == sysModules) = false → S.length < 64 → G)
     (fun news P => ∀ D vs k ss, (∀ q ∈ news, q.1 ≠ D) → StrsAre vs (ss.filter (onB S)) → ss.Perm (S.map (·.1)) → sortedS ss = true → P (.ref D) ((D, listOf vs.toArray k) :: news)) := by
  unfold Con
  intro A env outer A₀ base h₀ L m news hp0 G0 Dr0 tk0 O0 Q E hA hf hke B F X N T hd hu hx hdx hdS hS hlo h64 hret
  refine wpAny_call ?_
  k_dflt (refine' code_defCG (binds := [(Str.ofString "modes", .ref x)]) ?k1 ?k2 ?k3 ?k4 ?k5 ?kA ?kF ?kK ?k6 ?k7 ?kd ?ku ?k9 ?kB ?kD ?_ ?c2 ?c3 ?c4; (case kA => assumption); (case kF => assumption); (case kK => assumption); (case k1 => k_asm); (case k2 => k_asm); (case k3 => k_asm); (case k4 => k_asm); (case k5 => k_asm); (case k6 => k_is); (case k7 => k_is); (case kd => assumption); (case ku => assumption); (case k9 => exact BindsTo.of_eq rfl); (case kB => exact rfl); (case kD => decide +kernel); (case c2 => exact rfl); (case c3 => exact rfl); (case c4 => exact rfl); k_whole; intro A1 g' L' h' tk' cells' Q1 E1 hA1 hd1 hu1 FG' F' N' Y' B' X' T' lC H1 P1; (try k_lt lC); k_cells Y'; (try simp only [List.cons_append, List.nil_append] at N'); (try dsimp only))
  (repeat' (first | (k_unfold; (try dsimp only)) | ((first | (with_reducible refine Then.next ?_) | (with_reducible refine Then.ret ?_) | (with_reducible refine Joined.next ?_) | (with_reducible refine Joined.ret ?_) | (with_reducible refine HidV.get (by with_reducible assumption) _ _ ?_) | (with_reducible refine Hdn.get (by with_reducible assumption) ?_) | (with_reducible refine TurnEnd.toRet ?_)); (try dsimp only)) | (k_end; wrow_close) | ((with_reducible refine hide_turn ?_); intro Q1 H1) | (with_reducible refine exec_hid ?_) | (with_reducible (first | refine sp1 ?_ | refine sp2 ?_ | refine sp3 ?_ | refine sp4 ?_ | refine sp5 ?_ | refine sp6 ?_ | refine sp7 ?_ | refine sp8 ?_ | refine sp9 ?_ | refine sp10 ?_ | refine sp11 ?_ | refine sp12 ?_ | refine sp13 ?_ | refine sp14 ?_ | refine sp15 ?_ | refine sp16 ?_ | refine sp17 ?_ | refine sp18 ?_ | refine sp19 ?_ | refine sp22 ?_ | refine sp23 ?_ | refine sp24 ?_)) | ((with_reducible show wpAny _ _ (exec (Stmt.For (Expr.Name _ _) _ _ [] _) _) _ _ _); (with_unfolding_all refine' for_at ?F ?k1 ?k2 ?_ ?k3 ?k4; (case F => k_asm); (case k1 => exact rfl); (case k2 => exact rfl); (case k3 => intro _; rfl); (case k4 => assumption); k_whole)) | walk1 | (dsimp only; walk1) | (leave1; walk_say "STEP leave1"; try dsimp only) | fail "no step"))
  refine Stop.go ?_
  (k_dflt (first | ((with_reducible refine' comp_TW ?kF ?k1 ?k2 ?k3 ?k4 ?k5 ?_ ?k6); (case kF => k_asm); (case k1 => with_unfolding_all rfl); (case k2 => decide); (case k3 => rfl); (case k4 => decide); (case k5 => rfl); (case k6 => intro _; rfl)) | ((with_reducible refine' comp_UW ?kF ?k1 ?k2 ?k3 ?k4 ?k5 ?_ ?k6); (case kF => k_asm); (case k1 => with_unfolding_all rfl); (case k2 => decide); (case k3 => rfl); (case k4 => decide); (case k5 => rfl); (case k6 => intro _; rfl))))
  (repeat' (first | (k_unfold; (try dsimp only)) | ((first | (with_reducible refine Then.next ?_) | (with_reducible refine Then.ret ?_) | (with_reducible refine Joined.next ?_) | (with_reducible refine Joined.ret ?_) | (with_reducible refine HidV.get (by with_reducible assumption) _ _ ?_) | (with_reducible refine Hdn.get (by with_reducible assumption) ?_) | (with_reducible refine TurnEnd.toRet ?_)); (try dsimp only)) | (k_end; wrow_close) | ((with_reducible refine hide_turn ?_); intro Q1 H1) | (with_reducible refine exec_hid ?_) | (with_reducible (first | refine sp1 ?_ | refine sp2 ?_ | refine sp3 ?_ | refine sp4 ?_ | refine sp5 ?_ | refine sp6 ?_ | refine sp7 ?_ | refine sp8 ?_ | refine sp9 ?_ | refine sp10 ?_ | refine sp11 ?_ | refine sp12 ?_ | refine sp13 ?_ | refine sp14 ?_ | refine sp15 ?_ | refine sp16 ?_ | refine sp17 ?_ | refine sp18 ?_ | refine sp19 ?_ | refine sp22 ?_ | refine sp23 ?_ | refine sp24 ?_)) | ((with_reducible show wpAny _ _ (exec (Stmt.For (Expr.Name _ _) _ _ [] _) _) _ _ _); (with_unfolding_all refine' for_at ?F ?k1 ?k2 ?_ ?k3 ?k4; (case F => k_asm); (case k1 => exact rfl); (case k2 => exact rfl); (case k3 => intro _; rfl); (case k4 => assumption); k_whole)) | walk1 | (dsimp only; walk1) | (leave1; walk_say "STEP leave1"; try dsimp only) | fail "no step"))
  rename_i o' d1'
  rename Fr _ _ _ _ => F2
  rename News g' _ _ _ => N2
  refine Stop.go ?_
  refine sorted_dict_str rfl F2 N2 (.tail _ hdS) hS hlo (by rw [vals_length]; exact h64) ?_
  intro D vs ss h8 tk8 n8 F8 N8 hltD hia hperm hsrt
  refine src_list rfl F8 N8 (.inr ⟨_, .head _, rfl, _, rfl⟩) (by rw [List.size_toArray, hia.length, hperm.length_eq, List.length_map, vals_length, sizeLine_eq]; exact Nat.le_trans (Nat.le_of_lt h64) (by decide)) ?_
  intro g
  refine restT_inv (fun i ys nw => nw = (D, seqObj "list" vs.toArray n8) :: (L' + 1, o') :: news ∧ StrsAre ys ((ss.take i).filter (onB S))) ?_ ?_ _ 0 [] _ (Nat.zero_add _) ⟨rfl, .nil⟩
  · intro i ys nw v I oI C oC D2 m₂ h tk E' hi hJ hP hC hxv F9 N9 off ne
    refine hide_goal (fun Hq => ?_)
    obtain ⟨rfl, hys⟩ := hJ
    obtain ⟨sw, st, rfl, hs⟩ := strsAt_get hia (by simpa using hP)
    have hin : sw ∈ S.map (·.1) := by rw [← vals_keys]; exact hperm.mem_iff.mp (List.mem_of_getElem? hs)
    obtain ⟨bv, hbv⟩ : ∃ b, getB S sw = some b := by
      cases e : getB S sw with
      | none => exact absurd hin ((getB_none_iff _ _).mp e)
      | some b => exact ⟨b, rfl⟩
    have hval : valueAt (vals S) sw = some (.bool bv) := by rw [valueAt_vals, hbv]; rfl
    (repeat' (first | (k_unfold; (try dsimp only)) | ((first | (with_reducible refine Then.next ?_) | (with_reducible refine Then.ret ?_) | (with_reducible refine Joined.next ?_) | (with_reducible refine Joined.ret ?_) | (with_reducible refine HidV.get (by with_reducible assumption) _ _ ?_) | (with_reducible refine Hdn.get (by with_reducible assumption) ?_) | (with_reducible refine TurnEnd.toRet ?_)); (try dsimp only)) | (k_end; wrow_close) | ((with_reducible refine hide_turn ?_); intro Q1 H1) | (with_reducible refine exec_hid ?_) | (with_reducible (first | refine sp1 ?_ | refine sp2 ?_ | refine sp3 ?_ | refine sp4 ?_ | refine sp5 ?_ | refine sp6 ?_ | refine sp7 ?_ | refine sp8 ?_ | refine sp9 ?_ | refine sp10 ?_ | refine sp11 ?_ | refine sp12 ?_ | refine sp13 ?_ | refine sp14 ?_ | refine sp15 ?_ | refine sp16 ?_ | refine sp17 ?_ | refine sp18 ?_ | refine sp19 ?_ | refine sp22 ?_ | refine sp23 ?_ | refine sp24 ?_)) | ((with_reducible show wpAny _ _ (exec (Stmt.For (Expr.Name _ _) _ _ [] _) _) _ _ _); (with_unfolding_all refine' for_at ?F ?k1 ?k2 ?_ ?k3 ?k4; (case F => k_asm); (case k1 => exact rfl); (case k2 => exact rfl); (case k3 => intro _; rfl); (case k4 => assumption); k_whole)) | walk1 | (dsimp only; walk1) | (leave1; walk_say "STEP leave1"; try dsimp only) | fail "no step"))
    refine Stop.go ?_
    refine kda_item (knd := PySem.strKind _ _) (by k_asm) (.tail _ (.tail _ (.tail _ (.tail _ (.tail _ hdS))))) hS (strKind_is _ _ _ _) hval ?_
    (try dsimp only)
    (repeat' (first | (k_unfold; (try dsimp only)) | ((first | (with_reducible refine Then.next ?_) | (with_reducible refine Then.ret ?_) | (with_reducible refine Joined.next ?_) | (with_reducible refine Joined.ret ?_) | (with_reducible refine HidV.get (by with_reducible assumption) _ _ ?_) | (with_reducible refine Hdn.get (by with_reducible assumption) ?_) | (with_reducible refine TurnEnd.toRet ?_)); (try dsimp only)) | (k_end; wrow_close) | ((with_reducible refine hide_turn ?_); intro Q1 H1) | (with_reducible refine exec_hid ?_) | (with_reducible (first | refine sp1 ?_ | refine sp2 ?_ | refine sp3 ?_ | refine sp4 ?_ | refine sp5 ?_ | refine sp6 ?_ | refine sp7 ?_ | refine sp8 ?_ | refine sp9 ?_ | refine sp10 ?_ | refine sp11 ?_ | refine sp12 ?_ | refine sp13 ?_ | refine sp14 ?_ | refine sp15 ?_ | refine sp16 ?_ | refine sp17 ?_ | refine sp18 ?_ | refine sp19 ?_ | refine sp22 ?_ | refine sp23 ?_ | refine sp24 ?_)) | ((with_reducible show wpAny _ _ (exec (Stmt.For (Expr.Name _ _) _ _ [] _) _) _ _ _); (with_unfolding_all refine' for_at ?F ?k1 ?k2 ?_ ?k3 ?k4; (case F => k_asm); (case k1 => exact rfl); (case k2 => exact rfl); (case k3 => intro _; rfl); (case k4 => assumption); k_whole)) | walk1 | (dsimp only; walk1) | (leave1; walk_say "STEP leave1"; try dsimp only) | fail "no step"))
    · have hb : bv = true := by assumption
      refine LCg.CompEnd.intro (by k_asm) N9 _ (fun _ h => h) off (.inr ⟨_, .head _, rfl, _, rfl⟩) ⟨rfl, ?_⟩
      rw [filter_take_succ _ hs, if_pos (by unfold onB; rw [hbv, hb]; rfl)]
      exact strsAre_app hys (.cons _ _ .nil)
    · have hb : bv = false := by assumption
      refine LCg.CompEnd.intro (by k_asm) N9 _ (fun _ h => h) off (.inr ⟨_, .head _, rfl, _, rfl⟩) ⟨rfl, ?_⟩
      rw [filter_take_succ _ hs, if_neg (by unfold onB; rw [hbv, hb]; decide), List.append_nil]
      exact hys
  · intro ys nw hJ
    refine hide_goal (fun Hq => ?_)
    obtain ⟨rfl, hys⟩ := hJ
    (try ((first | (with_reducible refine Then.next ?_) | (with_reducible refine Then.ret ?_) | (with_reducible refine Joined.next ?_) | (with_reducible refine Joined.ret ?_) | (with_reducible refine HidV.get (by with_reducible assumption) _ _ ?_) | (with_reducible refine Hdn.get (by with_reducible assumption) ?_) | (with_reducible refine TurnEnd.toRet ?_)); (try dsimp only)))
    intro D9 h9 tk9 F9 N9 off9
    (try dsimp only)
    (repeat' (first | (k_unfold; (try dsimp only)) | ((first | (with_reducible refine Then.next ?_) | (with_reducible refine Then.ret ?_) | (with_reducible refine Joined.next ?_) | (with_reducible refine Joined.ret ?_) | (with_reducible refine HidV.get (by with_reducible assumption) _ _ ?_) | (with_reducible refine Hdn.get (by with_reducible assumption) ?_) | (with_reducible refine TurnEnd.toRet ?_)); (try dsimp only)) | (k_end; wrow_close) | ((with_reducible refine hide_turn ?_); intro Q1 H1) | (with_reducible refine exec_hid ?_) | (with_reducible (first | refine sp1 ?_ | refine sp2 ?_ | refine sp3 ?_ | refine sp4 ?_ | refine sp5 ?_ | refine sp6 ?_ | refine sp7 ?_ | refine sp8 ?_ | refine sp9 ?_ | refine sp10 ?_ | refine sp11 ?_ | refine sp12 ?_ | refine sp13 ?_ | refine sp14 ?_ | refine sp15 ?_ | refine sp16 ?_ | refine sp17 ?_ | refine sp18 ?_ | refine sp19 ?_ | refine sp22 ?_ | refine sp23 ?_ | refine sp24 ?_)) | ((with_reducible show wpAny _ _ (exec (Stmt.For (Expr.Name _ _) _ _ [] _) _) _ _ _); (with_unfolding_all refine' for_at ?F ?k1 ?k2 ?_ ?k3 ?k4; (case F => k_asm); (case k1 => exact rfl); (case k2 => exact rfl); (case k3 => intro _; rfl); (case k4 => assumption); k_whole)) | walk1 | (dsimp only; walk1) | (leave1; walk_say "STEP leave1"; try dsimp only) | fail "no step"))
    rename News h₀ L _ _ => N10
    rw [List.size_toArray, hia.length, List.take_length] at hys
    refine hret D9 ys _ ss (fun q hq e => ?_) hys (by rw [← vals_keys]; exact hperm) hsrt _ _ (by k_asm) (news_sub N10 (List.forall_mem_cons.mpr ⟨.head _, fun q hq => .tail _ (.tail _ (.tail _ hq))⟩))
    have h1 : ∀ {l : List (Addr × Obj)}, LCg.Off1 D9 l → ∀ q ∈ l, q.1 ≠ D9 := by
      intro l
      induction l with
      | nil => intro _ q hq; exact nomatch hq
      | cons a r ih =>
        intro h q hq
        rcases List.mem_cons.mp hq with rfl | hq
        · exact h.1
        · exact ih h.2 q hq
    exact h1 off9 q (.tail _ (.tail _ hq)) e
end
end
section
section
open PySem.Spec PySem.SeqAt
theorem canLay_strs : ∀ ss : List Str, (∀ x ∈ ss, PyData.strOk x = true) → PyData.canLayAll0 (ss.map PyData.str) = true
  | [], _ => rfl
  | x :: r, h => by simp [PyData.canLayAll0, PyData.canLay0, canLay_strs r fun y hy => h y (.tail _ hy), h x (.head _)]
theorem depth_strs : ∀ ss : List Str, PyData.depthAll (ss.map PyData.str) = 0
  | [] => rfl
  | _ :: r => by simp [PyData.depthAll, PyData.depth, depth_strs r]
theorem shaped_strs (ss : List Str) (h : ∀ x ∈ ss, PyData.strOk x = true) : shaped (.list (ss.map PyData.str)) = true := by
  simp [shaped, PyData.canLay0, PyData.depth, canLay_strs ss h, depth_strs]
theorem words_ok : ∀ x ∈ words41, PyData.strOk x = true := by
  have h : words41.all PyData.strOk = true := by decide +kernel
  exact List.all_eq_true.mp h
theorem words_length : words41.length = 41 := by decide +kernel
theorem words_nodup : words41.Nodup := by decide +kernel
theorem nodup_sub_length {α : Type} [DecidableEq α] : ∀ {a b : List α}, a.Nodup → (∀ x ∈ a, x ∈ b) → a.length ≤ b.length
  | [], _, _, _ => Nat.zero_le _
  | x :: r, b, hn, hs => by
    have h1 := List.nodup_cons.mp hn
    have hx := hs x (.head _)
    have h2 : r.length ≤ (b.erase x).length := nodup_sub_length h1.2 fun y hy => (List.mem_erase_of_ne (fun e : y = x => h1.1 (e ▸ hy))).mpr (hs y (.tail _ hy))
    rw [List.length_erase_of_mem hx] at h2
    have h3 : 0 < b.length := List.length_pos_of_mem hx
    rw [List.length_cons]; (first | lia | omega)
def Okay (S : List (Str × Bool)) : Prop := (S.map (·.1)).Nodup ∧ ∀ k ∈ S.map (·.1), k ∈ words41
theorem Okay.length {S : List (Str × Bool)} (h : Okay S) : S.length ≤ 41 := by
  have := nodup_sub_length h.1 h.2
  rw [List.length_map, words_length] at this; exact this
theorem Okay.ok {S : List (Str × Bool)} (h : Okay S) : ∀ x ∈ S.map (·.1), PyData.strOk x = true := fun x hx => words_ok x (h.2 x hx)
theorem eqv_strs : ∀ ss ts : List Str, PyData.eqvAll (ss.map PyData.str) (ts.map PyData.str) = decide (ss = ts)
  | [], [] => by simp [PyData.eqvAll]
  | [], _ :: _ => by simp [PyData.eqvAll]
  | _ :: _, [] => by simp [PyData.eqvAll]
  | a :: r, b :: t => by
    simp only [List.map_cons, PyData.eqvAll, PyData.eqv, eqv_strs r t]
    by_cases h : a = b <;> by_cases h' : r = t <;> simp [h, h']
theorem carried_strs : ∀ {vs : List Value} {ss : List Str}, StrsAre vs ss → CarriedAll vs (ss.map PyData.str)
  | _, _, .nil => .nil
  | _, _, .cons _ t r => .cons (.str _ t) (carried_strs r)
section
variable {prog : Program} {w : World} {A : Around} {E : Value → Shared → Prop} {s : Shared} {a b : Addr} {xs ys : List Value} {ss ts : List Str} {Q : Value → Shared → Prop}
theorem eq_strs_lists (ha : s.heap.IsList a xs.toArray) (hb : s.heap.IsList b ys.toArray) (hi : StrsAre xs ss) (hj : StrsAre ys ts) (h1 : ∀ x ∈ ss, PyData.strOk x = true) (h2 : ∀ x ∈ ts, PyData.strOk x = true) (hu : A.units + 64 < cLine) (h : Q (.bool (decide (ss = ts))) s) :
    wpAny (model prog w) A (compareOp .Eq (.ref a) (.ref b)) Q E s :=
  eq_dataH (reads_newData ha (carried_strs hi)) (reads_newData hb (carried_strs hj)) (shaped_strs _ h1) (shaped_strs _ h2) hu (by rw [PyData.eqv, eqv_strs]; exact h)
theorem ne_strs_lists (ha : s.heap.IsList a xs.toArray) (hb : s.heap.IsList b ys.toArray) (hi : StrsAre xs ss) (hj : StrsAre ys ts) (h1 : ∀ x ∈ ss, PyData.strOk x = true) (h2 : ∀ x ∈ ts, PyData.strOk x = true) (hu : A.units + 64 < cLine) (h : Q (.bool (!decide (ss = ts))) s) :
    wpAny (model prog w) A (compareOp .NotEq (.ref a) (.ref b)) Q E s :=
  ne_dataH (reads_newData ha (carried_strs hi)) (reads_newData hb (carried_strs hj)) (shaped_strs _ h1) (shaped_strs _ h2) hu (by rw [PyData.eqv, eqv_strs]; exact h)
end
end
theorem nodup_of_dict {K : Type} [DecidableEq K] {prog : Program} {w : World} {knd : KeyKind prog w K} {o : Obj} {S : List (K × Bool)} (h : o.IsDictOf knd (vals S)) : (S.map (·.1)).Nodup := by
  obtain ⟨_, _, _, _, _, _, hn⟩ := h
  rw [← vals_keys]; exact hn
theorem onB_key {S : List (Str × Bool)} {k : Str} (h : onB S k = true) : k ∈ S.map (·.1) := by
  unfold onB at h
  refine Classical.byContradiction fun hn => ?_
  rw [(getB_none_iff S k).mpr hn] at h
  exact absurd h (by decide)
theorem on_lists {S T : List (Str × Bool)} {ss ts : List Str} (hnS : (S.map (·.1)).Nodup) (hnT : (T.map (·.1)).Nodup) (hp : ss.Perm (S.map (·.1))) (hq : ts.Perm (T.map (·.1))) (hs : sortedS ss = true) (ht : sortedS ts = true) :
    ss.filter (onB S) = ts.filter (onB T) ↔ ∀ k, onB S k = onB T k := by
  have mS : ∀ k, k ∈ ss.filter (onB S) ↔ onB S k = true := fun k => by
    rw [List.mem_filter, hp.mem_iff]
    exact ⟨fun h => h.2, fun h => ⟨onB_key h, h⟩⟩
  have mT : ∀ k, k ∈ ts.filter (onB T) ↔ onB T k = true := fun k => by
    rw [List.mem_filter, hq.mem_iff]
    exact ⟨fun h => h.2, fun h => ⟨onB_key h, h⟩⟩
  constructor
  · intro e k
    have h1 := mS k
    have h2 := mT k
    rw [e] at h1
    have h3 := h1.symm.trans h2
    cases x : onB S k <;> cases y : onB T k <;> simp [x, y] at h3 ⊢
  · intro e
    refine sorted_unique ?_ (sortedS_filter _ hs) (sortedS_filter _ ht)
    refine (List.perm_ext_iff_of_nodup ((hp.nodup_iff.mpr hnS).filter _) ((hq.nodup_iff.mpr hnT).filter _)).mpr fun k => ?_
    rw [mS, mT, e]
end
section
section
variable {w : World} {p : Program} {loose : List Str} {mean : ExcName → Option Value} {mg mb : Str → Option Value}
theorem c_same {x dx dS dK x' dx' dS' dK' : Addr} {t1 t2 t1' t2' : Tok} {n n' : Nat} {oS oS' : Obj} {S S' : List (Str × Bool)} (hS0 : Okay S) (hS0' : Okay S') :
    Con w p loose mean mg mb 114 12 [.ref x, .ref x']
     (fun news G => (x, instObj 77 dx) ∈ news → (dx, mdDict w t1 t2 n dS dK) ∈ news → (dS, oS) ∈ news → oS.IsDictOf (strKind PG w) (vals S) → (dS == sysModules) = false → (x', instObj 77 dx') ∈ news → (dx', mdDict w t1' t2' n' dS' dK') ∈ news → (dS', oS') ∈ news → oS'.IsDictOf (strKind PG w) (vals S') → (dS' == sysModules) = false → G)
     (fun news P => ∀ b, (b = true ↔ ∀ k, onB S k = onB S' k) → P (.bool b) news) := by
  unfold Con
  intro A env outer A₀ base h₀ L m news hp0 G0 Dr0 tk0 O0 Q E hA hf hke B F X N T hd hu hx hdx hdS hS hlo hx' hdx' hdS' hS' hlo' hret
  refine wpAny_call ?_
  k_dflt (refine' code_defG (binds := [(Str.ofString "one", .ref x), (Str.ofString "other", .ref x')]) ?k1 ?k2 ?k3 ?k4 ?k5 ?kA ?kF ?kK ?k6 ?k7 ?kd ?ku ?k9 ?kB ?_ ?c2 ?c3 ?c4 ?c5; (case kA => assumption); (case kF => assumption); (case kK => assumption); (case k1 => k_asm); (case k2 => k_asm); (case k3 => k_asm); (case k4 => k_asm); (case k5 => k_asm); (case k6 => k_is); (case k7 => k_is); (case kd => assumption); (case ku => assumption); (case k9 => exact BindsTo.of_eq rfl); (case c5 => decide); (case kB => exact locs rfl); (case c2 => exact rfl); (case c3 => exact rfl); (case c4 => exact rfl); k_whole; intro A1 g' L' h' tk' Q1 E1 hA1 hd1 hu1 FG' F' N' B' X' T' H1 P1; (try dsimp only))
  (repeat' (first | (k_unfold; (try dsimp only)) | ((first | (with_reducible refine Then.next ?_) | (with_reducible refine Then.ret ?_) | (with_reducible refine Joined.next ?_) | (with_reducible refine Joined.ret ?_) | (with_reducible refine HidV.get (by with_reducible assumption) _ _ ?_) | (with_reducible refine Hdn.get (by with_reducible assumption) ?_) | (with_reducible refine TurnEnd.toRet ?_)); (try dsimp only)) | (k_end; wrow_close) | ((with_reducible refine hide_turn ?_); intro Q1 H1) | (with_reducible refine exec_hid ?_) | (with_reducible (first | refine sp1 ?_ | refine sp2 ?_ | refine sp3 ?_ | refine sp4 ?_ | refine sp5 ?_ | refine sp6 ?_ | refine sp7 ?_ | refine sp8 ?_ | refine sp9 ?_ | refine sp10 ?_ | refine sp11 ?_ | refine sp12 ?_ | refine sp13 ?_ | refine sp14 ?_ | refine sp15 ?_ | refine sp16 ?_ | refine sp17 ?_ | refine sp18 ?_ | refine sp19 ?_ | refine sp22 ?_ | refine sp23 ?_ | refine sp24 ?_)) | ((with_reducible show wpAny _ _ (exec (Stmt.For (Expr.Name _ _) _ _ [] _) _) _ _ _); (with_unfolding_all refine' for_at ?F ?k1 ?k2 ?_ ?k3 ?k4; (case F => k_asm); (case k1 => exact rfl); (case k2 => exact rfl); (case k3 => intro _; rfl); (case k4 => assumption); k_whole)) | walk1 | (dsimp only; walk1) | (leave1; walk_say "STEP leave1"; try dsimp only) | fail "no step"))
  refine Stop.go ?_
  have l1 := hS0.length
  have l2 := hS0'.length
  k_dflt (refine' (c_on) _ _ _ _ _ _ _ _ _ _ _ _ _ _ _ _ ?kA ?kF ?kK ?k1 ?k2 ?k3 ?k4 ?k5 ?kd ?ku ?p0 ?p1 ?p2 ?p3 ?p4 ?p5 ?_; (case kA => assumption); (case kF => exact rfl); (case kK => exact rfl); (case k1 => k_asm); (case k2 => k_asm); (case k3 => k_asm); (case k4 => k_asm); (case k5 => k_asm); (case p0 => exact hx); (case p1 => exact hdx); (case p2 => exact hdS); (case p3 => exact hS); (case p4 => exact hlo); (case p5 => exact Nat.lt_of_le_of_lt (by assumption) (by decide)); (case kd => exact room (by assumption) (by decide)); (case ku => exact room (by assumption) (by decide)); intro D vs k ss ne1 hia hperm hsrt h2 tk2 F2 N2)
  (try dsimp only)
  (repeat' (first | (k_unfold; (try dsimp only)) | ((first | (with_reducible refine Then.next ?_) | (with_reducible refine Then.ret ?_) | (with_reducible refine Joined.next ?_) | (with_reducible refine Joined.ret ?_) | (with_reducible refine HidV.get (by with_reducible assumption) _ _ ?_) | (with_reducible refine Hdn.get (by with_reducible assumption) ?_) | (with_reducible refine TurnEnd.toRet ?_)); (try dsimp only)) | (k_end; wrow_close) | ((with_reducible refine hide_turn ?_); intro Q1 H1) | (with_reducible refine exec_hid ?_) | (with_reducible (first | refine sp1 ?_ | refine sp2 ?_ | refine sp3 ?_ | refine sp4 ?_ | refine sp5 ?_ | refine sp6 ?_ | refine sp7 ?_ | refine sp8 ?_ | refine sp9 ?_ | refine sp10 ?_ | refine sp11 ?_ | refine sp12 ?_ | refine sp13 ?_ | refine sp14 ?_ | refine sp15 ?_ | refine sp16 ?_ | refine sp17 ?_ | refine sp18 ?_ | refine sp19 ?_ | refine sp22 ?_ | refine sp23 ?_ | refine sp24 ?_)) | ((with_reducible show wpAny _ _ (exec (Stmt.For (Expr.Name _ _) _ _ [] _) _) _ _ _); (with_unfolding_all refine' for_at ?F ?k1 ?k2 ?_ ?k3 ?k4; (case F => k_asm); (case k1 => exact rfl); (case k2 => exact rfl); (case k3 => intro _; rfl); (case k4 => assumption); k_whole)) | walk1 | (dsimp only; walk1) | (leave1; walk_say "STEP leave1"; try dsimp only) | fail "no step"))
  refine Stop.go ?_
  k_dflt (refine' (c_on (S := S')) _ _ _ _ _ _ _ _ _ _ _ _ _ _ _ _ ?kA ?kF ?kK ?k1 ?k2 ?k3 ?k4 ?k5 ?kd ?ku ?p0 ?p1 ?p2 ?p3 ?p4 ?p5 ?_; (case kA => assumption); (case kF => exact rfl); (case kK => exact rfl); (case k1 => k_asm); (case k2 => k_asm); (case k3 => k_asm); (case k4 => k_asm); (case k5 => k_asm); (case p0 => k_mem); (case p1 => k_mem); (case p2 => k_mem); (case p3 => exact hS'); (case p4 => exact hlo'); (case p5 => exact Nat.lt_of_le_of_lt (by assumption) (by decide)); (case kd => exact room (by assumption) (by decide)); (case ku => exact room (by assumption) (by decide)); intro D' vs' k' ss' ne1' hia' hperm' hsrt' h3 tk3 F3 N3)
  (try dsimp only)
  (repeat' (first | (k_unfold; (try dsimp only)) | ((first | (with_reducible refine Then.next ?_) | (with_reducible refine Then.ret ?_) | (with_reducible refine Joined.next ?_) | (with_reducible refine Joined.ret ?_) | (with_reducible refine HidV.get (by with_reducible assumption) _ _ ?_) | (with_reducible refine Hdn.get (by with_reducible assumption) ?_) | (with_reducible refine TurnEnd.toRet ?_)); (try dsimp only)) | (k_end; wrow_close) | ((with_reducible refine hide_turn ?_); intro Q1 H1) | (with_reducible refine exec_hid ?_) | (with_reducible (first | refine sp1 ?_ | refine sp2 ?_ | refine sp3 ?_ | refine sp4 ?_ | refine sp5 ?_ | refine sp6 ?_ | refine sp7 ?_ | refine sp8 ?_ | refine sp9 ?_ | refine sp10 ?_ | refine sp11 ?_ | refine sp12 ?_ | refine sp13 ?_ | refine sp14 ?_ | refine sp15 ?_ | refine sp16 ?_ | refine sp17 ?_ | refine sp18 ?_ | refine sp19 ?_ | refine sp22 ?_ | refine sp23 ?_ | refine sp24 ?_)) | ((with_reducible show wpAny _ _ (exec (Stmt.For (Expr.Name _ _) _ _ [] _) _) _ _ _); (with_unfolding_all refine' for_at ?F ?k1 ?k2 ?_ ?k3 ?k4; (case F => k_asm); (case k1 => exact rfl); (case k2 => exact rfl); (case k3 => intro _; rfl); (case k4 => assumption); k_whole)) | walk1 | (dsimp only; walk1) | (leave1; walk_say "STEP leave1"; try dsimp only) | fail "no step"))
  have z1 := N3 _ (.head _)
  have z2 := N3 _ (.tail _ (.head _))
  refine eq_strs_lists ⟨_, z2.1, rfl, _, rfl⟩ ⟨_, z1.1, rfl, _, rfl⟩ hia hia' (fun y hy => hS0.ok y (hperm.mem_iff.mp (List.mem_filter.mp hy).1)) (fun y hy => hS0'.ok y (hperm'.mem_iff.mp (List.mem_filter.mp hy).1)) (by exact room (by assumption) (by decide)) ?_
  (repeat' (first | (k_unfold; (try dsimp only)) | ((first | (with_reducible refine Then.next ?_) | (with_reducible refine Then.ret ?_) | (with_reducible refine Joined.next ?_) | (with_reducible refine Joined.ret ?_) | (with_reducible refine HidV.get (by with_reducible assumption) _ _ ?_) | (with_reducible refine Hdn.get (by with_reducible assumption) ?_) | (with_reducible refine TurnEnd.toRet ?_)); (try dsimp only)) | (k_end; wrow_close) | ((with_reducible refine hide_turn ?_); intro Q1 H1) | (with_reducible refine exec_hid ?_) | (with_reducible (first | refine sp1 ?_ | refine sp2 ?_ | refine sp3 ?_ | refine sp4 ?_ | refine sp5 ?_ | refine sp6 ?_ | refine sp7 ?_ | refine sp8 ?_ | refine sp9 ?_ | refine sp10 ?_ | refine sp11 ?_ | refine sp12 ?_ | refine sp13 ?_ | refine sp14 ?_ | refine sp15 ?_ | refine sp16 ?_ | refine sp17 ?_ | refine sp18 ?_ | refine sp19 ?_ | refine sp22 ?_ | refine sp23 ?_ | refine sp24 ?_)) | ((with_reducible show wpAny _ _ (exec (Stmt.For (Expr.Name _ _) _ _ [] _) _) _ _ _); (with_unfolding_all refine' for_at ?F ?k1 ?k2 ?_ ?k3 ?k4; (case F => k_asm); (case k1 => exact rfl); (case k2 => exact rfl); (case k3 => intro _; rfl); (case k4 => assumption); k_whole)) | walk1 | (dsimp only; walk1) | (leave1; walk_say "STEP leave1"; try dsimp only) | fail "no step"))
  rename News h₀ L _ _ => N9
  refine hret _ ?_ _ _ (by k_asm) (news_sub N9 fun q hq => .tail _ (.tail _ hq))
  rw [decide_eq_true_eq]
  exact on_lists hS0.1 hS0'.1 hperm hperm' hsrt hsrt'
end
end
section
section
variable {prog : Program} {w : World} {A : Around} {E : Value → Shared → Prop} {s : Shared} {h₀ : Heap} {L d : Addr} {m : Str → Option Value} {news : List (Addr × Obj)} {o : Obj}
theorem dict_copy {K : Type} [DecidableEq K] {knd : KeyKind prog w K} {kvs : List (K × Value)} {Q : Value → Shared → Prop} (F : Fr h₀ L s.heap m) (N : News h₀ L s.heap news) (hbig : h₀.NoLimit) (hm : (d, o) ∈ news) (hd : o.IsDictOf knd kvs) (lo : (d == sysModules) = false) (hsz : kvs.length ≤ sizeLine)
    (k : ∀ D h' o', Fr h₀ L h' m → News h₀ L h' ((D, o') :: news) → (∀ q ∈ news, q.1 < D) → (D == sysModules) = false → o'.IsDictOf knd kvs → Q (.ref D) { s with heap := h' }) :
    wpAny (model prog w) A (call (.type "dict") [.ref d]) Q E s := by
  refine PySem.kt_call_dict lo (kda_dict N hm hd) hsz fun h' hm' hs => ?_
  obtain ⟨o', ho', hd'⟩ := Heap.dictOf_iff.mp hm'
  have N1 := News.push F N { cls := .type "dict", data := .dict #[] }
  exact k _ h' o' ((F.push _).change hs (N1 _ (.head _)).2.1 (N1.fresh (.head _))) (N1.setHead N.apart hs ho') (fun q hq => Heap.lt_size (N q hq).1) (F.notModules (modules_low hbig)) hd'
end
section
variable {w : World} {p : Program} {loose : List Str} {mean : ExcName → Option Value} {mg mb : Str → Option Value}
theorem c_copy {x dx dS dK : Addr} {t1 t2 : Tok} {n : Nat} {oS oK : Obj} {S K : List (Str × Bool)} (hS0 : S.length ≤ 1000) (hK0 : K.length ≤ 1000) :
    Con w p loose mean mg mb 121 4 [.ref x]
     (fun news G => (x, instObj 77 dx) ∈ news → (dx, mdDict w t1 t2 n dS dK) ∈ news → (dS, oS) ∈ news → oS.IsDictOf (strKind PG w) (vals S) → (dS == sysModules) = false → (dK, oK) ∈ news → oK.IsDictOf (strKind PG w) (vals K) → (dK == sysModules) = false → G)
     (fun news P => ∀ x' dx' dS' dK' t1' t2' oS' oK', (∀ q ∈ news, q.1 < dx') → @LT.lt Nat _ dx' x' → @LT.lt Nat _ x' dS' → @LT.lt Nat _ dS' dK' → (dS' == sysModules) = false → (dK' == sysModules) = false → oS'.IsDictOf (strKind PG w) (vals S) → oK'.IsDictOf (strKind PG w) (vals K) → P (.ref x') ((dK', oK') :: (dS', oS') :: (x', instObj 77 dx') :: (dx', mdDict w t1' t2' 2 dS' dK') :: news)) := by
  unfold Con
  intro A env outer A₀ base h₀ L m news hp0 G0 Dr0 tk0 O0 Q E hA hf hke B F X N T hd hu hx hdx hdS hS hloS hdK hK hloK hret
  refine wpAny_call ?_
  k_dflt (refine' code_defG (binds := [(Str.ofString "modes", .ref x)]) ?k1 ?k2 ?k3 ?k4 ?k5 ?kA ?kF ?kK ?k6 ?k7 ?kd ?ku ?k9 ?kB ?_ ?c2 ?c3 ?c4 ?c5; (case kA => assumption); (case kF => assumption); (case kK => assumption); (case k1 => k_asm); (case k2 => k_asm); (case k3 => k_asm); (case k4 => k_asm); (case k5 => k_asm); (case k6 => k_is); (case k7 => k_is); (case kd => assumption); (case ku => assumption); (case k9 => exact BindsTo.of_eq rfl); (case c5 => decide); (case kB => exact locs rfl); (case c2 => exact rfl); (case c3 => exact rfl); (case c4 => exact rfl); k_whole; intro A1 g' L' h' tk' Q1 E1 hA1 hd1 hu1 FG' F' N' B' X' T' H1 P1; (try dsimp only))
  (repeat' (first | (k_unfold; (try dsimp only)) | ((first | (with_reducible refine Then.next ?_) | (with_reducible refine Then.ret ?_) | (with_reducible refine Joined.next ?_) | (with_reducible refine Joined.ret ?_) | (with_reducible refine HidV.get (by with_reducible assumption) _ _ ?_) | (with_reducible refine Hdn.get (by with_reducible assumption) ?_) | (with_reducible refine TurnEnd.toRet ?_)); (try dsimp only)) | (k_end; wrow_close) | ((with_reducible refine hide_turn ?_); intro Q1 H1) | (with_reducible refine exec_hid ?_) | (with_reducible (first | refine sp1 ?_ | refine sp2 ?_ | refine sp3 ?_ | refine sp4 ?_ | refine sp5 ?_ | refine sp6 ?_ | refine sp7 ?_ | refine sp8 ?_ | refine sp9 ?_ | refine sp10 ?_ | refine sp11 ?_ | refine sp12 ?_ | refine sp13 ?_ | refine sp14 ?_ | refine sp15 ?_ | refine sp16 ?_ | refine sp17 ?_ | refine sp18 ?_ | refine sp19 ?_ | refine sp22 ?_ | refine sp23 ?_ | refine sp24 ?_)) | ((with_reducible show wpAny _ _ (exec (Stmt.For (Expr.Name _ _) _ _ [] _) _) _ _ _); (with_unfolding_all refine' for_at ?F ?k1 ?k2 ?_ ?k3 ?k4; (case F => k_asm); (case k1 => exact rfl); (case k2 => exact rfl); (case k3 => intro _; rfl); (case k4 => assumption); k_whole)) | walk1 | (dsimp only; walk1) | (leave1; walk_say "STEP leave1"; try dsimp only) | fail "no step"))
  refine Stop.go ?_
  k_dflt (refine' (c_new) _ _ _ _ _ _ _ _ _ _ _ _ _ _ _ _ ?kA ?kF ?kK ?k1 ?k2 ?k3 ?k4 ?k5 ?kd ?ku  ?_; (case kA => assumption); (case kF => exact rfl); (case kK => exact rfl); (case k1 => k_asm); (case k2 => k_asm); (case k3 => k_asm); (case k4 => k_asm); (case k5 => k_asm);  (case kd => exact room (by assumption) (by decide)); (case ku => exact room (by assumption) (by decide)); intro x' dx' dS0 dK0 t1' t2' oS0 oK0 l1 l2 l3 l4 lo1 lo2 hS1 hK1 h2 tk2 F2 N2)
  (try dsimp only)
  (repeat' (first | (k_unfold; (try dsimp only)) | ((first | (with_reducible refine Then.next ?_) | (with_reducible refine Then.ret ?_) | (with_reducible refine Joined.next ?_) | (with_reducible refine Joined.ret ?_) | (with_reducible refine HidV.get (by with_reducible assumption) _ _ ?_) | (with_reducible refine Hdn.get (by with_reducible assumption) ?_) | (with_reducible refine TurnEnd.toRet ?_)); (try dsimp only)) | (k_end; wrow_close) | ((with_reducible refine hide_turn ?_); intro Q1 H1) | (with_reducible refine exec_hid ?_) | (with_reducible (first | refine sp1 ?_ | refine sp2 ?_ | refine sp3 ?_ | refine sp4 ?_ | refine sp5 ?_ | refine sp6 ?_ | refine sp7 ?_ | refine sp8 ?_ | refine sp9 ?_ | refine sp10 ?_ | refine sp11 ?_ | refine sp12 ?_ | refine sp13 ?_ | refine sp14 ?_ | refine sp15 ?_ | refine sp16 ?_ | refine sp17 ?_ | refine sp18 ?_ | refine sp19 ?_ | refine sp22 ?_ | refine sp23 ?_ | refine sp24 ?_)) | ((with_reducible show wpAny _ _ (exec (Stmt.For (Expr.Name _ _) _ _ [] _) _) _ _ _); (with_unfolding_all refine' for_at ?F ?k1 ?k2 ?_ ?k3 ?k4; (case F => k_asm); (case k1 => exact rfl); (case k2 => exact rfl); (case k3 => intro _; rfl); (case k4 => assumption); k_whole)) | walk1 | (dsimp only; walk1) | (leave1; walk_say "STEP leave1"; try dsimp only) | fail "no step"))
  refine Stop.go ?_
  rename News g' _ _ _ => N3
  rename Fr g' _ _ _ => F3
  refine dict_copy (knd := strKind _ _) F3 N3 (Top.nolimit (by k_asm)) (by k_mem) hS hloS (size_vals (by (first | exact Nat.le_trans (by assumption) (by decide) | exact Nat.lt_of_le_of_lt (by assumption) (by decide) | omega))) ?_
  intro dS' h4 oS' F4 N4 lt4 lo4 hd4
  refine hide_goal (fun Hq => ?_)
  rw [List.forall_mem_cons, List.forall_mem_cons, List.forall_mem_cons, List.forall_mem_cons] at lt4
  obtain ⟨a1, a2, a3, a4, lt4⟩ := lt4
  replace a1 := ltN a1
  replace a2 := ltN a2
  replace a3 := ltN a3
  replace a4 := ltN a4
  (try dsimp only at a1 a2 a3 a4)
  (try dsimp only)
  (repeat' (first | (k_unfold; (try dsimp only)) | ((first | (with_reducible refine Then.next ?_) | (with_reducible refine Then.ret ?_) | (with_reducible refine Joined.next ?_) | (with_reducible refine Joined.ret ?_) | (with_reducible refine HidV.get (by with_reducible assumption) _ _ ?_) | (with_reducible refine Hdn.get (by with_reducible assumption) ?_) | (with_reducible refine TurnEnd.toRet ?_)); (try dsimp only)) | (k_end; wrow_close) | ((with_reducible refine hide_turn ?_); intro Q1 H1) | (with_reducible refine exec_hid ?_) | (with_reducible (first | refine sp1 ?_ | refine sp2 ?_ | refine sp3 ?_ | refine sp4 ?_ | refine sp5 ?_ | refine sp6 ?_ | refine sp7 ?_ | refine sp8 ?_ | refine sp9 ?_ | refine sp10 ?_ | refine sp11 ?_ | refine sp12 ?_ | refine sp13 ?_ | refine sp14 ?_ | refine sp15 ?_ | refine sp16 ?_ | refine sp17 ?_ | refine sp18 ?_ | refine sp19 ?_ | refine sp22 ?_ | refine sp23 ?_ | refine sp24 ?_)) | ((with_reducible show wpAny _ _ (exec (Stmt.For (Expr.Name _ _) _ _ [] _) _) _ _ _); (with_unfolding_all refine' for_at ?F ?k1 ?k2 ?_ ?k3 ?k4; (case F => k_asm); (case k1 => exact rfl); (case k2 => exact rfl); (case k3 => intro _; rfl); (case k4 => assumption); k_whole)) | walk1 | (dsimp only; walk1) | (leave1; walk_say "STEP leave1"; try dsimp only) | fail "no step"))
  rename News g' _ _ _ => N5
  rename Fr g' _ _ _ => F5
  refine Stop.go ?_
  refine dict_copy (knd := strKind _ _) F5 N5 (Top.nolimit (by k_asm)) (by k_mem) hK hloK (size_vals (by (first | exact Nat.le_trans (by assumption) (by decide) | exact Nat.lt_of_le_of_lt (by assumption) (by decide) | omega))) ?_
  intro dK' h6 oK' F6 N6 lt6 lo6 hd6
  refine hide_goal (fun Hq => ?_)
  rw [List.forall_mem_cons, List.forall_mem_cons, List.forall_mem_cons, List.forall_mem_cons, List.forall_mem_cons] at lt6
  obtain ⟨b0, b1, b2, b3, b4, lt6⟩ := lt6
  replace b0 := ltN b0
  replace b3 := ltN b3
  replace b4 := ltN b4
  (try dsimp only at b0 b3 b4)
  (try dsimp only)
  (repeat' (first | (k_unfold; (try dsimp only)) | ((first | (with_reducible refine Then.next ?_) | (with_reducible refine Then.ret ?_) | (with_reducible refine Joined.next ?_) | (with_reducible refine Joined.ret ?_) | (with_reducible refine HidV.get (by with_reducible assumption) _ _ ?_) | (with_reducible refine Hdn.get (by with_reducible assumption) ?_) | (with_reducible refine TurnEnd.toRet ?_)); (try dsimp only)) | (k_end; wrow_close) | ((with_reducible refine hide_turn ?_); intro Q1 H1) | (with_reducible refine exec_hid ?_) | (with_reducible (first | refine sp1 ?_ | refine sp2 ?_ | refine sp3 ?_ | refine sp4 ?_ | refine sp5 ?_ | refine sp6 ?_ | refine sp7 ?_ | refine sp8 ?_ | refine sp9 ?_ | refine sp10 ?_ | refine sp11 ?_ | refine sp12 ?_ | refine sp13 ?_ | refine sp14 ?_ | refine sp15 ?_ | refine sp16 ?_ | refine sp17 ?_ | refine sp18 ?_ | refine sp19 ?_ | refine sp22 ?_ | refine sp23 ?_ | refine sp24 ?_)) | ((with_reducible show wpAny _ _ (exec (Stmt.For (Expr.Name _ _) _ _ [] _) _) _ _ _); (with_unfolding_all refine' for_at ?F ?k1 ?k2 ?_ ?k3 ?k4; (case F => k_asm); (case k1 => exact rfl); (case k2 => exact rfl); (case k3 => intro _; rfl); (case k4 => assumption); k_whole)) | walk1 | (dsimp only; walk1) | (leave1; walk_say "STEP leave1"; try dsimp only) | fail "no step"))
  rename News h₀ L _ _ => N9
  refine hret x' dx' dS' dK' t1' t2' oS' oK' l1 l2 a3 b0 lo4 lo6 hd4 hd6 _ _ (by k_asm) (news_sub N9 ?_)
  refine List.forall_mem_cons.mpr ⟨by k_mem, List.forall_mem_cons.mpr ⟨by k_mem, List.forall_mem_cons.mpr ⟨by k_mem, List.forall_mem_cons.mpr ⟨by k_mem, fun q hq => ?_⟩⟩⟩⟩
  exact .tail _ (.tail _ (.tail _ (.tail _ (.tail _ (.tail _ hq)))))
end
end
section
theorem find_take_succ {l : List Str} {i : Nat} {x : Str} {f : Str → Bool} (h : l[i]? = some x) (h1 : ∀ y ∈ l.take i, f y = false) : (f x = true → l.find? f = some x) ∧ (f x = false → ∀ y ∈ l.take (i + 1), f y = false) := by
  constructor
  · intro hx
    have e : l = l.take i ++ x :: l.drop (i + 1) := by
      have hi : i < l.length := by
        rcases Nat.lt_or_ge i l.length with q | q
        · exact q
        · rw [List.getElem?_eq_none q] at h; cases h
      have hg : l[i] = x := by rw [List.getElem?_eq_getElem hi] at h; exact Option.some.inj h
      rw [← hg, ← List.drop_eq_getElem_cons hi, List.take_append_drop]
    rw [e, List.find?_append, List.find?_eq_none.mpr (fun y hy => by rw [h1 y hy]; decide), Option.none_or, List.find?_cons_of_pos hx]
  · intro hx y hy
    rw [List.take_add_one, h] at hy
    rcases List.mem_append.mp hy with q | q
    · exact h1 y q
    · simp at q; rw [q]; exact hx
theorem find_none_all {l : List Str} {f : Str → Bool} (h1 : ∀ y ∈ l, f y = false) : l.find? f = none := List.find?_eq_none.mpr (fun y hy => by rw [h1 y hy]; decide)
section
variable {w : World} {p : Program} {loose : List Str} {mean : ExcName → Option Value} {mg mb : Str → Option Value}
theorem c_mouse {x dx dS dK : Addr} {t1 t2 : Tok} {n : Nat} {oS : Obj} {S : List (Str × Bool)} :
    Con w p loose mean mg mb 128 3 [.ref x]
     (fun news G => (x, instObj 77 dx) ∈ news → (dx, mdDict w t1 t2 n dS dK) ∈ news → (dS, oS) ∈ news → oS.IsDictOf (strKind PG w) (vals S) → (dS == sysModules) = false → G)
     (fun news P => ∀ r, StrOpt r (MM.find? (onB S)) → P r news) := by
  unfold Con
  intro A env outer A₀ base h₀ L m news hp0 G0 Dr0 tk0 O0 Q E hA hf hke B F X N T hd hu hx hdx hdS hS hlo hret
  refine wpAny_call ?_
  k_dflt (refine' code_defG (binds := [(Str.ofString "modes", .ref x)]) ?k1 ?k2 ?k3 ?k4 ?k5 ?kA ?kF ?kK ?k6 ?k7 ?kd ?ku ?k9 ?kB ?_ ?c2 ?c3 ?c4 ?c5; (case kA => assumption); (case kF => assumption); (case kK => assumption); (case k1 => k_asm); (case k2 => k_asm); (case k3 => k_asm); (case k4 => k_asm); (case k5 => k_asm); (case k6 => k_is); (case k7 => k_is); (case kd => assumption); (case ku => assumption); (case k9 => exact BindsTo.of_eq rfl); (case c5 => decide); (case kB => exact locs rfl); (case c2 => exact rfl); (case c3 => exact rfl); (case c4 => exact rfl); k_whole; intro A1 g' L' h' tk' Q1 E1 hA1 hd1 hu1 FG' F' N' B' X' T' H1 P1; (try dsimp only))
  (repeat' (first | (k_unfold; (try dsimp only)) | ((first | (with_reducible refine Then.next ?_) | (with_reducible refine Then.ret ?_) | (with_reducible refine Joined.next ?_) | (with_reducible refine Joined.ret ?_) | (with_reducible refine HidV.get (by with_reducible assumption) _ _ ?_) | (with_reducible refine Hdn.get (by with_reducible assumption) ?_) | (with_reducible refine TurnEnd.toRet ?_)); (try dsimp only)) | (k_end; wrow_close) | ((with_reducible refine hide_turn ?_); intro Q1 H1) | (with_reducible refine exec_hid ?_) | (with_reducible (first | refine sp1 ?_ | refine sp2 ?_ | refine sp3 ?_ | refine sp4 ?_ | refine sp5 ?_ | refine sp6 ?_ | refine sp7 ?_ | refine sp8 ?_ | refine sp9 ?_ | refine sp10 ?_ | refine sp11 ?_ | refine sp12 ?_ | refine sp13 ?_ | refine sp14 ?_ | refine sp15 ?_ | refine sp16 ?_ | refine sp17 ?_ | refine sp18 ?_ | refine sp19 ?_ | refine sp22 ?_ | refine sp23 ?_ | refine sp24 ?_)) | ((with_reducible show wpAny _ _ (exec (Stmt.For (Expr.Name _ _) _ _ [] _) _) _ _ _); (with_unfolding_all refine' for_at ?F ?k1 ?k2 ?_ ?k3 ?k4; (case F => k_asm); (case k1 => exact rfl); (case k2 => exact rfl); (case k3 => intro _; rfl); (case k4 => assumption); k_whole)) | walk1 | (dsimp only; walk1) | (leave1; walk_say "STEP leave1"; try dsimp only) | fail "no step"))
  rename News g' L' _ _ => N2
  rename Fr g' L' _ _ => F2
  obtain ⟨items, ⟨o18, ho18, hc18, n18, hd18⟩, hi18⟩ := mm_tup (X'.keeps F2.keep)
  refine loop_tuple (vs := items.toList) (fun i m₁ nw => (∀ y, y ≠ Str.ofString "word" → m₁ y = List.lookup y [(Str.ofString "modes", Value.ref x)].reverse) ∧ news = nw ∧ ∀ y ∈ MM.take i, onB S y = false) rfl ⟨o18, ho18, hc18, n18, by simpa using hd18⟩ (low_of F2 (X' 15 _ rfl)) F2 N2 ⟨fun _ _ => rfl, rfl, fun y hy => by simp at hy⟩ ?_ ?_
  · intro I i v m₁ news₁ own h3 tk3 hv hlt hI hown hJ hnI F4 N4
    refine hide_goal (fun Hq => ?_)
    obtain ⟨sw, st, rfl, hs⟩ := strsAt_get hi18 hv
    obtain ⟨e1, rfl, hno⟩ := hJ
    have F5 := fr_in F4 e1
    clear F4
    have hx' := List.mem_append_right own hx
    (repeat' (first | (k_unfold; (try dsimp only)) | ((first | (with_reducible refine Then.next ?_) | (with_reducible refine Then.ret ?_) | (with_reducible refine Joined.next ?_) | (with_reducible refine Joined.ret ?_) | (with_reducible refine HidV.get (by with_reducible assumption) _ _ ?_) | (with_reducible refine Hdn.get (by with_reducible assumption) ?_) | (with_reducible refine TurnEnd.toRet ?_)); (try dsimp only)) | (k_end; wrow_close) | ((with_reducible refine hide_turn ?_); intro Q1 H1) | (with_reducible refine exec_hid ?_) | (with_reducible (first | refine sp1 ?_ | refine sp2 ?_ | refine sp3 ?_ | refine sp4 ?_ | refine sp5 ?_ | refine sp6 ?_ | refine sp7 ?_ | refine sp8 ?_ | refine sp9 ?_ | refine sp10 ?_ | refine sp11 ?_ | refine sp12 ?_ | refine sp13 ?_ | refine sp14 ?_ | refine sp15 ?_ | refine sp16 ?_ | refine sp17 ?_ | refine sp18 ?_ | refine sp19 ?_ | refine sp22 ?_ | refine sp23 ?_ | refine sp24 ?_)) | ((with_reducible show wpAny _ _ (exec (Stmt.For (Expr.Name _ _) _ _ [] _) _) _ _ _); (with_unfolding_all refine' for_at ?F ?k1 ?k2 ?_ ?k3 ?k4; (case F => k_asm); (case k1 => exact rfl); (case k2 => exact rfl); (case k3 => intro _; rfl); (case k4 => assumption); k_whole)) | walk1 | (dsimp only; walk1) | (leave1; walk_say "STEP leave1"; try dsimp only) | fail "no step"))
    refine Stop.go ?_
    k_dflt (refine' (c_isOn (S := S)) _ _ _ _ _ _ _ _ _ _ _ _ _ _ _ _ ?kA ?kF ?kK ?k1 ?k2 ?k3 ?k4 ?k5 ?kd ?ku ?p0 ?p1 ?p2 ?p3 ?p4 ?_; (case kA => assumption); (case kF => exact rfl); (case kK => exact rfl); (case k1 => k_asm); (case k2 => k_asm); (case k3 => k_asm); (case k4 => k_asm); (case k5 => k_asm); (case p0 => k_mem); (case p1 => k_mem); (case p2 => k_mem); (case p3 => exact hS); (case p4 => exact hlo); (case kd => exact room (by assumption) (by decide)); (case ku => exact room (by assumption) (by decide)); intro h6 tk6 F6 N6)
    (try dsimp only)
    (repeat' (first | (k_unfold; (try dsimp only)) | ((first | (with_reducible refine Then.next ?_) | (with_reducible refine Then.ret ?_) | (with_reducible refine Joined.next ?_) | (with_reducible refine Joined.ret ?_) | (with_reducible refine HidV.get (by with_reducible assumption) _ _ ?_) | (with_reducible refine Hdn.get (by with_reducible assumption) ?_) | (with_reducible refine TurnEnd.toRet ?_)); (try dsimp only)) | (k_end; wrow_close) | ((with_reducible refine hide_turn ?_); intro Q1 H1) | (with_reducible refine exec_hid ?_) | (with_reducible (first | refine sp1 ?_ | refine sp2 ?_ | refine sp3 ?_ | refine sp4 ?_ | refine sp5 ?_ | refine sp6 ?_ | refine sp7 ?_ | refine sp8 ?_ | refine sp9 ?_ | refine sp10 ?_ | refine sp11 ?_ | refine sp12 ?_ | refine sp13 ?_ | refine sp14 ?_ | refine sp15 ?_ | refine sp16 ?_ | refine sp17 ?_ | refine sp18 ?_ | refine sp19 ?_ | refine sp22 ?_ | refine sp23 ?_ | refine sp24 ?_)) | ((with_reducible show wpAny _ _ (exec (Stmt.For (Expr.Name _ _) _ _ [] _) _) _ _ _); (with_unfolding_all refine' for_at ?F ?k1 ?k2 ?_ ?k3 ?k4; (case F => k_asm); (case k1 => exact rfl); (case k2 => exact rfl); (case k3 => intro _; rfl); (case k4 => assumption); k_whole)) | walk1 | (dsimp only; walk1) | (leave1; walk_say "STEP leave1"; try dsimp only) | fail "no step"))
    · rename onB S sw = true => hon
      (try dsimp only [TurnEnd])
      (repeat' (first | (k_unfold; (try dsimp only)) | ((first | (with_reducible refine Then.next ?_) | (with_reducible refine Then.ret ?_) | (with_reducible refine Joined.next ?_) | (with_reducible refine Joined.ret ?_) | (with_reducible refine HidV.get (by with_reducible assumption) _ _ ?_) | (with_reducible refine Hdn.get (by with_reducible assumption) ?_) | (with_reducible refine TurnEnd.toRet ?_)); (try dsimp only)) | (k_end; wrow_close) | ((with_reducible refine hide_turn ?_); intro Q1 H1) | (with_reducible refine exec_hid ?_) | (with_reducible (first | refine sp1 ?_ | refine sp2 ?_ | refine sp3 ?_ | refine sp4 ?_ | refine sp5 ?_ | refine sp6 ?_ | refine sp7 ?_ | refine sp8 ?_ | refine sp9 ?_ | refine sp10 ?_ | refine sp11 ?_ | refine sp12 ?_ | refine sp13 ?_ | refine sp14 ?_ | refine sp15 ?_ | refine sp16 ?_ | refine sp17 ?_ | refine sp18 ?_ | refine sp19 ?_ | refine sp22 ?_ | refine sp23 ?_ | refine sp24 ?_)) | ((with_reducible show wpAny _ _ (exec (Stmt.For (Expr.Name _ _) _ _ [] _) _) _ _ _); (with_unfolding_all refine' for_at ?F ?k1 ?k2 ?_ ?k3 ?k4; (case F => k_asm); (case k1 => exact rfl); (case k2 => exact rfl); (case k3 => intro _; rfl); (case k4 => assumption); k_whole)) | walk1 | (dsimp only; walk1) | (leave1; walk_say "STEP leave1"; try dsimp only) | fail "no step"))
      rename News h₀ L _ _ => N11
      refine hret _ (.inr ⟨sw, st, (find_take_succ hs hno).1 hon, rfl⟩) _ _ (by k_asm) (news_sub N11 fun q hq => List.mem_append_right _ hq)
    · rename onB S sw = false => hon
      exact TurnEnd.intro F6 N6 hnI ⟨fun y hy => if_neg hy, rfl, (find_take_succ hs hno).2 hon⟩
  · intro m₁ news₁ h3 tk3 hJ F4 N4
    refine hide_goal (fun Hq => ?_)
    obtain ⟨e1, rfl, hno⟩ := hJ
    rw [hi18.length, List.take_length] at hno
    (try dsimp only)
    (repeat' (first | (k_unfold; (try dsimp only)) | ((first | (with_reducible refine Then.next ?_) | (with_reducible refine Then.ret ?_) | (with_reducible refine Joined.next ?_) | (with_reducible refine Joined.ret ?_) | (with_reducible refine HidV.get (by with_reducible assumption) _ _ ?_) | (with_reducible refine Hdn.get (by with_reducible assumption) ?_) | (with_reducible refine TurnEnd.toRet ?_)); (try dsimp only)) | (k_end; wrow_close) | ((with_reducible refine hide_turn ?_); intro Q1 H1) | (with_reducible refine exec_hid ?_) | (with_reducible (first | refine sp1 ?_ | refine sp2 ?_ | refine sp3 ?_ | refine sp4 ?_ | refine sp5 ?_ | refine sp6 ?_ | refine sp7 ?_ | refine sp8 ?_ | refine sp9 ?_ | refine sp10 ?_ | refine sp11 ?_ | refine sp12 ?_ | refine sp13 ?_ | refine sp14 ?_ | refine sp15 ?_ | refine sp16 ?_ | refine sp17 ?_ | refine sp18 ?_ | refine sp19 ?_ | refine sp22 ?_ | refine sp23 ?_ | refine sp24 ?_)) | ((with_reducible show wpAny _ _ (exec (Stmt.For (Expr.Name _ _) _ _ [] _) _) _ _ _); (with_unfolding_all refine' for_at ?F ?k1 ?k2 ?_ ?k3 ?k4; (case F => k_asm); (case k1 => exact rfl); (case k2 => exact rfl); (case k3 => intro _; rfl); (case k4 => assumption); k_whole)) | walk1 | (dsimp only; walk1) | (leave1; walk_say "STEP leave1"; try dsimp only) | fail "no step"))
    refine hret _ (.inl ⟨find_none_all hno, rfl⟩) _ _ (by k_asm) (by k_asm)
theorem c_enc {x dx dS dK : Addr} {t1 t2 : Tok} {n : Nat} {oS : Obj} {S : List (Str × Bool)} :
    Con w p loose mean mg mb 135 3 [.ref x]
     (fun news G => (x, instObj 77 dx) ∈ news → (dx, mdDict w t1 t2 n dS dK) ∈ news → (dS, oS) ∈ news → oS.IsDictOf (strKind PG w) (vals S) → (dS == sysModules) = false → G)
     (fun news P => ∀ r, StrOpt r (ME.find? (onB S)) → P r news) := by
  unfold Con
  intro A env outer A₀ base h₀ L m news hp0 G0 Dr0 tk0 O0 Q E hA hf hke B F X N T hd hu hx hdx hdS hS hlo hret
  refine wpAny_call ?_
  k_dflt (refine' code_defG (binds := [(Str.ofString "modes", .ref x)]) ?k1 ?k2 ?k3 ?k4 ?k5 ?kA ?kF ?kK ?k6 ?k7 ?kd ?ku ?k9 ?kB ?_ ?c2 ?c3 ?c4 ?c5; (case kA => assumption); (case kF => assumption); (case kK => assumption); (case k1 => k_asm); (case k2 => k_asm); (case k3 => k_asm); (case k4 => k_asm); (case k5 => k_asm); (case k6 => k_is); (case k7 => k_is); (case kd => assumption); (case ku => assumption); (case k9 => exact BindsTo.of_eq rfl); (case c5 => decide); (case kB => exact locs rfl); (case c2 => exact rfl); (case c3 => exact rfl); (case c4 => exact rfl); k_whole; intro A1 g' L' h' tk' Q1 E1 hA1 hd1 hu1 FG' F' N' B' X' T' H1 P1; (try dsimp only))
  (repeat' (first | (k_unfold; (try dsimp only)) | ((first | (with_reducible refine Then.next ?_) | (with_reducible refine Then.ret ?_) | (with_reducible refine Joined.next ?_) | (with_reducible refine Joined.ret ?_) | (with_reducible refine HidV.get (by with_reducible assumption) _ _ ?_) | (with_reducible refine Hdn.get (by with_reducible assumption) ?_) | (with_reducible refine TurnEnd.toRet ?_)); (try dsimp only)) | (k_end; wrow_close) | ((with_reducible refine hide_turn ?_); intro Q1 H1) | (with_reducible refine exec_hid ?_) | (with_reducible (first | refine sp1 ?_ | refine sp2 ?_ | refine sp3 ?_ | refine sp4 ?_ | refine sp5 ?_ | refine sp6 ?_ | refine sp7 ?_ | refine sp8 ?_ | refine sp9 ?_ | refine sp10 ?_ | refine sp11 ?_ | refine sp12 ?_ | refine sp13 ?_ | refine sp14 ?_ | refine sp15 ?_ | refine sp16 ?_ | refine sp17 ?_ | refine sp18 ?_ | refine sp19 ?_ | refine sp22 ?_ | refine sp23 ?_ | refine sp24 ?_)) | ((with_reducible show wpAny _ _ (exec (Stmt.For (Expr.Name _ _) _ _ [] _) _) _ _ _); (with_unfolding_all refine' for_at ?F ?k1 ?k2 ?_ ?k3 ?k4; (case F => k_asm); (case k1 => exact rfl); (case k2 => exact rfl); (case k3 => intro _; rfl); (case k4 => assumption); k_whole)) | walk1 | (dsimp only; walk1) | (leave1; walk_say "STEP leave1"; try dsimp only) | fail "no step"))
  rename News g' L' _ _ => N2
  rename Fr g' L' _ _ => F2
  obtain ⟨items, ⟨o18, ho18, hc18, n18, hd18⟩, hi18⟩ := me_tup (X'.keeps F2.keep)
  refine loop_tuple (vs := items.toList) (fun i m₁ nw => (∀ y, y ≠ Str.ofString "word" → m₁ y = List.lookup y [(Str.ofString "modes", Value.ref x)].reverse) ∧ news = nw ∧ ∀ y ∈ ME.take i, onB S y = false) rfl ⟨o18, ho18, hc18, n18, by simpa using hd18⟩ (low_of F2 (X' 16 _ rfl)) F2 N2 ⟨fun _ _ => rfl, rfl, fun y hy => by simp at hy⟩ ?_ ?_
  · intro I i v m₁ news₁ own h3 tk3 hv hlt hI hown hJ hnI F4 N4
    refine hide_goal (fun Hq => ?_)
    obtain ⟨sw, st, rfl, hs⟩ := strsAt_get hi18 hv
    obtain ⟨e1, rfl, hno⟩ := hJ
    have F5 := fr_in F4 e1
    clear F4
    have hx' := List.mem_append_right own hx
    (repeat' (first | (k_unfold; (try dsimp only)) | ((first | (with_reducible refine Then.next ?_) | (with_reducible refine Then.ret ?_) | (with_reducible refine Joined.next ?_) | (with_reducible refine Joined.ret ?_) | (with_reducible refine HidV.get (by with_reducible assumption) _ _ ?_) | (with_reducible refine Hdn.get (by with_reducible assumption) ?_) | (with_reducible refine TurnEnd.toRet ?_)); (try dsimp only)) | (k_end; wrow_close) | ((with_reducible refine hide_turn ?_); intro Q1 H1) | (with_reducible refine exec_hid ?_) | (with_reducible (first | refine sp1 ?_ | refine sp2 ?_ | refine sp3 ?_ | refine sp4 ?_ | refine sp5 ?_ | refine sp6 ?_ | refine sp7 ?_ | refine sp8 ?_ | refine sp9 ?_ | refine sp10 ?_ | refine sp11 ?_ | refine sp12 ?_ | refine sp13 ?_ | refine sp14 ?_ | refine sp15 ?_ | refine sp16 ?_ | refine sp17 ?_ | refine sp18 ?_ | refine sp19 ?_ | refine sp22 ?_ | refine sp23 ?_ | refine sp24 ?_)) | ((with_reducible show wpAny _ _ (exec (Stmt.For (Expr.Name _ _) _ _ [] _) _) _ _ _); (with_unfolding_all refine' for_at ?F ?k1 ?k2 ?_ ?k3 ?k4; (case F => k_asm); (case k1 => exact rfl); (case k2 => exact rfl); (case k3 => intro _; rfl); (case k4 => assumption); k_whole)) | walk1 | (dsimp only; walk1) | (leave1; walk_say "STEP leave1"; try dsimp only) | fail "no step"))
    refine Stop.go ?_
    k_dflt (refine' (c_isOn (S := S)) _ _ _ _ _ _ _ _ _ _ _ _ _ _ _ _ ?kA ?kF ?kK ?k1 ?k2 ?k3 ?k4 ?k5 ?kd ?ku ?p0 ?p1 ?p2 ?p3 ?p4 ?_; (case kA => assumption); (case kF => exact rfl); (case kK => exact rfl); (case k1 => k_asm); (case k2 => k_asm); (case k3 => k_asm); (case k4 => k_asm); (case k5 => k_asm); (case p0 => k_mem); (case p1 => k_mem); (case p2 => k_mem); (case p3 => exact hS); (case p4 => exact hlo); (case kd => exact room (by assumption) (by decide)); (case ku => exact room (by assumption) (by decide)); intro h6 tk6 F6 N6)
    (try dsimp only)
    (repeat' (first | (k_unfold; (try dsimp only)) | ((first | (with_reducible refine Then.next ?_) | (with_reducible refine Then.ret ?_) | (with_reducible refine Joined.next ?_) | (with_reducible refine Joined.ret ?_) | (with_reducible refine HidV.get (by with_reducible assumption) _ _ ?_) | (with_reducible refine Hdn.get (by with_reducible assumption) ?_) | (with_reducible refine TurnEnd.toRet ?_)); (try dsimp only)) | (k_end; wrow_close) | ((with_reducible refine hide_turn ?_); intro Q1 H1) | (with_reducible refine exec_hid ?_) | (with_reducible (first | refine sp1 ?_ | refine sp2 ?_ | refine sp3 ?_ | refine sp4 ?_ | refine sp5 ?_ | refine sp6 ?_ | refine sp7 ?_ | refine sp8 ?_ | refine sp9 ?_ | refine sp10 ?_ | refine sp11 ?_ | refine sp12 ?_ | refine sp13 ?_ | refine sp14 ?_ | refine sp15 ?_ | refine sp16 ?_ | refine sp17 ?_ | refine sp18 ?_ | refine sp19 ?_ | refine sp22 ?_ | refine sp23 ?_ | refine sp24 ?_)) | ((with_reducible show wpAny _ _ (exec (Stmt.For (Expr.Name _ _) _ _ [] _) _) _ _ _); (with_unfolding_all refine' for_at ?F ?k1 ?k2 ?_ ?k3 ?k4; (case F => k_asm); (case k1 => exact rfl); (case k2 => exact rfl); (case k3 => intro _; rfl); (case k4 => assumption); k_whole)) | walk1 | (dsimp only; walk1) | (leave1; walk_say "STEP leave1"; try dsimp only) | fail "no step"))
    · rename onB S sw = true => hon
      (try dsimp only [TurnEnd])
      (repeat' (first | (k_unfold; (try dsimp only)) | ((first | (with_reducible refine Then.next ?_) | (with_reducible refine Then.ret ?_) | (with_reducible refine Joined.next ?_) | (with_reducible refine Joined.ret ?_) | (with_reducible refine HidV.get (by with_reducible assumption) _ _ ?_) | (with_reducible refine Hdn.get (by with_reducible assumption) ?_) | (with_reducible refine TurnEnd.toRet ?_)); (try dsimp only)) | (k_end; wrow_close) | ((with_reducible refine hide_turn ?_); intro Q1 H1) | (with_reducible refine exec_hid ?_) | (with_reducible (first | refine sp1 ?_ | refine sp2 ?_ | refine sp3 ?_ | refine sp4 ?_ | refine sp5 ?_ | refine sp6 ?_ | refine sp7 ?_ | refine sp8 ?_ | refine sp9 ?_ | refine sp10 ?_ | refine sp11 ?_ | refine sp12 ?_ | refine sp13 ?_ | refine sp14 ?_ | refine sp15 ?_ | refine sp16 ?_ | refine sp17 ?_ | refine sp18 ?_ | refine sp19 ?_ | refine sp22 ?_ | refine sp23 ?_ | refine sp24 ?_)) | ((with_reducible show wpAny _ _ (exec (Stmt.For (Expr.Name _ _) _ _ [] _) _) _ _ _); (with_unfolding_all refine' for_at ?F ?k1 ?k2 ?_ ?k3 ?k4; (case F => k_asm); (case k1 => exact rfl); (case k2 => exact rfl); (case k3 => intro _; rfl); (case k4 => assumption); k_whole)) | walk1 | (dsimp only; walk1) | (leave1; walk_say "STEP leave1"; try dsimp only) | fail "no step"))
      rename News h₀ L _ _ => N11
      refine hret _ (.inr ⟨sw, st, (find_take_succ hs hno).1 hon, rfl⟩) _ _ (by k_asm) (news_sub N11 fun q hq => List.mem_append_right _ hq)
    · rename onB S sw = false => hon
      exact TurnEnd.intro F6 N6 hnI ⟨fun y hy => if_neg hy, rfl, (find_take_succ hs hno).2 hon⟩
  · intro m₁ news₁ h3 tk3 hJ F4 N4
    refine hide_goal (fun Hq => ?_)
    obtain ⟨e1, rfl, hno⟩ := hJ
    rw [hi18.length, List.take_length] at hno
    (try dsimp only)
    (repeat' (first | (k_unfold; (try dsimp only)) | ((first | (with_reducible refine Then.next ?_) | (with_reducible refine Then.ret ?_) | (with_reducible refine Joined.next ?_) | (with_reducible refine Joined.ret ?_) | (with_reducible refine HidV.get (by with_reducible assumption) _ _ ?_) | (with_reducible refine Hdn.get (by with_reducible assumption) ?_) | (with_reducible refine TurnEnd.toRet ?_)); (try dsimp only)) | (k_end; wrow_close) | ((with_reducible refine hide_turn ?_); intro Q1 H1) | (with_reducible refine exec_hid ?_) | (with_reducible (first | refine sp1 ?_ | refine sp2 ?_ | refine sp3 ?_ | refine sp4 ?_ | refine sp5 ?_ | refine sp6 ?_ | refine sp7 ?_ | refine sp8 ?_ | refine sp9 ?_ | refine sp10 ?_ | refine sp11 ?_ | refine sp12 ?_ | refine sp13 ?_ | refine sp14 ?_ | refine sp15 ?_ | refine sp16 ?_ | refine sp17 ?_ | refine sp18 ?_ | refine sp19 ?_ | refine sp22 ?_ | refine sp23 ?_ | refine sp24 ?_)) | ((with_reducible show wpAny _ _ (exec (Stmt.For (Expr.Name _ _) _ _ [] _) _) _ _ _); (with_unfolding_all refine' for_at ?F ?k1 ?k2 ?_ ?k3 ?k4; (case F => k_asm); (case k1 => exact rfl); (case k2 => exact rfl); (case k3 => intro _; rfl); (case k4 => assumption); k_whole)) | walk1 | (dsimp only; walk1) | (leave1; walk_say "STEP leave1"; try dsimp only) | fail "no step"))
    refine hret _ (.inl ⟨find_none_all hno, rfl⟩) _ _ (by k_asm) (by k_asm)
end
end
section
section
variable {prog : Program} {w : World} {A : Around} {E : Value → Shared → Prop} {s : Shared} {h₀ : Heap} {L D : Addr} {m : Str → Option Value} {news : List (Addr × Obj)} {n : Nat} {y : Value} {r : List Value} {u : Tok}
theorem pop0 {Q : Value → Shared → Prop} (F : Fr h₀ L s.heap m) (N : News h₀ L s.heap news) (hm : (D, listOf (y :: r).toArray n) ∈ news) (hz : r.length ≤ 1000)
    (h : ∀ h', Fr h₀ L h' m → News h₀ L h' (updL news D (listOf r.toArray (n + 1))) → Q y { s with heap := h' }) : wpAny (model prog w) A (call (.builtin "list.pop") [.ref D, .int 0 u]) Q E s := by
  have z := N _ hm
  have hz' : (y :: r).toArray.size ≤ sizeLine := by rw [List.size_toArray, List.length_cons, sizeLine_eq]; exact Nat.le_trans (Nat.succ_le_succ hz) (by decide)
  have hy : (y :: r).toArray[0]? = some y := by simp
  refine call_meets PySem.F.slot_list_pop ⟨_, z.1, rfl⟩ PySem.F.entry_list_pop (PySem.F.args_list_pop_2 _ _) (PySem.MeetsSeq.list_pop_at D _ n 0 u 0 y rfl ?_ hy hz') ⟨z.1, h _ (F.change (Heap.SameBut.update ..) z.2.1 z.2.2) (News.update N hm (Heap.SameBut.update ..) ?_)⟩
  · simp [seqIndex?]
  · have q := PySem.IsL.update z.1 (fun a => a.eraseIdxIfInBounds 0)
    have e := kl_erase [] r y
    simp only [List.nil_append, List.length_nil] at e
    rw [e, if_neg (by simp)] at q
    exact q
end
theorem stored_mixed (a b v : Value) : stored [(Str.ofString "left", a), (Str.ofString "mixed", b)] (Str.ofString "mixed") v = [(Str.ofString "left", a), (Str.ofString "mixed", v)] := rfl
def DeckO (w : World) (oD oL : Obj) (l : Addr) : Prop :=
  ∀ P : Obj → Prop, (∀ vs ns n mx t, IntsAre vs ns → vs.length ≤ 40 → (∀ v ∈ ns, 0 ≤ v ∧ v < 1000003) → oD.IsDictOf (strKind PG w) [(Str.ofString "left", .ref l), (Str.ofString "mixed", .int mx t)] → 0 ≤ mx → mx < 1000003 → P (listOf vs.toArray n)) → P oL
section
variable {w : World} {p : Program} {loose : List Str} {mean : ExcName → Option Value} {mg mb : Str → Option Value}
theorem c_draw {dd l : Addr} {oD oL : Obj} {many : Int} {t : Tok} (h0 : 0 < many) (h1 : many ≤ 1000) :
    Con w p loose mean mg mb 156 12 [.ref dd, .int many t]
     (fun news G => (dd, oD) ∈ news → (l, oL) ∈ news → (dd == sysModules) = false → dd ≠ l → DeckO w oD oL l → G)
     (fun news P => ∀ v t' oD' oL', 0 ≤ v → v < many → DeckO w oD' oL' l → P (.int v t') (updL (updL news l oL') dd oD')) := by
  unfold Con
  intro A env outer A₀ base h₀ L m news hp0 G0 Dr0 tk0 O0 Q E hA hf hke B F X N T hd hu hdd hl hlo hne hdk hret
  revert hl
  refine hdk (fun oL => (l, oL) ∈ news → wpAny (model PG w) (Clm A) (call (.ref 156) [.ref dd, .int many t]) Q E ⟨hp0, G0, Dr0, tk0, O0⟩) ?_
  intro vs ns n mx t2 hia hlen hbd hD hm0 hm1 hl
  refine wpAny_call ?_
  k_dflt (refine' code_defG (binds := [(Str.ofString "deck", .ref dd), (Str.ofString "many", .int many t)]) ?k1 ?k2 ?k3 ?k4 ?k5 ?kA ?kF ?kK ?k6 ?k7 ?kd ?ku ?k9 ?kB ?_ ?c2 ?c3 ?c4 ?c5; (case kA => assumption); (case kF => assumption); (case kK => assumption); (case k1 => k_asm); (case k2 => k_asm); (case k3 => k_asm); (case k4 => k_asm); (case k5 => k_asm); (case k6 => k_is); (case k7 => k_is); (case kd => assumption); (case ku => assumption); (case k9 => exact BindsTo.of_eq rfl); (case c5 => decide); (case kB => exact locs rfl); (case c2 => exact rfl); (case c3 => exact rfl); (case c4 => exact rfl); k_whole; intro A1 g' L' h' tk' Q1 E1 hA1 hd1 hu1 FG' F' N' B' X' T' H1 P1; (try dsimp only))
  have hv1 : valueAt [(Str.ofString "left", Value.ref l), (Str.ofString "mixed", Value.int mx t2)] (Str.ofString "left") = some (.ref l) := rfl
  have hv2 : valueAt [(Str.ofString "left", Value.ref l), (Str.ofString "mixed", Value.int mx t2)] (Str.ofString "mixed") = some (.int mx t2) := rfl
  (repeat' (first | (k_unfold; (try dsimp only)) | ((first | (with_reducible refine Then.next ?_) | (with_reducible refine Then.ret ?_) | (with_reducible refine Joined.next ?_) | (with_reducible refine Joined.ret ?_) | (with_reducible refine HidV.get (by with_reducible assumption) _ _ ?_) | (with_reducible refine Hdn.get (by with_reducible assumption) ?_) | (with_reducible refine TurnEnd.toRet ?_)); (try dsimp only)) | (k_end; wrow_close) | ((with_reducible refine hide_turn ?_); intro Q1 H1) | (with_reducible refine exec_hid ?_) | (with_reducible (first | refine sp1 ?_ | refine sp2 ?_ | refine sp3 ?_ | refine sp4 ?_ | refine sp5 ?_ | refine sp6 ?_ | refine sp7 ?_ | refine sp8 ?_ | refine sp9 ?_ | refine sp10 ?_ | refine sp11 ?_ | refine sp12 ?_ | refine sp13 ?_ | refine sp14 ?_ | refine sp15 ?_ | refine sp16 ?_ | refine sp17 ?_ | refine sp18 ?_ | refine sp19 ?_ | refine sp22 ?_ | refine sp23 ?_ | refine sp24 ?_)) | ((with_reducible show wpAny _ _ (exec (Stmt.For (Expr.Name _ _) _ _ [] _) _) _ _ _); (with_unfolding_all refine' for_at ?F ?k1 ?k2 ?_ ?k3 ?k4; (case F => k_asm); (case k1 => exact rfl); (case k2 => exact rfl); (case k3 => intro _; rfl); (case k4 => assumption); k_whole)) | walk1 | (dsimp only; walk1) | (leave1; walk_say "STEP leave1"; try dsimp only) | fail "no step"))
  refine Stop.go ?_
  refine kda_item (knd := PySem.strKind _ _) (by k_asm) hdd hD (strKind_is _ _ _ _) hv1 ?_
  (try dsimp only)
  (repeat' (first | (k_unfold; (try dsimp only)) | ((first | (with_reducible refine Then.next ?_) | (with_reducible refine Then.ret ?_) | (with_reducible refine Joined.next ?_) | (with_reducible refine Joined.ret ?_) | (with_reducible refine HidV.get (by with_reducible assumption) _ _ ?_) | (with_reducible refine Hdn.get (by with_reducible assumption) ?_) | (with_reducible refine TurnEnd.toRet ?_)); (try dsimp only)) | (k_end; wrow_close) | ((with_reducible refine hide_turn ?_); intro Q1 H1) | (with_reducible refine exec_hid ?_) | (with_reducible (first | refine sp1 ?_ | refine sp2 ?_ | refine sp3 ?_ | refine sp4 ?_ | refine sp5 ?_ | refine sp6 ?_ | refine sp7 ?_ | refine sp8 ?_ | refine sp9 ?_ | refine sp10 ?_ | refine sp11 ?_ | refine sp12 ?_ | refine sp13 ?_ | refine sp14 ?_ | refine sp15 ?_ | refine sp16 ?_ | refine sp17 ?_ | refine sp18 ?_ | refine sp19 ?_ | refine sp22 ?_ | refine sp23 ?_ | refine sp24 ?_)) | ((with_reducible show wpAny _ _ (exec (Stmt.For (Expr.Name _ _) _ _ [] _) _) _ _ _); (with_unfolding_all refine' for_at ?F ?k1 ?k2 ?_ ?k3 ?k4; (case F => k_asm); (case k1 => exact rfl); (case k2 => exact rfl); (case k3 => intro _; rfl); (case k4 => assumption); k_whole)) | walk1 | (dsimp only; walk1) | (leave1; walk_say "STEP leave1"; try dsimp only) | fail "no step"))
  refine Stop.go ?_
  rename News g' _ _ _ => N2
  rename_i l' _ _ _
  have z2 := N2 _ (.head _)
  have zl := N2 _ (.tail _ hl)
  refine ke_ne_ints ⟨_, zl.1, rfl, _, rfl⟩ ⟨_, z2.1, rfl, _, rfl⟩ hia .nil (by exact room (by assumption) (by decide)) ?_
  cases hia with
  | nil =>
    rw [show (!decide (([] : List Int) = [])) = false from rfl]
    (try dsimp only)
    (repeat' (first | (k_unfold; (try dsimp only)) | ((first | (with_reducible refine Then.next ?_) | (with_reducible refine Then.ret ?_) | (with_reducible refine Joined.next ?_) | (with_reducible refine Joined.ret ?_) | (with_reducible refine HidV.get (by with_reducible assumption) _ _ ?_) | (with_reducible refine Hdn.get (by with_reducible assumption) ?_) | (with_reducible refine TurnEnd.toRet ?_)); (try dsimp only)) | (k_end; wrow_close) | ((with_reducible refine hide_turn ?_); intro Q1 H1) | (with_reducible refine exec_hid ?_) | (with_reducible (first | refine sp1 ?_ | refine sp2 ?_ | refine sp3 ?_ | refine sp4 ?_ | refine sp5 ?_ | refine sp6 ?_ | refine sp7 ?_ | refine sp8 ?_ | refine sp9 ?_ | refine sp10 ?_ | refine sp11 ?_ | refine sp12 ?_ | refine sp13 ?_ | refine sp14 ?_ | refine sp15 ?_ | refine sp16 ?_ | refine sp17 ?_ | refine sp18 ?_ | refine sp19 ?_ | refine sp22 ?_ | refine sp23 ?_ | refine sp24 ?_)) | ((with_reducible show wpAny _ _ (exec (Stmt.For (Expr.Name _ _) _ _ [] _) _) _ _ _); (with_unfolding_all refine' for_at ?F ?k1 ?k2 ?_ ?k3 ?k4; (case F => k_asm); (case k1 => exact rfl); (case k2 => exact rfl); (case k3 => intro _; rfl); (case k4 => assumption); k_whole)) | walk1 | (dsimp only; walk1) | (leave1; walk_say "STEP leave1"; try dsimp only) | fail "no step"))
    refine Stop.go ?_
    refine kda_item (knd := PySem.strKind _ _) (by k_asm) (.tail _ hdd) hD (strKind_is _ _ _ _) hv2 ?_
    (try dsimp only)
    (repeat' (first | (k_unfold; (try dsimp only)) | ((first | (with_reducible refine Then.next ?_) | (with_reducible refine Then.ret ?_) | (with_reducible refine Joined.next ?_) | (with_reducible refine Joined.ret ?_) | (with_reducible refine HidV.get (by with_reducible assumption) _ _ ?_) | (with_reducible refine Hdn.get (by with_reducible assumption) ?_) | (with_reducible refine TurnEnd.toRet ?_)); (try dsimp only)) | (k_end; wrow_close) | ((with_reducible refine hide_turn ?_); intro Q1 H1) | (with_reducible refine exec_hid ?_) | (with_reducible (first | refine sp1 ?_ | refine sp2 ?_ | refine sp3 ?_ | refine sp4 ?_ | refine sp5 ?_ | refine sp6 ?_ | refine sp7 ?_ | refine sp8 ?_ | refine sp9 ?_ | refine sp10 ?_ | refine sp11 ?_ | refine sp12 ?_ | refine sp13 ?_ | refine sp14 ?_ | refine sp15 ?_ | refine sp16 ?_ | refine sp17 ?_ | refine sp18 ?_ | refine sp19 ?_ | refine sp22 ?_ | refine sp23 ?_ | refine sp24 ?_)) | ((with_reducible show wpAny _ _ (exec (Stmt.For (Expr.Name _ _) _ _ [] _) _) _ _ _); (with_unfolding_all refine' for_at ?F ?k1 ?k2 ?_ ?k3 ?k4; (case F => k_asm); (case k1 => exact rfl); (case k2 => exact rfl); (case k3 => intro _; rfl); (case k4 => assumption); k_whole)) | walk1 | (dsimp only; walk1) | (leave1; walk_say "STEP leave1"; try dsimp only) | fail "no step"))
    (try dsimp only)
    refine dset (knd := strKind _ _) (by k_asm) (by k_asm) (.tail _ hdd) hD (strKind_is _ _ _ _) (by rw [sizeLine_eq]; simp) (fun h6 oD' F6 N6 hd6 => ?_)
    rw [stored_mixed] at hd6
    generalize hw : Value.int _ _ = vw at hd6
    obtain ⟨tq, rfl⟩ : ∃ tq, vw = .int ((mx * 4801 + 97).fmod 1000003) tq := ⟨_, hw.symm⟩
    clear hw
    have b0 : 0 ≤ (mx * 4801 + 97).fmod 1000003 := Int.fmod_nonneg_of_pos _ (by decide)
    have b1 : (mx * 4801 + 97).fmod 1000003 < 1000003 := Int.fmod_lt_of_pos _ (by decide)
    generalize (mx * 4801 + 97).fmod 1000003 = mx' at hd6 b0 b1
    have hv3 : valueAt [(Str.ofString "left", Value.ref l), (Str.ofString "mixed", Value.int mx' tq)] (Str.ofString "mixed") = some (.int mx' tq) := rfl
    have hmem : (dd, oD') ∈ updL ((l', W.listOf #[] 0) :: news) dd oD' := updL_self (.tail _ hdd)
    (try dsimp only)
    (repeat' (first | (k_unfold; (try dsimp only)) | ((first | (with_reducible refine Then.next ?_) | (with_reducible refine Then.ret ?_) | (with_reducible refine Joined.next ?_) | (with_reducible refine Joined.ret ?_) | (with_reducible refine HidV.get (by with_reducible assumption) _ _ ?_) | (with_reducible refine Hdn.get (by with_reducible assumption) ?_) | (with_reducible refine TurnEnd.toRet ?_)); (try dsimp only)) | (k_end; wrow_close) | ((with_reducible refine hide_turn ?_); intro Q1 H1) | (with_reducible refine exec_hid ?_) | (with_reducible (first | refine sp1 ?_ | refine sp2 ?_ | refine sp3 ?_ | refine sp4 ?_ | refine sp5 ?_ | refine sp6 ?_ | refine sp7 ?_ | refine sp8 ?_ | refine sp9 ?_ | refine sp10 ?_ | refine sp11 ?_ | refine sp12 ?_ | refine sp13 ?_ | refine sp14 ?_ | refine sp15 ?_ | refine sp16 ?_ | refine sp17 ?_ | refine sp18 ?_ | refine sp19 ?_ | refine sp22 ?_ | refine sp23 ?_ | refine sp24 ?_)) | ((with_reducible show wpAny _ _ (exec (Stmt.For (Expr.Name _ _) _ _ [] _) _) _ _ _); (with_unfolding_all refine' for_at ?F ?k1 ?k2 ?_ ?k3 ?k4; (case F => k_asm); (case k1 => exact rfl); (case k2 => exact rfl); (case k3 => intro _; rfl); (case k4 => assumption); k_whole)) | walk1 | (dsimp only; walk1) | (leave1; walk_say "STEP leave1"; try dsimp only) | fail "no step"))
    refine Stop.go ?_
    refine kda_item (knd := PySem.strKind _ _) (by k_asm) hmem hd6 (strKind_is _ _ _ _) hv3 ?_
    (try dsimp only)
    (repeat' (first | (k_unfold; (try dsimp only)) | ((first | (with_reducible refine Then.next ?_) | (with_reducible refine Then.ret ?_) | (with_reducible refine Joined.next ?_) | (with_reducible refine Joined.ret ?_) | (with_reducible refine HidV.get (by with_reducible assumption) _ _ ?_) | (with_reducible refine Hdn.get (by with_reducible assumption) ?_) | (with_reducible refine TurnEnd.toRet ?_)); (try dsimp only)) | (k_end; wrow_close) | ((with_reducible refine hide_turn ?_); intro Q1 H1) | (with_reducible refine exec_hid ?_) | (with_reducible (first | refine sp1 ?_ | refine sp2 ?_ | refine sp3 ?_ | refine sp4 ?_ | refine sp5 ?_ | refine sp6 ?_ | refine sp7 ?_ | refine sp8 ?_ | refine sp9 ?_ | refine sp10 ?_ | refine sp11 ?_ | refine sp12 ?_ | refine sp13 ?_ | refine sp14 ?_ | refine sp15 ?_ | refine sp16 ?_ | refine sp17 ?_ | refine sp18 ?_ | refine sp19 ?_ | refine sp22 ?_ | refine sp23 ?_ | refine sp24 ?_)) | ((with_reducible show wpAny _ _ (exec (Stmt.For (Expr.Name _ _) _ _ [] _) _) _ _ _); (with_unfolding_all refine' for_at ?F ?k1 ?k2 ?_ ?k3 ?k4; (case F => k_asm); (case k1 => exact rfl); (case k2 => exact rfl); (case k3 => intro _; rfl); (case k4 => assumption); k_whole)) | walk1 | (dsimp only; walk1) | (leave1; walk_say "STEP leave1"; try dsimp only) | fail "no step"))
    rename News h₀ L _ _ => N9
    have N8 : News h₀ L _ (updL news dd oD') := news_sub N9 fun q hq => List.mem_cons_of_mem _ hq
    exact hret _ _ oD' (W.listOf #[] n) (Int.fmod_nonneg_of_pos _ h0) (Int.fmod_lt_of_pos _ h0) (fun _ k => k [] [] n mx' tq .nil hlen (fun v hv => (nomatch hv)) hd6 b0 b1) _ _ (by k_asm) (by rw [updL_id N hl]; exact N8)
  | cons y ty r =>
    rename_i vs ns
    rw [show (!decide (y :: ns = [])) = true from by simp]
    (try dsimp only)
    (repeat' (first | (k_unfold; (try dsimp only)) | ((first | (with_reducible refine Then.next ?_) | (with_reducible refine Then.ret ?_) | (with_reducible refine Joined.next ?_) | (with_reducible refine Joined.ret ?_) | (with_reducible refine HidV.get (by with_reducible assumption) _ _ ?_) | (with_reducible refine Hdn.get (by with_reducible assumption) ?_) | (with_reducible refine TurnEnd.toRet ?_)); (try dsimp only)) | (k_end; wrow_close) | ((with_reducible refine hide_turn ?_); intro Q1 H1) | (with_reducible refine exec_hid ?_) | (with_reducible (first | refine sp1 ?_ | refine sp2 ?_ | refine sp3 ?_ | refine sp4 ?_ | refine sp5 ?_ | refine sp6 ?_ | refine sp7 ?_ | refine sp8 ?_ | refine sp9 ?_ | refine sp10 ?_ | refine sp11 ?_ | refine sp12 ?_ | refine sp13 ?_ | refine sp14 ?_ | refine sp15 ?_ | refine sp16 ?_ | refine sp17 ?_ | refine sp18 ?_ | refine sp19 ?_ | refine sp22 ?_ | refine sp23 ?_ | refine sp24 ?_)) | ((with_reducible show wpAny _ _ (exec (Stmt.For (Expr.Name _ _) _ _ [] _) _) _ _ _); (with_unfolding_all refine' for_at ?F ?k1 ?k2 ?_ ?k3 ?k4; (case F => k_asm); (case k1 => exact rfl); (case k2 => exact rfl); (case k3 => intro _; rfl); (case k4 => assumption); k_whole)) | walk1 | (dsimp only; walk1) | (leave1; walk_say "STEP leave1"; try dsimp only) | fail "no step"))
    refine Stop.go ?_
    refine kda_item (knd := PySem.strKind _ _) (by k_asm) (.tail _ hdd) hD (strKind_is _ _ _ _) hv1 ?_
    (try dsimp only)
    (repeat' (first | (k_unfold; (try dsimp only)) | ((first | (with_reducible refine Then.next ?_) | (with_reducible refine Then.ret ?_) | (with_reducible refine Joined.next ?_) | (with_reducible refine Joined.ret ?_) | (with_reducible refine HidV.get (by with_reducible assumption) _ _ ?_) | (with_reducible refine Hdn.get (by with_reducible assumption) ?_) | (with_reducible refine TurnEnd.toRet ?_)); (try dsimp only)) | (k_end; wrow_close) | ((with_reducible refine hide_turn ?_); intro Q1 H1) | (with_reducible refine exec_hid ?_) | (with_reducible (first | refine sp1 ?_ | refine sp2 ?_ | refine sp3 ?_ | refine sp4 ?_ | refine sp5 ?_ | refine sp6 ?_ | refine sp7 ?_ | refine sp8 ?_ | refine sp9 ?_ | refine sp10 ?_ | refine sp11 ?_ | refine sp12 ?_ | refine sp13 ?_ | refine sp14 ?_ | refine sp15 ?_ | refine sp16 ?_ | refine sp17 ?_ | refine sp18 ?_ | refine sp19 ?_ | refine sp22 ?_ | refine sp23 ?_ | refine sp24 ?_)) | ((with_reducible show wpAny _ _ (exec (Stmt.For (Expr.Name _ _) _ _ [] _) _) _ _ _); (with_unfolding_all refine' for_at ?F ?k1 ?k2 ?_ ?k3 ?k4; (case F => k_asm); (case k1 => exact rfl); (case k2 => exact rfl); (case k3 => intro _; rfl); (case k4 => assumption); k_whole)) | walk1 | (dsimp only; walk1) | (leave1; walk_say "STEP leave1"; try dsimp only) | fail "no step"))
    refine Stop.go ?_
    refine pop0 (by k_asm) (by k_asm) (.tail _ hl) (Nat.le_trans (Nat.le_of_succ_le hlen) (by decide)) (fun h6 F6 N6 => ?_)
    have y0 := hbd y (.head _)
    (try dsimp only)
    (repeat' (first | (k_unfold; (try dsimp only)) | ((first | (with_reducible refine Then.next ?_) | (with_reducible refine Then.ret ?_) | (with_reducible refine Joined.next ?_) | (with_reducible refine Joined.ret ?_) | (with_reducible refine HidV.get (by with_reducible assumption) _ _ ?_) | (with_reducible refine Hdn.get (by with_reducible assumption) ?_) | (with_reducible refine TurnEnd.toRet ?_)); (try dsimp only)) | (k_end; wrow_close) | ((with_reducible refine hide_turn ?_); intro Q1 H1) | (with_reducible refine exec_hid ?_) | (with_reducible (first | refine sp1 ?_ | refine sp2 ?_ | refine sp3 ?_ | refine sp4 ?_ | refine sp5 ?_ | refine sp6 ?_ | refine sp7 ?_ | refine sp8 ?_ | refine sp9 ?_ | refine sp10 ?_ | refine sp11 ?_ | refine sp12 ?_ | refine sp13 ?_ | refine sp14 ?_ | refine sp15 ?_ | refine sp16 ?_ | refine sp17 ?_ | refine sp18 ?_ | refine sp19 ?_ | refine sp22 ?_ | refine sp23 ?_ | refine sp24 ?_)) | ((with_reducible show wpAny _ _ (exec (Stmt.For (Expr.Name _ _) _ _ [] _) _) _ _ _); (with_unfolding_all refine' for_at ?F ?k1 ?k2 ?_ ?k3 ?k4; (case F => k_asm); (case k1 => exact rfl); (case k2 => exact rfl); (case k3 => intro _; rfl); (case k4 => assumption); k_whole)) | walk1 | (dsimp only; walk1) | (leave1; walk_say "STEP leave1"; try dsimp only) | fail "no step"))
    rename News h₀ L _ _ => N9
    have N8 : News h₀ L _ (updL news l (W.listOf vs.toArray (n + 1))) := news_sub N9 fun q hq => List.mem_cons_of_mem _ hq
    exact hret _ _ oD (W.listOf vs.toArray (n + 1)) (Int.fmod_nonneg_of_pos _ h0) (Int.fmod_lt_of_pos _ h0) (fun _ k => k vs ns (n + 1) mx t2 r (Nat.le_of_succ_le hlen) (fun v hv => hbd v (.tail _ hv)) hD hm0 hm1) _ _ (by k_asm) (by rw [updL_id N8 (updL_ne hdd hne)]; exact N8)
end
end
section
theorem fr_in2 {h₀ h : Heap} {L : Addr} {x z : Str} {v vz : Value} {m₀ m₁ : Str → Option Value} (F : Fr h₀ L h (fun y => if y = x then some v else m₁ y)) (e : ∀ y, y ≠ x → y ≠ z → m₁ y = m₀ y) (ez : m₁ z = some vz) :
    Fr h₀ L h (fun y => if y = x then some v else if y = z then some vz else m₀ y) := by
  have q : (fun y => if y = x then some v else m₁ y) = fun y => if y = x then some v else if y = z then some vz else m₀ y := by
    funext y
    by_cases h : y = x
    · rw [if_pos h, if_pos h]
    · rw [if_neg h, if_neg h]
      by_cases h2 : y = z
      · rw [if_pos h2, h2, ez]
      · rw [if_neg h2, e y h h2]
  exact q ▸ F
theorem off1_ne {D : Addr} {p : Addr × Obj} {l : List (Addr × Obj)} (h : LCg.Off1 D (p :: l)) : ∀ q ∈ l, q.1 ≠ D := by
  have h1 : ∀ {l : List (Addr × Obj)}, LCg.Off1 D l → ∀ q ∈ l, q.1 ≠ D := by
    intro l
    induction l with
    | nil => intro _ q hq; exact nomatch hq
    | cons a r ih =>
      intro h q hq
      rcases List.mem_cons.mp hq with rfl | hq
      · exact h.1
      · exact ih h.2 q hq
  exact h1 h.2
theorem intsAre_app {vs us : List Value} {ss ts : List Int} (h : IntsAre vs ss) (h2 : IntsAre us ts) : IntsAre (vs ++ us) (ss ++ ts) := by
  induction h with
  | nil => exact h2
  | cons x t _ ih => exact .cons x t ih
section
variable {w : World} {p : Program} {loose : List Str} {mean : ExcName → Option Value} {mg mb : Str → Option Value}
theorem c_deck {sc : Addr} {vs : List Value} {ns : List Int} (hi : IntsAre vs ns) (hlen : vs.length ≤ 63) (A : Around) (env : Env) (outer : List Env) (A₀ : Around) (base h₀ : Heap) (L : Addr) (m : Str → Option Value) (news : List (Addr × Obj)) (hp0 : Heap) (G0 : Array GenState) (Dr0 : Drawn) (tk0 : Nat) (O0 : OsState)
    (Q E : Value → Shared → Prop) (hA : A.frames = some (env :: outer)) (hf : env.frame = some L) (hke : env.scope.kind = .function) (B : Below A₀ base outer h₀) (F : Fr h₀ L hp0 m) (X : (hd.heap_39 w.params).In h₀) (N : News h₀ L hp0 news) (T : Top p loose mean mg mb h₀) (hS : h₀.IsList sc vs.toArray) (hd : A.depth + 12 < recursionLimit) (hu : A.units + 8 * 12 < cLine)
    (hret : ∀ dd l oD oL, dd ≠ l → (∀ q ∈ news, q.1 ≠ l) → (∀ q ∈ news, q.1 ≠ dd) → (dd == sysModules) = false → DeckO w oD oL l → ∀ h' tk', Fr h₀ L h' m → News h₀ L h' ((dd, oD) :: (l, oL) :: news) → Q (.ref dd) ⟨h', G0, Dr0, tk', O0⟩) :
    wpAny (model PG w) (Clm A) (call (.ref 149) [.ref sc]) Q E ⟨hp0, G0, Dr0, tk0, O0⟩ := by
  have hS' : hp0.IsList sc vs.toArray := hS.at fun o e => F.keep _ _ e
  refine wpAny_call ?_
  k_dflt (refine' code_defG (binds := [(Str.ofString "script", .ref sc)]) ?k1 ?k2 ?k3 ?k4 ?k5 ?kA ?kF ?kK ?k6 ?k7 ?kd ?ku ?k9 ?kB ?_ ?c2 ?c3 ?c4 ?c5; (case kA => assumption); (case kF => assumption); (case kK => assumption); (case k1 => k_asm); (case k2 => k_asm); (case k3 => k_asm); (case k4 => k_asm); (case k5 => k_asm); (case k6 => k_is); (case k7 => k_is); (case kd => assumption); (case ku => assumption); (case k9 => exact BindsTo.of_eq rfl); (case c5 => decide); (case kB => exact locs rfl); (case c2 => exact rfl); (case c3 => exact rfl); (case c4 => exact rfl); k_whole; intro A1 g' L' h' tk' Q1 E1 hA1 hd1 hu1 FG' F' N' B' X' T' H1 P1; (try dsimp only))
  have hS2 : g'.IsList sc vs.toArray := hS.at fun o e => FG'.keep _ _ e
  have hS3 : h'.IsList sc vs.toArray := hS2.at fun o e => F'.keep _ _ e
  clear hS hS'
  (repeat' (first | (k_unfold; (try dsimp only)) | ((first | (with_reducible refine Then.next ?_) | (with_reducible refine Then.ret ?_) | (with_reducible refine Joined.next ?_) | (with_reducible refine Joined.ret ?_) | (with_reducible refine HidV.get (by with_reducible assumption) _ _ ?_) | (with_reducible refine Hdn.get (by with_reducible assumption) ?_) | (with_reducible refine TurnEnd.toRet ?_)); (try dsimp only)) | (k_end; wrow_close) | ((with_reducible refine hide_turn ?_); intro Q1 H1) | (with_reducible refine exec_hid ?_) | (with_reducible (first | refine sp1 ?_ | refine sp2 ?_ | refine sp3 ?_ | refine sp4 ?_ | refine sp5 ?_ | refine sp6 ?_ | refine sp7 ?_ | refine sp8 ?_ | refine sp9 ?_ | refine sp10 ?_ | refine sp11 ?_ | refine sp12 ?_ | refine sp13 ?_ | refine sp14 ?_ | refine sp15 ?_ | refine sp16 ?_ | refine sp17 ?_ | refine sp18 ?_ | refine sp19 ?_ | refine sp22 ?_ | refine sp23 ?_ | refine sp24 ?_)) | ((with_reducible show wpAny _ _ (exec (Stmt.For (Expr.Name _ _) _ _ [] _) _) _ _ _); (with_unfolding_all refine' for_at ?F ?k1 ?k2 ?_ ?k3 ?k4; (case F => k_asm); (case k1 => exact rfl); (case k2 => exact rfl); (case k3 => intro _; rfl); (case k4 => assumption); k_whole)) | walk1 | (dsimp only; walk1) | (leave1; walk_say "STEP leave1"; try dsimp only) | fail "no step"))
  refine Stop.go ?_
  (k_dflt (first | ((with_reducible refine' comp_TW ?kF ?k1 ?k2 ?k3 ?k4 ?k5 ?_ ?k6); (case kF => k_asm); (case k1 => with_unfolding_all rfl); (case k2 => decide); (case k3 => rfl); (case k4 => decide); (case k5 => rfl); (case k6 => intro _; rfl)) | ((with_reducible refine' comp_UW ?kF ?k1 ?k2 ?k3 ?k4 ?k5 ?_ ?k6); (case kF => k_asm); (case k1 => with_unfolding_all rfl); (case k2 => decide); (case k3 => rfl); (case k4 => decide); (case k5 => rfl); (case k6 => intro _; rfl))))
  (repeat' (first | (k_unfold; (try dsimp only)) | ((first | (with_reducible refine Then.next ?_) | (with_reducible refine Then.ret ?_) | (with_reducible refine Joined.next ?_) | (with_reducible refine Joined.ret ?_) | (with_reducible refine HidV.get (by with_reducible assumption) _ _ ?_) | (with_reducible refine Hdn.get (by with_reducible assumption) ?_) | (with_reducible refine TurnEnd.toRet ?_)); (try dsimp only)) | (k_end; wrow_close) | ((with_reducible refine hide_turn ?_); intro Q1 H1) | (with_reducible refine exec_hid ?_) | (with_reducible (first | refine sp1 ?_ | refine sp2 ?_ | refine sp3 ?_ | refine sp4 ?_ | refine sp5 ?_ | refine sp6 ?_ | refine sp7 ?_ | refine sp8 ?_ | refine sp9 ?_ | refine sp10 ?_ | refine sp11 ?_ | refine sp12 ?_ | refine sp13 ?_ | refine sp14 ?_ | refine sp15 ?_ | refine sp16 ?_ | refine sp17 ?_ | refine sp18 ?_ | refine sp19 ?_ | refine sp22 ?_ | refine sp23 ?_ | refine sp24 ?_)) | ((with_reducible show wpAny _ _ (exec (Stmt.For (Expr.Name _ _) _ _ [] _) _) _ _ _); (with_unfolding_all refine' for_at ?F ?k1 ?k2 ?_ ?k3 ?k4; (case F => k_asm); (case k1 => exact rfl); (case k2 => exact rfl); (case k3 => intro _; rfl); (case k4 => assumption); k_whole)) | walk1 | (dsimp only; walk1) | (leave1; walk_say "STEP leave1"; try dsimp only) | fail "no step"))
  rename_i D ws h5 F5 N5 l5 hI5 hC5 hL5
  have hnl : ns.length ≤ 63 := by rw [← hi.length]; exact hlen
  have hwl : ws.length ≤ 40 := by rw [hI5.length, hC5]; (first | exact Nat.min_le_left _ _ | exact Nat.min_le_right _ _ | exact Nat.le_refl _ | exact Nat.le_trans (Nat.sub_le _ _) (Nat.min_le_left _ _) | exact Nat.le_trans (Nat.sub_le _ _) (Nat.min_le_right _ _) | omega)
  refine src_list rfl F5 N5 (.inr ⟨_, .head _, rfl, _, rfl⟩) (by rw [List.size_toArray, sizeLine_eq]; exact Nat.le_trans hwl (by decide)) ?_
  intro g
  refine rest_inv (fun i ys nw => nw = (D, W.listOf ws.toArray 0) :: news ∧ ∃ ks, IntsAre ys ks ∧ ys.length = i ∧ ∀ k ∈ ks, 0 ≤ k ∧ k < 1000003) ?_ ?_ _ 0 [] _ (Nat.zero_add _) ⟨rfl, [], .nil, rfl, fun k hk => (nomatch hk)⟩
  · intro i ys nw v I oI C oC D2 m₂ h tk E' hii hJ hP hC hxv F9 N9 off ne
    refine hide_goal (fun Hq => ?_)
    obtain ⟨rfl, ks, hys, hyl, hkb⟩ := hJ
    obtain ⟨kv, kt, rfl, hk2⟩ := IntsAre.at hI5 i v (by simpa using hP)
    (repeat' (first | (k_unfold; (try dsimp only)) | ((first | (with_reducible refine Then.next ?_) | (with_reducible refine Then.ret ?_) | (with_reducible refine Joined.next ?_) | (with_reducible refine Joined.ret ?_) | (with_reducible refine HidV.get (by with_reducible assumption) _ _ ?_) | (with_reducible refine Hdn.get (by with_reducible assumption) ?_) | (with_reducible refine TurnEnd.toRet ?_)); (try dsimp only)) | (k_end; wrow_close) | ((with_reducible refine hide_turn ?_); intro Q1 H1) | (with_reducible refine exec_hid ?_) | (with_reducible (first | refine sp1 ?_ | refine sp2 ?_ | refine sp3 ?_ | refine sp4 ?_ | refine sp5 ?_ | refine sp6 ?_ | refine sp7 ?_ | refine sp8 ?_ | refine sp9 ?_ | refine sp10 ?_ | refine sp11 ?_ | refine sp12 ?_ | refine sp13 ?_ | refine sp14 ?_ | refine sp15 ?_ | refine sp16 ?_ | refine sp17 ?_ | refine sp18 ?_ | refine sp19 ?_ | refine sp22 ?_ | refine sp23 ?_ | refine sp24 ?_)) | ((with_reducible show wpAny _ _ (exec (Stmt.For (Expr.Name _ _) _ _ [] _) _) _ _ _); (with_unfolding_all refine' for_at ?F ?k1 ?k2 ?_ ?k3 ?k4; (case F => k_asm); (case k1 => exact rfl); (case k2 => exact rfl); (case k3 => intro _; rfl); (case k4 => assumption); k_whole)) | walk1 | (dsimp only; walk1) | (leave1; walk_say "STEP leave1"; try dsimp only) | fail "no step"))
    have b0 : 0 ≤ kv.fmod 1000003 := Int.fmod_nonneg_of_pos _ (by decide)
    have b1 : kv.fmod 1000003 < 1000003 := Int.fmod_lt_of_pos _ (by decide)
    refine LCg.CompEnd.intro (by k_asm) N9 _ (fun _ h => h) off (.inr ⟨_, .head _, rfl, _, rfl⟩) ⟨rfl, ks ++ [kv.fmod 1000003], intsAre_app hys (.cons _ _ .nil), by rw [List.length_append, hyl]; rfl, fun k hk => ?_⟩
    rcases List.mem_append.mp hk with h | h
    · exact hkb k h
    · simp at h; subst h; exact ⟨b0, b1⟩
  · intro ys nw hJ
    refine hide_goal (fun Hq => ?_)
    obtain ⟨rfl, ks, hys, hyl, hkb⟩ := hJ
    (try ((first | (with_reducible refine Then.next ?_) | (with_reducible refine Then.ret ?_) | (with_reducible refine Joined.next ?_) | (with_reducible refine Joined.ret ?_) | (with_reducible refine HidV.get (by with_reducible assumption) _ _ ?_) | (with_reducible refine Hdn.get (by with_reducible assumption) ?_) | (with_reducible refine TurnEnd.toRet ?_)); (try dsimp only)))
    intro D9 h9 tk9 F9 N9 off9
    rw [List.size_toArray] at hyl
    (try dsimp only)
    (repeat' (first | (k_unfold; (try dsimp only)) | ((first | (with_reducible refine Then.next ?_) | (with_reducible refine Then.ret ?_) | (with_reducible refine Joined.next ?_) | (with_reducible refine Joined.ret ?_) | (with_reducible refine HidV.get (by with_reducible assumption) _ _ ?_) | (with_reducible refine Hdn.get (by with_reducible assumption) ?_) | (with_reducible refine TurnEnd.toRet ?_)); (try dsimp only)) | (k_end; wrow_close) | ((with_reducible refine hide_turn ?_); intro Q1 H1) | (with_reducible refine exec_hid ?_) | (with_reducible (first | refine sp1 ?_ | refine sp2 ?_ | refine sp3 ?_ | refine sp4 ?_ | refine sp5 ?_ | refine sp6 ?_ | refine sp7 ?_ | refine sp8 ?_ | refine sp9 ?_ | refine sp10 ?_ | refine sp11 ?_ | refine sp12 ?_ | refine sp13 ?_ | refine sp14 ?_ | refine sp15 ?_ | refine sp16 ?_ | refine sp17 ?_ | refine sp18 ?_ | refine sp19 ?_ | refine sp22 ?_ | refine sp23 ?_ | refine sp24 ?_)) | ((with_reducible show wpAny _ _ (exec (Stmt.For (Expr.Name _ _) _ _ [] _) _) _ _ _); (with_unfolding_all refine' for_at ?F ?k1 ?k2 ?_ ?k3 ?k4; (case F => k_asm); (case k1 => exact rfl); (case k2 => exact rfl); (case k3 => intro _; rfl); (case k4 => assumption); k_whole)) | walk1 | (dsimp only; walk1) | (leave1; walk_say "STEP leave1"; try dsimp only) | fail "no step"))
    rename News g' _ _ _ => N10
    rename Fr g' _ _ _ => F10
    have z9 := N10 _ (.tail _ (.head _))
    refine loop_list (vs := ys) (fun i m₁ nw => (∀ y, y ≠ Str.ofString "cell" → y ≠ Str.ofString "mixed" → m₁ y = (fun y => if y = Str.ofString "left" then some (Value.ref D9) else List.lookup y [(Str.ofString "script", Value.ref sc)].reverse) y) ∧
      (∃ mx t, m₁ (Str.ofString "mixed") = some (.int mx t) ∧ 0 ≤ mx ∧ mx < 1000003) ∧ nw = (D9, LCg.lst ys) :: news) rfl ⟨_, z9.1, rfl, _, rfl⟩ z9.2.1 F10 (news_sub N10 ?_) ⟨?_, ⟨5003, tk9, rfl, by decide, by decide⟩, rfl⟩ ?_ ?_
    · exact List.forall_mem_cons.mpr ⟨.tail _ (.head _), fun q hq => .tail _ (.tail _ (.tail _ hq))⟩
    · intro y h1 h2
      dsimp only
      rw [if_neg h2]
    · intro I i v m₁ news₁ own h3 tk3 hv hlt hI hown hJ hnI F4 N4
      refine hide_goal (fun Hq => ?_)
      obtain ⟨e1, ⟨mx, t, e2, b0, b1⟩, rfl⟩ := hJ
      obtain ⟨kv, kt, rfl, hk2⟩ := IntsAre.at hys i v hv
      have kb := hkb kv (List.mem_of_getElem? hk2)
      have F5 := fr_in2 F4 e1 e2
      clear F4
      (repeat' (first | (k_unfold; (try dsimp only)) | ((first | (with_reducible refine Then.next ?_) | (with_reducible refine Then.ret ?_) | (with_reducible refine Joined.next ?_) | (with_reducible refine Joined.ret ?_) | (with_reducible refine HidV.get (by with_reducible assumption) _ _ ?_) | (with_reducible refine Hdn.get (by with_reducible assumption) ?_) | (with_reducible refine TurnEnd.toRet ?_)); (try dsimp only)) | (k_end; wrow_close) | ((with_reducible refine hide_turn ?_); intro Q1 H1) | (with_reducible refine exec_hid ?_) | (with_reducible (first | refine sp1 ?_ | refine sp2 ?_ | refine sp3 ?_ | refine sp4 ?_ | refine sp5 ?_ | refine sp6 ?_ | refine sp7 ?_ | refine sp8 ?_ | refine sp9 ?_ | refine sp10 ?_ | refine sp11 ?_ | refine sp12 ?_ | refine sp13 ?_ | refine sp14 ?_ | refine sp15 ?_ | refine sp16 ?_ | refine sp17 ?_ | refine sp18 ?_ | refine sp19 ?_ | refine sp22 ?_ | refine sp23 ?_ | refine sp24 ?_)) | ((with_reducible show wpAny _ _ (exec (Stmt.For (Expr.Name _ _) _ _ [] _) _) _ _ _); (with_unfolding_all refine' for_at ?F ?k1 ?k2 ?_ ?k3 ?k4; (case F => k_asm); (case k1 => exact rfl); (case k2 => exact rfl); (case k3 => intro _; rfl); (case k4 => assumption); k_whole)) | walk1 | (dsimp only; walk1) | (leave1; walk_say "STEP leave1"; try dsimp only) | fail "no step"))
      rename Fr g' _ _ _ => F6
      rename News g' _ _ _ => N6
      exact TurnEnd.intro F6 N6 hnI ⟨fun y h1 h2 => by (dsimp only); rw [if_neg h2, if_neg h1, if_neg h2], ⟨_, _, rfl, Int.fmod_nonneg_of_pos _ (by decide), Int.fmod_lt_of_pos _ (by decide)⟩, rfl⟩
    · intro m₁ news₁ h3 tk3 hJ F4 N4
      refine hide_goal (fun Hq => ?_)
      obtain ⟨e1, ⟨mx, t, e2, b0, b1⟩, rfl⟩ := hJ
      have F5 := fr_out2 _ _ F4 e1
      rw [e2] at F5
      (try dsimp only)
      clear F4
      (repeat' (first | (k_unfold; (try dsimp only)) | ((first | (with_reducible refine Then.next ?_) | (with_reducible refine Then.ret ?_) | (with_reducible refine Joined.next ?_) | (with_reducible refine Joined.ret ?_) | (with_reducible refine HidV.get (by with_reducible assumption) _ _ ?_) | (with_reducible refine Hdn.get (by with_reducible assumption) ?_) | (with_reducible refine TurnEnd.toRet ?_)); (try dsimp only)) | (k_end; wrow_close) | ((with_reducible refine hide_turn ?_); intro Q1 H1) | (with_reducible refine exec_hid ?_) | (with_reducible (first | refine sp1 ?_ | refine sp2 ?_ | refine sp3 ?_ | refine sp4 ?_ | refine sp5 ?_ | refine sp6 ?_ | refine sp7 ?_ | refine sp8 ?_ | refine sp9 ?_ | refine sp10 ?_ | refine sp11 ?_ | refine sp12 ?_ | refine sp13 ?_ | refine sp14 ?_ | refine sp15 ?_ | refine sp16 ?_ | refine sp17 ?_ | refine sp18 ?_ | refine sp19 ?_ | refine sp22 ?_ | refine sp23 ?_ | refine sp24 ?_)) | ((with_reducible show wpAny _ _ (exec (Stmt.For (Expr.Name _ _) _ _ [] _) _) _ _ _); (with_unfolding_all refine' for_at ?F ?k1 ?k2 ?_ ?k3 ?k4; (case F => k_asm); (case k1 => exact rfl); (case k2 => exact rfl); (case k3 => intro _; rfl); (case k4 => assumption); k_whole)) | walk1 | (dsimp only; walk1) | (leave1; walk_say "STEP leave1"; try dsimp only) | fail "no step"))
      rename Obj => oD
      rename Obj.IsDictOf _ oD _ => hD
      rename (_ ∧ AllLt _ _) => lD
      rename (_ == sysModules) = false => lo
      obtain ⟨lD1, lD2⟩ := lD
      have lD3 : ∀ {d : Nat} {l : List (Addr × Obj)}, AllLt d l → ∀ q ∈ l, q.1 ≠ d := by
        intro d l
        induction l with
        | nil => intro _ q hq; exact nomatch hq
        | cons a r ih =>
          intro h q hq
          rcases List.mem_cons.mp hq with rfl | hq
          · exact Nat.ne_of_lt h.1
          · exact ih h.2 q hq
      exact hret _ D9 oD (LCg.lst ys) (Nat.ne_of_gt lD1) (off1_ne off9) (lD3 lD2) lo (fun _ k => k ys ks _ mx t hys (by rw [hyl]; exact hwl) hkb hD b0 b1) _ _ (by k_asm) (by k_asm)
end
end
section
theorem fr_in2' {h₀ h : Heap} {L : Addr} {x z : Str} {v : Value} {m₀ m₁ : Str → Option Value} (F : Fr h₀ L h (fun y => if y = x then some v else m₁ y)) (e : ∀ y, y ≠ x → y ≠ z → m₁ y = m₀ y) :
    Fr h₀ L h (fun y => if y = x then some v else if y = z then m₁ z else m₀ y) := by
  have q : (fun y => if y = x then some v else m₁ y) = fun y => if y = x then some v else if y = z then m₁ z else m₀ y := by
    funext y
    by_cases h : y = x
    · rw [if_pos h, if_pos h]
    · rw [if_neg h, if_neg h]
      by_cases h2 : y = z
      · rw [if_pos h2, h2]
      · rw [if_neg h2, e y h h2]
  exact q ▸ F
theorem lm_list {w : World} {h : Heap} (X : (hd.heap_39 w.params).In h) : h.IsList 142 ([.ref 140, .ref 141] : List Value).toArray := ⟨_, X 142 _ rfl, rfl, _, rfl⟩
theorem lm_mm {w : World} {h : Heap} (X : (hd.heap_39 w.params).In h) : ∃ items : List Value, h.IsList 140 items.toArray ∧ StrsAre items MM :=
  ⟨_, ⟨_, X 140 _ rfl, rfl, _, rfl⟩, .cons _ _ (.cons _ _ (.cons _ _ (.cons _ _ .nil)))⟩
theorem lm_me {w : World} {h : Heap} (X : (hd.heap_39 w.params).In h) : ∃ items : List Value, h.IsList 141 items.toArray ∧ StrsAre items ME :=
  ⟨_, ⟨_, X 141 _ rfl, rfl, _, rfl⟩, .cons _ _ (.cons _ _ (.cons _ _ (.cons _ _ .nil)))⟩
theorem MM_ME_length {g : List Str} (hg : g ∈ [MM, ME]) : g.length = 4 := by
  rcases List.mem_cons.mp hg with rfl | hg
  · exact MM_length
  · rw [List.mem_singleton.mp hg]; exact ME_length
theorem group_at {w : World} {h : Heap} {i : Nat} {v : Value} {C : Prop} (X : (hd.heap_39 w.params).In h) (hv : ([.ref 140, .ref 141] : List Value)[i]? = some v) (k : ∀ gi G items og, v = .ref gi → [MM, ME][i]? = some G → h.IsList gi (List.toArray items) → StrsAre items G → h.get? gi = some og → C) : C :=
  match i, hv with
  | 0, e => (lm_mm X).elim fun items a => k 140 MM items _ (Option.some.inj e).symm rfl a.1 a.2 (X 140 _ rfl)
  | 1, e => (lm_me X).elim fun items a => k 141 ME items _ (Option.some.inj e).symm rfl a.1 a.2 (X 141 _ rfl)
noncomputable def stepG (w : Str) (b : Bool) (T : List (Str × Bool)) (g : List Str) : List (Str × Bool) := if b && g.any (· == w) then g.foldl (fun S o => storeB S o false) T else T
theorem mm_me : MM.all (fun x => !ME.any (· == x)) = true := by decide +kernel
theorem steps_set (T : List (Str × Bool)) (w : Str) (b : Bool) : storeB ([MM, ME].foldl (stepG w b) T) w b = setB T w b := by
  unfold setB
  congr 1
  simp only [List.foldl_cons, List.foldl_nil]
  cases b with
  | false => simp [stepG]
  | true =>
    simp only [if_true]
    unfold groupOf
    by_cases h : MM.any (· == w) = true
    · have hE : ME.any (· == w) = false := by
        obtain ⟨x, hx, e⟩ := List.any_eq_true.mp h
        have e' : x = w := by simpa using e
        have := List.all_eq_true.mp mm_me x hx
        rw [e'] at this
        simpa using this
      simp [stepG, h, hE]
    · by_cases hE : ME.any (· == w) = true
      · simp [stepG, h, hE]
      · simp [stepG, h, hE]
section
variable {w : World} {p : Program} {loose : List Str} {mean : ExcName → Option Value} {mg mb : Str → Option Value}
theorem length_steps (w : Str) (b : Bool) : ∀ (G : List (List Str)) (T : List (Str × Bool)), (∀ g ∈ G, g.length ≤ 4) → (G.foldl (stepG w b) T).length ≤ T.length + 4 * G.length
  | [], T, _ => by simp
  | g :: G, T, h => by
    rw [List.foldl_cons]
    have h1 := length_steps w b G (stepG w b T g) fun x hx => h x (.tail _ hx)
    have h2 := length_foldl_false g T
    have h3 := h g (.head _)
    have h4 : (stepG w b T g).length ≤ T.length + 4 := by
      unfold stepG
      split
      · exact Nat.le_trans h2 (Nat.add_le_add_left h3 _)
      · exact Nat.le_add_right _ _
    rw [List.length_cons, Nat.mul_succ, Nat.add_comm (4 * _), ← Nat.add_assoc]
    exact Nat.le_trans h1 (Nat.add_le_add_right h4 _)
theorem steps_take_succ (w : Str) (b : Bool) (G : List (List Str)) (T : List (Str × Bool)) {i : Nat} {g : List Str} (h : G[i]? = some g) : (G.take (i + 1)).foldl (stepG w b) T = stepG w b ((G.take i).foldl (stepG w b) T) g := by
  rw [List.take_add_one, h]; simp
theorem c_lset {dT : Addr} {t : Tok} {oT : Obj} {T : List (Str × Bool)} {word : Str} {b : Bool} :
    Con w p loose mean mg mb 163 2 [.ref dT, .str word t, .bool b]
     (fun news G => (dT, oT) ∈ news → oT.IsDictOf (strKind PG w) (vals T) → T.length ≤ 1000 → G)
     (fun news P => ∀ oT', oT'.IsDictOf (strKind PG w) (vals (setB T word b)) → P .none (updL news dT oT')) := by
  unfold Con
  intro A env outer A₀ base h₀ L m news hp0 G0 Dr0 tk0 O0 Q E hA hf hke B F X N T0 hd hu hdT hT hlen hret
  refine wpAny_call ?_
  k_dflt (refine' code_defG (binds := [(Str.ofString "states", .ref dT), (Str.ofString "word", .str word t), (Str.ofString "is_on", .bool b)]) ?k1 ?k2 ?k3 ?k4 ?k5 ?kA ?kF ?kK ?k6 ?k7 ?kd ?ku ?k9 ?kB ?_ ?c2 ?c3 ?c4 ?c5; (case kA => assumption); (case kF => assumption); (case kK => assumption); (case k1 => k_asm); (case k2 => k_asm); (case k3 => k_asm); (case k4 => k_asm); (case k5 => k_asm); (case k6 => k_is); (case k7 => k_is); (case kd => assumption); (case ku => assumption); (case k9 => exact BindsTo.of_eq rfl); (case c5 => decide); (case kB => exact locs rfl); (case c2 => exact rfl); (case c3 => exact rfl); (case c4 => exact rfl); k_whole; intro A1 g' L' h' tk' Q1 E1 hA1 hd1 hu1 FG' F' N' B' X' T' H1 P1; (try dsimp only))
  (repeat' (first | (k_unfold; (try dsimp only)) | ((first | (with_reducible refine Then.next ?_) | (with_reducible refine Then.ret ?_) | (with_reducible refine Joined.next ?_) | (with_reducible refine Joined.ret ?_) | (with_reducible refine HidV.get (by with_reducible assumption) _ _ ?_) | (with_reducible refine Hdn.get (by with_reducible assumption) ?_) | (with_reducible refine TurnEnd.toRet ?_)); (try dsimp only)) | (k_end; wrow_close) | ((with_reducible refine hide_turn ?_); intro Q1 H1) | (with_reducible refine exec_hid ?_) | (with_reducible (first | refine sp1 ?_ | refine sp2 ?_ | refine sp3 ?_ | refine sp4 ?_ | refine sp5 ?_ | refine sp6 ?_ | refine sp7 ?_ | refine sp8 ?_ | refine sp9 ?_ | refine sp10 ?_ | refine sp11 ?_ | refine sp12 ?_ | refine sp13 ?_ | refine sp14 ?_ | refine sp15 ?_ | refine sp16 ?_ | refine sp17 ?_ | refine sp18 ?_ | refine sp19 ?_ | refine sp22 ?_ | refine sp23 ?_ | refine sp24 ?_)) | ((with_reducible show wpAny _ _ (exec (Stmt.For (Expr.Name _ _) _ _ [] _) _) _ _ _); (with_unfolding_all refine' for_at ?F ?k1 ?k2 ?_ ?k3 ?k4; (case F => k_asm); (case k1 => exact rfl); (case k2 => exact rfl); (case k3 => intro _; rfl); (case k4 => assumption); k_whole)) | walk1 | (dsimp only; walk1) | (leave1; walk_say "STEP leave1"; try dsimp only) | fail "no step"))
  rename News g' L' _ _ => N2
  rename Fr g' L' _ _ => F2
  have hG4 : ∀ g ∈ [MM, ME], g.length ≤ 4 := fun g hg => Nat.le_of_eq (MM_ME_length hg)
  refine loop_list (vs := [.ref 140, .ref 141]) (fun i m₁ nw => (∀ y, y ≠ Str.ofString "group" → y ≠ Str.ofString "mate" → m₁ y = List.lookup y [(Str.ofString "states", Value.ref dT), (Str.ofString "word", Value.str word t), (Str.ofString "is_on", Value.bool b)].reverse) ∧
      ∃ o, nw = updL news dT o ∧ o.IsDictOf (strKind PG w) (vals (([MM, ME].take i).foldl (stepG word b) T))) rfl (lm_list (X'.keeps F2.keep)) (low_of F2 (X' 142 _ rfl)) F2 N2 ⟨fun _ _ _ => rfl, oT, (updL_id N2 hdT).symm, hT⟩ ?_ ?_
  · intro I i v m₁ news₁ own h3 tk3 hv hlt hI hown hJ hnI F4 N4
    refine hide_goal (fun Hq => ?_)
    obtain ⟨e1, o1, rfl, hd1⟩ := hJ
    refine group_at X' hv fun gi G items og e hG hgl hgs hog => ?_
    subst e
    have F5 := fr_in2' F4 e1
    have hgo : dT ≠ gi := low_news N2 hog (dT, oT) hdT
    have h142 : dT ≠ 142 := low_news N2 (X' 142 _ rfl) (dT, oT) hdT
    have hG5 : G.length ≤ 4 := hG4 G (List.mem_of_getElem? hG)
    have hl1 : (([MM, ME].take i).foldl (stepG word b) T).length ≤ T.length + 8 := by
      exact Nat.le_trans (length_steps word b ([MM, ME].take i) T fun g hg => hG4 g (List.mem_of_mem_take hg)) (Nat.add_le_add_left (Nat.mul_le_mul_left 4 (show ([MM, ME].take i).length ≤ 2 from by rw [List.length_take]; exact Nat.min_le_right _ _)) _)
    (try ((first | (with_reducible refine Then.next ?_) | (with_reducible refine Then.ret ?_) | (with_reducible refine Joined.next ?_) | (with_reducible refine Joined.ret ?_) | (with_reducible refine HidV.get (by with_reducible assumption) _ _ ?_) | (with_reducible refine Hdn.get (by with_reducible assumption) ?_) | (with_reducible refine TurnEnd.toRet ?_)); (try dsimp only)))
    rw [steps_take_succ _ _ _ _ hG]
    generalize (([MM, ME].take i).foldl (stepG word b) T) = Ti at *
    clear F4 e1 hG
    (repeat' (first | (k_unfold; (try dsimp only)) | ((first | (with_reducible refine Then.next ?_) | (with_reducible refine Then.ret ?_) | (with_reducible refine Joined.next ?_) | (with_reducible refine Joined.ret ?_) | (with_reducible refine HidV.get (by with_reducible assumption) _ _ ?_) | (with_reducible refine Hdn.get (by with_reducible assumption) ?_) | (with_reducible refine TurnEnd.toRet ?_)); (try dsimp only)) | (k_end; wrow_close) | ((with_reducible refine hide_turn ?_); intro Q1 H1) | (with_reducible refine exec_hid ?_) | (with_reducible (first | refine sp1 ?_ | refine sp2 ?_ | refine sp3 ?_ | refine sp4 ?_ | refine sp5 ?_ | refine sp6 ?_ | refine sp7 ?_ | refine sp8 ?_ | refine sp9 ?_ | refine sp10 ?_ | refine sp11 ?_ | refine sp12 ?_ | refine sp13 ?_ | refine sp14 ?_ | refine sp15 ?_ | refine sp16 ?_ | refine sp17 ?_ | refine sp18 ?_ | refine sp19 ?_ | refine sp22 ?_ | refine sp23 ?_ | refine sp24 ?_)) | ((with_reducible show wpAny _ _ (exec (Stmt.For (Expr.Name _ _) _ _ [] _) _) _ _ _); (with_unfolding_all refine' for_at ?F ?k1 ?k2 ?_ ?k3 ?k4; (case F => k_asm); (case k1 => exact rfl); (case k2 => exact rfl); (case k3 => intro _; rfl); (case k4 => assumption); k_whole)) | walk1 | (dsimp only; walk1) | (leave1; walk_say "STEP leave1"; try dsimp only) | fail "no step"))
    · refine Stop.go ?_
      rename (b = true) => hb
      rename Fr g' _ _ _ => F6
      refine in_list_strs (hgl.at fun o e => F6.keep _ _ e) hgs ?_
      (repeat' (first | (k_unfold; (try dsimp only)) | ((first | (with_reducible refine Then.next ?_) | (with_reducible refine Then.ret ?_) | (with_reducible refine Joined.next ?_) | (with_reducible refine Joined.ret ?_) | (with_reducible refine HidV.get (by with_reducible assumption) _ _ ?_) | (with_reducible refine Hdn.get (by with_reducible assumption) ?_) | (with_reducible refine TurnEnd.toRet ?_)); (try dsimp only)) | (k_end; wrow_close) | ((with_reducible refine hide_turn ?_); intro Q1 H1) | (with_reducible refine exec_hid ?_) | (with_reducible (first | refine sp1 ?_ | refine sp2 ?_ | refine sp3 ?_ | refine sp4 ?_ | refine sp5 ?_ | refine sp6 ?_ | refine sp7 ?_ | refine sp8 ?_ | refine sp9 ?_ | refine sp10 ?_ | refine sp11 ?_ | refine sp12 ?_ | refine sp13 ?_ | refine sp14 ?_ | refine sp15 ?_ | refine sp16 ?_ | refine sp17 ?_ | refine sp18 ?_ | refine sp19 ?_ | refine sp22 ?_ | refine sp23 ?_ | refine sp24 ?_)) | ((with_reducible show wpAny _ _ (exec (Stmt.For (Expr.Name _ _) _ _ [] _) _) _ _ _); (with_unfolding_all refine' for_at ?F ?k1 ?k2 ?_ ?k3 ?k4; (case F => k_asm); (case k1 => exact rfl); (case k2 => exact rfl); (case k3 => intro _; rfl); (case k4 => assumption); k_whole)) | walk1 | (dsimp only; walk1) | (leave1; walk_say "STEP leave1"; try dsimp only) | fail "no step"))
      · rename (G.any _) = true => hany
        rename Fr g' _ _ _ => F6
        have zgl : ∀ {h : Heap} {m : Str → Option Value}, Fr g' L' h m → h.IsList gi items.toArray := fun F => hgl.at fun o e => F.keep _ _ e
        refine loop_list (vs := items) (fun j m₂ nw => (∀ y, y ≠ Str.ofString "mate" → m₂ y = (fun y => if y = Str.ofString "group" then some (Value.ref gi) else List.lookup y [(Str.ofString "states", Value.ref dT), (Str.ofString "word", Value.str word t), (Str.ofString "is_on", Value.bool b)].reverse) y) ∧
            ∃ o, nw = updL (own ++ updL news dT o1) dT o ∧ o.IsDictOf (strKind PG w) (vals ((G.take j).foldl (fun S o => storeB S o false) Ti))) rfl (zgl F6) (low_of F6 hog) F6 N4 ⟨?_, o1, (updL_id N4 (List.mem_append_right _ (updL_self hdT))).symm, hd1⟩ ?_ ?_
        · intro y h1
          dsimp only
          rw [if_neg h1]
        · intro I2 j v2 m₂ news₂ own2 h9 tk9 hv2 hlt2 hI2 hown2 hJ2 hnI2 F9 N9
          refine hide_goal (fun Hq => ?_)
          obtain ⟨e4, o2, rfl, hd2⟩ := hJ2
          obtain ⟨sw, st, rfl, hs⟩ := strsAt_get hgs hv2
          have F10 := fr_in F9 e4
          clear F9
          have hS' : (dT, o2) ∈ own2 ++ updL (own ++ updL news dT o1) dT o2 := List.mem_append_right _ (updL_self (List.mem_append_right _ (updL_self hdT)))
          (repeat' (first | (k_unfold; (try dsimp only)) | ((first | (with_reducible refine Then.next ?_) | (with_reducible refine Then.ret ?_) | (with_reducible refine Joined.next ?_) | (with_reducible refine Joined.ret ?_) | (with_reducible refine HidV.get (by with_reducible assumption) _ _ ?_) | (with_reducible refine Hdn.get (by with_reducible assumption) ?_) | (with_reducible refine TurnEnd.toRet ?_)); (try dsimp only)) | (k_end; wrow_close) | ((with_reducible refine hide_turn ?_); intro Q1 H1) | (with_reducible refine exec_hid ?_) | (with_reducible (first | refine sp1 ?_ | refine sp2 ?_ | refine sp3 ?_ | refine sp4 ?_ | refine sp5 ?_ | refine sp6 ?_ | refine sp7 ?_ | refine sp8 ?_ | refine sp9 ?_ | refine sp10 ?_ | refine sp11 ?_ | refine sp12 ?_ | refine sp13 ?_ | refine sp14 ?_ | refine sp15 ?_ | refine sp16 ?_ | refine sp17 ?_ | refine sp18 ?_ | refine sp19 ?_ | refine sp22 ?_ | refine sp23 ?_ | refine sp24 ?_)) | ((with_reducible show wpAny _ _ (exec (Stmt.For (Expr.Name _ _) _ _ [] _) _) _ _ _); (with_unfolding_all refine' for_at ?F ?k1 ?k2 ?_ ?k3 ?k4; (case F => k_asm); (case k1 => exact rfl); (case k2 => exact rfl); (case k3 => intro _; rfl); (case k4 => assumption); k_whole)) | walk1 | (dsimp only; walk1) | (leave1; walk_say "STEP leave1"; try dsimp only) | fail "no step"))
          refine dset (knd := strKind _ _) (by k_asm) (by k_asm) hS' hd2 (strKind_is _ _ _ _) ?_ (fun h11 o3 F11 N11 hd3 => ?_)
          · exact size_vals (Nat.le_trans (length_foldl_false _ _) (by rw [List.length_take]; (first | exact Nat.le_trans (by assumption) (by decide) | exact Nat.lt_of_le_of_lt (by assumption) (by decide) | omega)))
          (try dsimp only)
          (repeat' (first | (k_unfold; (try dsimp only)) | ((first | (with_reducible refine Then.next ?_) | (with_reducible refine Then.ret ?_) | (with_reducible refine Joined.next ?_) | (with_reducible refine Joined.ret ?_) | (with_reducible refine HidV.get (by with_reducible assumption) _ _ ?_) | (with_reducible refine Hdn.get (by with_reducible assumption) ?_) | (with_reducible refine TurnEnd.toRet ?_)); (try dsimp only)) | (k_end; wrow_close) | ((with_reducible refine hide_turn ?_); intro Q1 H1) | (with_reducible refine exec_hid ?_) | (with_reducible (first | refine sp1 ?_ | refine sp2 ?_ | refine sp3 ?_ | refine sp4 ?_ | refine sp5 ?_ | refine sp6 ?_ | refine sp7 ?_ | refine sp8 ?_ | refine sp9 ?_ | refine sp10 ?_ | refine sp11 ?_ | refine sp12 ?_ | refine sp13 ?_ | refine sp14 ?_ | refine sp15 ?_ | refine sp16 ?_ | refine sp17 ?_ | refine sp18 ?_ | refine sp19 ?_ | refine sp22 ?_ | refine sp23 ?_ | refine sp24 ?_)) | ((with_reducible show wpAny _ _ (exec (Stmt.For (Expr.Name _ _) _ _ [] _) _) _ _ _); (with_unfolding_all refine' for_at ?F ?k1 ?k2 ?_ ?k3 ?k4; (case F => k_asm); (case k1 => exact rfl); (case k2 => exact rfl); (case k3 => intro _; rfl); (case k4 => assumption); k_whole)) | walk1 | (dsimp only; walk1) | (leave1; walk_say "STEP leave1"; try dsimp only) | fail "no step"))
          have hoff : ∀ p ∈ own2, p.1 ≠ dT := own_off (o := o1) (List.mem_append_right _ (updL_self hdT)) hlt2 hown2 hgo
          rw [updL_own hoff] at N11
          rw [stored_vals, ← fold_take_succ _ _ hs] at hd3
          refine TurnEnd.intro F11 N11 (updL_neI hlt2) ⟨fun y hy => ?_, o3, rfl, hd3⟩
          exact if_neg hy
        · intro m₂ news₂ h9 tk9 hJ2 F9 N9
          refine hide_goal (fun Hq => ?_)
          obtain ⟨e4, o2, rfl, hd2⟩ := hJ2
          rw [hgs.length, List.take_length] at hd2
          rw [updL_own (own_off hdT hlt hown h142)] at N9
          (try dsimp only)
          (repeat' (first | (k_unfold; (try dsimp only)) | ((first | (with_reducible refine Then.next ?_) | (with_reducible refine Then.ret ?_) | (with_reducible refine Joined.next ?_) | (with_reducible refine Joined.ret ?_) | (with_reducible refine HidV.get (by with_reducible assumption) _ _ ?_) | (with_reducible refine Hdn.get (by with_reducible assumption) ?_) | (with_reducible refine TurnEnd.toRet ?_)); (try dsimp only)) | (k_end; wrow_close) | ((with_reducible refine hide_turn ?_); intro Q1 H1) | (with_reducible refine exec_hid ?_) | (with_reducible (first | refine sp1 ?_ | refine sp2 ?_ | refine sp3 ?_ | refine sp4 ?_ | refine sp5 ?_ | refine sp6 ?_ | refine sp7 ?_ | refine sp8 ?_ | refine sp9 ?_ | refine sp10 ?_ | refine sp11 ?_ | refine sp12 ?_ | refine sp13 ?_ | refine sp14 ?_ | refine sp15 ?_ | refine sp16 ?_ | refine sp17 ?_ | refine sp18 ?_ | refine sp19 ?_ | refine sp22 ?_ | refine sp23 ?_ | refine sp24 ?_)) | ((with_reducible show wpAny _ _ (exec (Stmt.For (Expr.Name _ _) _ _ [] _) _) _ _ _); (with_unfolding_all refine' for_at ?F ?k1 ?k2 ?_ ?k3 ?k4; (case F => k_asm); (case k1 => exact rfl); (case k2 => exact rfl); (case k3 => intro _; rfl); (case k4 => assumption); k_whole)) | walk1 | (dsimp only; walk1) | (leave1; walk_say "STEP leave1"; try dsimp only) | fail "no step"))
          refine TurnEnd.intro F9 N9 (updL_neI hlt) ⟨fun y h1 h2 => ?_, o2, rfl, ?_⟩
          · rw [e4 y h2]
            dsimp only
            rw [if_neg h1]
          · unfold stepG
            rw [hany, hb]
            exact hd2
      · rename (G.any _) = false => hany
        refine TurnEnd.intro F6 N4 hnI ⟨fun y h1 h2 => by dsimp only; rw [if_neg h1, if_neg h2], o1, rfl, ?_⟩
        unfold stepG
        rw [hany, hb]
        exact hd1
    · rename (b = false) => hb
      rename Fr g' _ _ _ => F6
      refine TurnEnd.intro F6 N4 hnI ⟨fun y h1 h2 => by dsimp only; rw [if_neg h1, if_neg h2], o1, rfl, ?_⟩
      unfold stepG
      rw [hb]
      exact hd1
  · intro m₁ news₁ h3 tk3 hJ F4 N4
    refine hide_goal (fun Hq => ?_)
    obtain ⟨e1, o1, rfl, hd1⟩ := hJ
    have F5 := fr_out2 _ _ F4 e1
    clear F4
    (try dsimp only)
    (repeat' (first | (k_unfold; (try dsimp only)) | ((first | (with_reducible refine Then.next ?_) | (with_reducible refine Then.ret ?_) | (with_reducible refine Joined.next ?_) | (with_reducible refine Joined.ret ?_) | (with_reducible refine HidV.get (by with_reducible assumption) _ _ ?_) | (with_reducible refine Hdn.get (by with_reducible assumption) ?_) | (with_reducible refine TurnEnd.toRet ?_)); (try dsimp only)) | (k_end; wrow_close) | ((with_reducible refine hide_turn ?_); intro Q1 H1) | (with_reducible refine exec_hid ?_) | (with_reducible (first | refine sp1 ?_ | refine sp2 ?_ | refine sp3 ?_ | refine sp4 ?_ | refine sp5 ?_ | refine sp6 ?_ | refine sp7 ?_ | refine sp8 ?_ | refine sp9 ?_ | refine sp10 ?_ | refine sp11 ?_ | refine sp12 ?_ | refine sp13 ?_ | refine sp14 ?_ | refine sp15 ?_ | refine sp16 ?_ | refine sp17 ?_ | refine sp18 ?_ | refine sp19 ?_ | refine sp22 ?_ | refine sp23 ?_ | refine sp24 ?_)) | ((with_reducible show wpAny _ _ (exec (Stmt.For (Expr.Name _ _) _ _ [] _) _) _ _ _); (with_unfolding_all refine' for_at ?F ?k1 ?k2 ?_ ?k3 ?k4; (case F => k_asm); (case k1 => exact rfl); (case k2 => exact rfl); (case k3 => intro _; rfl); (case k4 => assumption); k_whole)) | walk1 | (dsimp only; walk1) | (leave1; walk_say "STEP leave1"; try dsimp only) | fail "no step"))
    have hS' : (dT, o1) ∈ updL news dT o1 := updL_self hdT
    have hlen2 := length_steps word b [MM, ME] T hG4
    refine dset (knd := strKind _ _) (by k_asm) (by k_asm) hS' hd1 (strKind_is _ _ _ _) ?_ (fun h6 o6 F6 N6 hd6 => ?_)
    · exact size_vals (Nat.le_trans hlen2 (Nat.le_trans (Nat.add_le_add_right hlen 8) (by decide)))
    (try dsimp only)
    (repeat' (first | (k_unfold; (try dsimp only)) | ((first | (with_reducible refine Then.next ?_) | (with_reducible refine Then.ret ?_) | (with_reducible refine Joined.next ?_) | (with_reducible refine Joined.ret ?_) | (with_reducible refine HidV.get (by with_reducible assumption) _ _ ?_) | (with_reducible refine Hdn.get (by with_reducible assumption) ?_) | (with_reducible refine TurnEnd.toRet ?_)); (try dsimp only)) | (k_end; wrow_close) | ((with_reducible refine hide_turn ?_); intro Q1 H1) | (with_reducible refine exec_hid ?_) | (with_reducible (first | refine sp1 ?_ | refine sp2 ?_ | refine sp3 ?_ | refine sp4 ?_ | refine sp5 ?_ | refine sp6 ?_ | refine sp7 ?_ | refine sp8 ?_ | refine sp9 ?_ | refine sp10 ?_ | refine sp11 ?_ | refine sp12 ?_ | refine sp13 ?_ | refine sp14 ?_ | refine sp15 ?_ | refine sp16 ?_ | refine sp17 ?_ | refine sp18 ?_ | refine sp19 ?_ | refine sp22 ?_ | refine sp23 ?_ | refine sp24 ?_)) | ((with_reducible show wpAny _ _ (exec (Stmt.For (Expr.Name _ _) _ _ [] _) _) _ _ _); (with_unfolding_all refine' for_at ?F ?k1 ?k2 ?_ ?k3 ?k4; (case F => k_asm); (case k1 => exact rfl); (case k2 => exact rfl); (case k3 => intro _; rfl); (case k4 => assumption); k_whole)) | walk1 | (dsimp only; walk1) | (leave1; walk_say "STEP leave1"; try dsimp only) | fail "no step"))
    rename News h₀ L _ _ => N9
    rw [updL_updL] at N9
    refine hret o6 ?_ _ _ (by k_asm) N9
    rw [stored_vals] at hd6
    rw [← steps_set]
    exact hd6
end
end
section
noncomputable def saveB (S : List (Str × Bool)) (K : List (Str × Bool)) (k : Int) : List (Str × Bool) := match wordB k true with
  | none => K
  | some w => storeB K w (onB S w)
theorem save_take_succ (S K : List (Str × Bool)) {ns : List Int} {i : Nat} {k : Int} (h : ns[i]? = some k) : (ns.take (i + 1)).foldl (saveB S) K = saveB S ((ns.take i).foldl (saveB S) K) k := by
  rw [List.take_add_one, h]; simp
theorem length_saves (S : List (Str × Bool)) : ∀ (ns : List Int) (K : List (Str × Bool)), (ns.foldl (saveB S) K).length ≤ K.length + ns.length
  | [], K => by simp
  | k :: ns, K => by
    rw [List.foldl_cons]
    have h1 := length_saves S ns (saveB S K k)
    have h2 : (saveB S K k).length ≤ K.length + 1 := by
      unfold saveB
      split
      · exact Nat.le_add_right _ _
      · exact length_storeB _ _ _
    rw [List.length_cons, Nat.add_comm ns.length 1, ← Nat.add_assoc]
    exact Nat.le_trans h1 (Nat.add_le_add_right h2 _)
section
variable {w : World} {p : Program} {loose : List Str} {mean : ExcName → Option Value} {mg mb : Str → Option Value}
theorem c_save {x dx dS dK ln : Addr} {t1 t2 : Tok} {n kn : Nat} {oS oK : Obj} {S K : List (Str × Bool)} {vs : List Value} {ns : List Int} (hia : IntsAre vs ns) :
    Con w p loose mean mg mb 95 4 [.ref x, .ref ln]
     (fun news G => (x, instObj 77 dx) ∈ news → (dx, mdDict w t1 t2 n dS dK) ∈ news → (dS, oS) ∈ news → oS.IsDictOf (strKind PG w) (vals S) → (dS == sysModules) = false → (dK, oK) ∈ news → oK.IsDictOf (strKind PG w) (vals K) → (ln, listOf vs.toArray kn) ∈ news → K.length ≤ 500 → vs.length ≤ 60 → x ≠ dK → dx ≠ dK → dS ≠ dK → dK ≠ ln → G)
     (fun news P => ∀ oK', oK'.IsDictOf (strKind PG w) (vals (ns.foldl (saveB S) K)) → P .none (updL news dK oK')) := by
  unfold Con
  intro A env outer A₀ base h₀ L m news hp0 G0 Dr0 tk0 O0 Q E hA hf hke B F X N T hd hu hx hdx hdS hS hlo hdK hK hln lenK lenN ne1 ne2 ne3 ne4 hret
  refine wpAny_call ?_
  k_dflt (refine' code_defG (binds := [(Str.ofString "modes", .ref x), (Str.ofString "numbers", .ref ln)]) ?k1 ?k2 ?k3 ?k4 ?k5 ?kA ?kF ?kK ?k6 ?k7 ?kd ?ku ?k9 ?kB ?_ ?c2 ?c3 ?c4 ?c5; (case kA => assumption); (case kF => assumption); (case kK => assumption); (case k1 => k_asm); (case k2 => k_asm); (case k3 => k_asm); (case k4 => k_asm); (case k5 => k_asm); (case k6 => k_is); (case k7 => k_is); (case kd => assumption); (case ku => assumption); (case k9 => exact BindsTo.of_eq rfl); (case c5 => decide); (case kB => exact locs rfl); (case c2 => exact rfl); (case c3 => exact rfl); (case c4 => exact rfl); k_whole; intro A1 g' L' h' tk' Q1 E1 hA1 hd1 hu1 FG' F' N' B' X' T' H1 P1; (try dsimp only))
  (repeat' (first | (k_unfold; (try dsimp only)) | ((first | (with_reducible refine Then.next ?_) | (with_reducible refine Then.ret ?_) | (with_reducible refine Joined.next ?_) | (with_reducible refine Joined.ret ?_) | (with_reducible refine HidV.get (by with_reducible assumption) _ _ ?_) | (with_reducible refine Hdn.get (by with_reducible assumption) ?_) | (with_reducible refine TurnEnd.toRet ?_)); (try dsimp only)) | (k_end; wrow_close) | ((with_reducible refine hide_turn ?_); intro Q1 H1) | (with_reducible refine exec_hid ?_) | (with_reducible (first | refine sp1 ?_ | refine sp2 ?_ | refine sp3 ?_ | refine sp4 ?_ | refine sp5 ?_ | refine sp6 ?_ | refine sp7 ?_ | refine sp8 ?_ | refine sp9 ?_ | refine sp10 ?_ | refine sp11 ?_ | refine sp12 ?_ | refine sp13 ?_ | refine sp14 ?_ | refine sp15 ?_ | refine sp16 ?_ | refine sp17 ?_ | refine sp18 ?_ | refine sp19 ?_ | refine sp22 ?_ | refine sp23 ?_ | refine sp24 ?_)) | ((with_reducible show wpAny _ _ (exec (Stmt.For (Expr.Name _ _) _ _ [] _) _) _ _ _); (with_unfolding_all refine' for_at ?F ?k1 ?k2 ?_ ?k3 ?k4; (case F => k_asm); (case k1 => exact rfl); (case k2 => exact rfl); (case k3 => intro _; rfl); (case k4 => assumption); k_whole)) | walk1 | (dsimp only; walk1) | (leave1; walk_say "STEP leave1"; try dsimp only) | fail "no step"))
  rename News g' L' _ _ => N2
  rename Fr g' L' _ _ => F2
  have zl := N2 _ hln
  refine loop_list (vs := vs) (fun i m₁ nw => (∀ y, y ≠ Str.ofString "number" → y ≠ Str.ofString "word" → m₁ y = List.lookup y [(Str.ofString "modes", Value.ref x), (Str.ofString "numbers", Value.ref ln)].reverse) ∧
      ∃ o, nw = updL news dK o ∧ o.IsDictOf (strKind PG w) (vals ((ns.take i).foldl (saveB S) K))) rfl ⟨_, zl.1, rfl, _, rfl⟩ zl.2.1 F2 N2 ⟨fun _ _ _ => rfl, oK, (updL_id N2 hdK).symm, hK⟩ ?_ ?_
  · intro I i v m₁ news₁ own h3 tk3 hv hlt hI hown hJ hnI F4 N4
    refine hide_goal (fun Hq => ?_)
    obtain ⟨e1, o1, rfl, hd1⟩ := hJ
    obtain ⟨kv, kt, rfl, hk2⟩ := IntsAre.at hia i v hv
    have F5 := fr_in2' F4 e1
    have hl1 := length_saves S (ns.take i) K
    have hl2 : (ns.take i).length ≤ 60 := by rw [List.length_take, ← hia.length]; exact Nat.le_trans (Nat.min_le_right _ _) lenN
    (try ((first | (with_reducible refine Then.next ?_) | (with_reducible refine Then.ret ?_) | (with_reducible refine Joined.next ?_) | (with_reducible refine Joined.ret ?_) | (with_reducible refine HidV.get (by with_reducible assumption) _ _ ?_) | (with_reducible refine Hdn.get (by with_reducible assumption) ?_) | (with_reducible refine TurnEnd.toRet ?_)); (try dsimp only)))
    rw [save_take_succ S K hk2]
    replace hl1 := Nat.le_trans hl1 (Nat.add_le_add lenK hl2)
    generalize (ns.take i).foldl (saveB S) K = Ki at *
    have hx' := List.mem_append_right own (updL_ne (o' := o1) hx ne1)
    have hdx' := List.mem_append_right own (updL_ne (o' := o1) hdx ne2)
    have hdS' := List.mem_append_right own (updL_ne (o' := o1) hdS ne3)
    have hdK' := List.mem_append_right own (updL_self (o' := o1) hdK)
    clear F4 e1
    (repeat' (first | (k_unfold; (try dsimp only)) | ((first | (with_reducible refine Then.next ?_) | (with_reducible refine Then.ret ?_) | (with_reducible refine Joined.next ?_) | (with_reducible refine Joined.ret ?_) | (with_reducible refine HidV.get (by with_reducible assumption) _ _ ?_) | (with_reducible refine Hdn.get (by with_reducible assumption) ?_) | (with_reducible refine TurnEnd.toRet ?_)); (try dsimp only)) | (k_end; wrow_close) | ((with_reducible refine hide_turn ?_); intro Q1 H1) | (with_reducible refine exec_hid ?_) | (with_reducible (first | refine sp1 ?_ | refine sp2 ?_ | refine sp3 ?_ | refine sp4 ?_ | refine sp5 ?_ | refine sp6 ?_ | refine sp7 ?_ | refine sp8 ?_ | refine sp9 ?_ | refine sp10 ?_ | refine sp11 ?_ | refine sp12 ?_ | refine sp13 ?_ | refine sp14 ?_ | refine sp15 ?_ | refine sp16 ?_ | refine sp17 ?_ | refine sp18 ?_ | refine sp19 ?_ | refine sp22 ?_ | refine sp23 ?_ | refine sp24 ?_)) | ((with_reducible show wpAny _ _ (exec (Stmt.For (Expr.Name _ _) _ _ [] _) _) _ _ _); (with_unfolding_all refine' for_at ?F ?k1 ?k2 ?_ ?k3 ?k4; (case F => k_asm); (case k1 => exact rfl); (case k2 => exact rfl); (case k3 => intro _; rfl); (case k4 => assumption); k_whole)) | walk1 | (dsimp only; walk1) | (leave1; walk_say "STEP leave1"; try dsimp only) | fail "no step"))
    refine Stop.go ?_
    k_dflt (refine' (c_word) _ _ _ _ _ _ _ _ _ _ _ _ _ _ _ _ ?kA ?kF ?kK ?k1 ?k2 ?k3 ?k4 ?k5 ?kd ?ku  ?_; (case kA => assumption); (case kF => exact rfl); (case kK => exact rfl); (case k1 => k_asm); (case k2 => k_asm); (case k3 => k_asm); (case k4 => k_asm); (case k5 => k_asm);  (case kd => exact room (by assumption) (by decide)); (case ku => exact room (by assumption) (by decide)); refine ⟨fun ew => ?_, fun sw st ew => ?_⟩ <;> intro h6 tk6 F6 N6)
    · (try dsimp only)
      (repeat' (first | (k_unfold; (try dsimp only)) | ((first | (with_reducible refine Then.next ?_) | (with_reducible refine Then.ret ?_) | (with_reducible refine Joined.next ?_) | (with_reducible refine Joined.ret ?_) | (with_reducible refine HidV.get (by with_reducible assumption) _ _ ?_) | (with_reducible refine Hdn.get (by with_reducible assumption) ?_) | (with_reducible refine TurnEnd.toRet ?_)); (try dsimp only)) | (k_end; wrow_close) | ((with_reducible refine hide_turn ?_); intro Q1 H1) | (with_reducible refine exec_hid ?_) | (with_reducible (first | refine sp1 ?_ | refine sp2 ?_ | refine sp3 ?_ | refine sp4 ?_ | refine sp5 ?_ | refine sp6 ?_ | refine sp7 ?_ | refine sp8 ?_ | refine sp9 ?_ | refine sp10 ?_ | refine sp11 ?_ | refine sp12 ?_ | refine sp13 ?_ | refine sp14 ?_ | refine sp15 ?_ | refine sp16 ?_ | refine sp17 ?_ | refine sp18 ?_ | refine sp19 ?_ | refine sp22 ?_ | refine sp23 ?_ | refine sp24 ?_)) | ((with_reducible show wpAny _ _ (exec (Stmt.For (Expr.Name _ _) _ _ [] _) _) _ _ _); (with_unfolding_all refine' for_at ?F ?k1 ?k2 ?_ ?k3 ?k4; (case F => k_asm); (case k1 => exact rfl); (case k2 => exact rfl); (case k3 => intro _; rfl); (case k4 => assumption); k_whole)) | walk1 | (dsimp only; walk1) | (leave1; walk_say "STEP leave1"; try dsimp only) | fail "no step"))
      rename Fr g' _ _ _ => F7
      rename News g' _ _ _ => N7
      refine TurnEnd.intro F7 N7 hnI ⟨fun y h1 h2 => by dsimp only; simp only [if_neg h1, if_neg h2], o1, rfl, ?_⟩
      unfold saveB
      rw [ew]
      exact hd1
    · (try dsimp only)
      (repeat' (first | (k_unfold; (try dsimp only)) | ((first | (with_reducible refine Then.next ?_) | (with_reducible refine Then.ret ?_) | (with_reducible refine Joined.next ?_) | (with_reducible refine Joined.ret ?_) | (with_reducible refine HidV.get (by with_reducible assumption) _ _ ?_) | (with_reducible refine Hdn.get (by with_reducible assumption) ?_) | (with_reducible refine TurnEnd.toRet ?_)); (try dsimp only)) | (k_end; wrow_close) | ((with_reducible refine hide_turn ?_); intro Q1 H1) | (with_reducible refine exec_hid ?_) | (with_reducible (first | refine sp1 ?_ | refine sp2 ?_ | refine sp3 ?_ | refine sp4 ?_ | refine sp5 ?_ | refine sp6 ?_ | refine sp7 ?_ | refine sp8 ?_ | refine sp9 ?_ | refine sp10 ?_ | refine sp11 ?_ | refine sp12 ?_ | refine sp13 ?_ | refine sp14 ?_ | refine sp15 ?_ | refine sp16 ?_ | refine sp17 ?_ | refine sp18 ?_ | refine sp19 ?_ | refine sp22 ?_ | refine sp23 ?_ | refine sp24 ?_)) | ((with_reducible show wpAny _ _ (exec (Stmt.For (Expr.Name _ _) _ _ [] _) _) _ _ _); (with_unfolding_all refine' for_at ?F ?k1 ?k2 ?_ ?k3 ?k4; (case F => k_asm); (case k1 => exact rfl); (case k2 => exact rfl); (case k3 => intro _; rfl); (case k4 => assumption); k_whole)) | walk1 | (dsimp only; walk1) | (leave1; walk_say "STEP leave1"; try dsimp only) | fail "no step"))
      refine Stop.go ?_
      k_dflt (refine' (c_isOn (S := S)) _ _ _ _ _ _ _ _ _ _ _ _ _ _ _ _ ?kA ?kF ?kK ?k1 ?k2 ?k3 ?k4 ?k5 ?kd ?ku ?p0 ?p1 ?p2 ?p3 ?p4 ?_; (case kA => assumption); (case kF => exact rfl); (case kK => exact rfl); (case k1 => k_asm); (case k2 => k_asm); (case k3 => k_asm); (case k4 => k_asm); (case k5 => k_asm); (case p0 => k_mem); (case p1 => k_mem); (case p2 => k_mem); (case p3 => exact hS); (case p4 => exact hlo); (case kd => exact room (by assumption) (by decide)); (case ku => exact room (by assumption) (by decide)); intro h8 tk8 F8 N8)
      (try dsimp only)
      (repeat' (first | (k_unfold; (try dsimp only)) | ((first | (with_reducible refine Then.next ?_) | (with_reducible refine Then.ret ?_) | (with_reducible refine Joined.next ?_) | (with_reducible refine Joined.ret ?_) | (with_reducible refine HidV.get (by with_reducible assumption) _ _ ?_) | (with_reducible refine Hdn.get (by with_reducible assumption) ?_) | (with_reducible refine TurnEnd.toRet ?_)); (try dsimp only)) | (k_end; wrow_close) | ((with_reducible refine hide_turn ?_); intro Q1 H1) | (with_reducible refine exec_hid ?_) | (with_reducible (first | refine sp1 ?_ | refine sp2 ?_ | refine sp3 ?_ | refine sp4 ?_ | refine sp5 ?_ | refine sp6 ?_ | refine sp7 ?_ | refine sp8 ?_ | refine sp9 ?_ | refine sp10 ?_ | refine sp11 ?_ | refine sp12 ?_ | refine sp13 ?_ | refine sp14 ?_ | refine sp15 ?_ | refine sp16 ?_ | refine sp17 ?_ | refine sp18 ?_ | refine sp19 ?_ | refine sp22 ?_ | refine sp23 ?_ | refine sp24 ?_)) | ((with_reducible show wpAny _ _ (exec (Stmt.For (Expr.Name _ _) _ _ [] _) _) _ _ _); (with_unfolding_all refine' for_at ?F ?k1 ?k2 ?_ ?k3 ?k4; (case F => k_asm); (case k1 => exact rfl); (case k2 => exact rfl); (case k3 => intro _; rfl); (case k4 => assumption); k_whole)) | walk1 | (dsimp only; walk1) | (leave1; walk_say "STEP leave1"; try dsimp only) | fail "no step"))
      refine dset (knd := strKind _ _) (by k_asm) (by k_asm) hdK' hd1 (strKind_is _ _ _ _) (size_vals (Nat.le_trans hl1 (by decide))) (fun h11 o3 F11 N11 hd3 => ?_)
      (try dsimp only)
      (repeat' (first | (k_unfold; (try dsimp only)) | ((first | (with_reducible refine Then.next ?_) | (with_reducible refine Then.ret ?_) | (with_reducible refine Joined.next ?_) | (with_reducible refine Joined.ret ?_) | (with_reducible refine HidV.get (by with_reducible assumption) _ _ ?_) | (with_reducible refine Hdn.get (by with_reducible assumption) ?_) | (with_reducible refine TurnEnd.toRet ?_)); (try dsimp only)) | (k_end; wrow_close) | ((with_reducible refine hide_turn ?_); intro Q1 H1) | (with_reducible refine exec_hid ?_) | (with_reducible (first | refine sp1 ?_ | refine sp2 ?_ | refine sp3 ?_ | refine sp4 ?_ | refine sp5 ?_ | refine sp6 ?_ | refine sp7 ?_ | refine sp8 ?_ | refine sp9 ?_ | refine sp10 ?_ | refine sp11 ?_ | refine sp12 ?_ | refine sp13 ?_ | refine sp14 ?_ | refine sp15 ?_ | refine sp16 ?_ | refine sp17 ?_ | refine sp18 ?_ | refine sp19 ?_ | refine sp22 ?_ | refine sp23 ?_ | refine sp24 ?_)) | ((with_reducible show wpAny _ _ (exec (Stmt.For (Expr.Name _ _) _ _ [] _) _) _ _ _); (with_unfolding_all refine' for_at ?F ?k1 ?k2 ?_ ?k3 ?k4; (case F => k_asm); (case k1 => exact rfl); (case k2 => exact rfl); (case k3 => intro _; rfl); (case k4 => assumption); k_whole)) | walk1 | (dsimp only; walk1) | (leave1; walk_say "STEP leave1"; try dsimp only) | fail "no step"))
      rw [updL_own (own_off hdK hlt hown ne4)] at N11
      rw [stored_vals] at hd3
      refine TurnEnd.intro F11 N11 (updL_neI hlt) ⟨fun y h1 h2 => by dsimp only; simp only [if_neg h1, if_neg h2], o3, rfl, ?_⟩
      unfold saveB
      rw [ew]
      exact hd3
  · intro m₁ news₁ h3 tk3 hJ F4 N4
    refine hide_goal (fun Hq => ?_)
    obtain ⟨e1, o1, rfl, hd1⟩ := hJ
    have F5 := fr_out2 _ _ F4 e1
    rw [show vs.length = ns.length from hia.length, List.take_length] at hd1
    clear F4
    (try dsimp only)
    (repeat' (first | (k_unfold; (try dsimp only)) | ((first | (with_reducible refine Then.next ?_) | (with_reducible refine Then.ret ?_) | (with_reducible refine Joined.next ?_) | (with_reducible refine Joined.ret ?_) | (with_reducible refine HidV.get (by with_reducible assumption) _ _ ?_) | (with_reducible refine Hdn.get (by with_reducible assumption) ?_) | (with_reducible refine TurnEnd.toRet ?_)); (try dsimp only)) | (k_end; wrow_close) | ((with_reducible refine hide_turn ?_); intro Q1 H1) | (with_reducible refine exec_hid ?_) | (with_reducible (first | refine sp1 ?_ | refine sp2 ?_ | refine sp3 ?_ | refine sp4 ?_ | refine sp5 ?_ | refine sp6 ?_ | refine sp7 ?_ | refine sp8 ?_ | refine sp9 ?_ | refine sp10 ?_ | refine sp11 ?_ | refine sp12 ?_ | refine sp13 ?_ | refine sp14 ?_ | refine sp15 ?_ | refine sp16 ?_ | refine sp17 ?_ | refine sp18 ?_ | refine sp19 ?_ | refine sp22 ?_ | refine sp23 ?_ | refine sp24 ?_)) | ((with_reducible show wpAny _ _ (exec (Stmt.For (Expr.Name _ _) _ _ [] _) _) _ _ _); (with_unfolding_all refine' for_at ?F ?k1 ?k2 ?_ ?k3 ?k4; (case F => k_asm); (case k1 => exact rfl); (case k2 => exact rfl); (case k3 => intro _; rfl); (case k4 => assumption); k_whole)) | walk1 | (dsimp only; walk1) | (leave1; walk_say "STEP leave1"; try dsimp only) | fail "no step"))
    rename News h₀ L _ _ => N9
    exact hret o1 hd1 _ _ (by k_asm) N9
end
end
section
section
variable {prog : Program} {w : World} {A : Around} {E : Value → Shared → Prop} {s : Shared} {h₀ : Heap} {L D : Addr} {m : Str → Option Value} {news : List (Addr × Obj)} {n : Nat} {y : Value} {r : List Value} {u : Tok}
theorem append1 {Q : Value → Shared → Prop} (F : Fr h₀ L s.heap m) (N : News h₀ L s.heap news) (hm : (D, listOf r.toArray n) ∈ news) (hz : r.length ≤ 1000)
    (h : ∀ h' tk, Fr h₀ L h' m → News h₀ L h' (updL news D (listOf (r ++ [y]).toArray (n + 1))) → Q .none { s with heap := h', toks := tk }) : wpAny (model prog w) A (call (.builtin "list.append") [.ref D, y]) Q E s := by
  have z := N _ hm
  have hz' : r.toArray.size ≤ sizeLine := by rw [List.size_toArray, sizeLine_eq]; (first | exact Nat.le_trans (by assumption) (by decide) | exact Nat.lt_of_le_of_lt (by assumption) (by decide) | omega)
  refine call_meets PySem.F.slot_list_append ⟨_, z.1, rfl⟩ PySem.F.entry_list_append (PySem.args_list_append _ _) (PySem.AutoListH.list_append_list_val_0 D _ n y hz') ⟨z.1, h _ _ (F.change (Heap.SameBut.update ..) z.2.1 z.2.2) (News.update N hm (Heap.SameBut.update ..) ?_)⟩
  have q := PySem.IsL.update z.1 (fun a => a.push y)
  rw [if_neg (by simp), show (r.toArray.push y) = (r ++ [y]).toArray by simp] at q
  exact q
end
theorem updL_key_ne {news : List (Addr × Obj)} {d I : Addr} {o : Obj} (h : ∀ q ∈ news, q.1 ≠ I) : ∀ q ∈ updL news d o, q.1 ≠ I := by
  intro q hq
  have h1 : q.1 ∈ (updL news d o).map (·.1) := List.mem_map_of_mem hq
  rw [updL_keys] at h1
  obtain ⟨r, hr, e⟩ := List.mem_map.mp h1
  rw [← e]; exact h r hr
def Rows (nw : List (Addr × Obj)) : List Value → List (Str × Bool) → Prop
  | [], [] => True
  | v :: vs, p :: ps => (∃ a t n, v = .ref a ∧ (a, tupO [.str p.1 t, .bool p.2] n) ∈ nw) ∧ Rows nw vs ps
  | _, _ => False
theorem Rows.mono {nw nw' : List (Addr × Obj)} : ∀ {vs : List Value} {ps : List (Str × Bool)}, Rows nw vs ps → (∀ a its n, (a, tupO its n) ∈ nw → (a, tupO its n) ∈ nw') → Rows nw' vs ps
  | [], [], _, _ => trivial
  | _ :: _, _ :: _, h, hs => ⟨let ⟨a, t, n, e, hm⟩ := h.1; ⟨a, t, n, e, hs _ _ _ hm⟩, Rows.mono h.2 hs⟩
  | [], _ :: _, h, _ => h.elim
  | _ :: _, [], h, _ => h.elim
theorem Rows.app {nw : List (Addr × Obj)} : ∀ {vs us : List Value} {ps qs : List (Str × Bool)}, Rows nw vs ps → Rows nw us qs → Rows nw (vs ++ us) (ps ++ qs)
  | [], _, [], _, _, h => h
  | _ :: _, _, _ :: _, _, h, h2 => ⟨h.1, Rows.app h.2 h2⟩
  | [], _, _ :: _, _, h, _ => h.elim
  | _ :: _, _, [], _, h, _ => h.elim
theorem Rows.length {nw : List (Addr × Obj)} : ∀ {vs : List Value} {ps : List (Str × Bool)}, Rows nw vs ps → vs.length = ps.length
  | [], [], _ => rfl
  | _ :: _, _ :: _, h => by rw [List.length_cons, List.length_cons, Rows.length h.2]
  | [], _ :: _, h => h.elim
  | _ :: _, [], h => h.elim
noncomputable def savedRow (K : List (Str × Bool)) (k : Int) : Option (Str × Bool) := match wordB k true with
  | none => none
  | some w => (getB K w).map fun b => (w, b)
noncomputable def savedB (K : List (Str × Bool)) (ns : List Int) : List (Str × Bool) := ns.filterMap (savedRow K)
theorem saved_take_succ (K : List (Str × Bool)) {ns : List Int} {i : Nat} {k : Int} (h : ns[i]? = some k) : savedB K (ns.take (i + 1)) = savedB K (ns.take i) ++ (savedRow K k).toList := by
  unfold savedB
  rw [List.take_add_one, h, List.filterMap_append]
  simp only [Option.toList_some, List.filterMap_cons, List.filterMap_nil]
  cases savedRow K k <;> rfl
theorem tup_not_list {a b : List Value} {n k : Nat} (h : tupO a n = listOf b.toArray k) : False := by
  have h := congrArg Obj.cls h
  simp [tupO, W.listOf] at h
section
variable {w : World} {p : Program} {loose : List Str} {mean : ExcName → Option Value} {mg mb : Str → Option Value}
theorem c_saved {x dx dS dK ln : Addr} {t1 t2 : Tok} {n kn : Nat} {oK : Obj} {K : List (Str × Bool)} {vs : List Value} {ns : List Int} (hia : IntsAre vs ns) :
    Con w p loose mean mg mb 102 4 [.ref x, .ref ln]
     (fun news G => (x, instObj 77 dx) ∈ news → (dx, mdDict w t1 t2 n dS dK) ∈ news → (dK, oK) ∈ news → oK.IsDictOf (strKind PG w) (vals K) → (dK == sysModules) = false → (ln, listOf vs.toArray kn) ∈ news → vs.length ≤ 60 → G)
     (fun news P => ∀ D us kn' nw, (D, listOf us.toArray kn') ∈ nw → Rows nw us (savedB K ns) → (∀ q ∈ news, q ∈ nw) → (∀ q ∈ news, q.1 ≠ D) → P (.ref D) nw) := by
  unfold Con
  intro A env outer A₀ base h₀ L m news hp0 G0 Dr0 tk0 O0 Q E hA hf hke B F X N T hd hu hx hdx hdK hK hlo hln lenN hret
  refine wpAny_call ?_
  k_dflt (refine' code_defG (binds := [(Str.ofString "modes", .ref x), (Str.ofString "numbers", .ref ln)]) ?k1 ?k2 ?k3 ?k4 ?k5 ?kA ?kF ?kK ?k6 ?k7 ?kd ?ku ?k9 ?kB ?_ ?c2 ?c3 ?c4 ?c5; (case kA => assumption); (case kF => assumption); (case kK => assumption); (case k1 => k_asm); (case k2 => k_asm); (case k3 => k_asm); (case k4 => k_asm); (case k5 => k_asm); (case k6 => k_is); (case k7 => k_is); (case kd => assumption); (case ku => assumption); (case k9 => exact BindsTo.of_eq rfl); (case c5 => decide); (case kB => exact locs rfl); (case c2 => exact rfl); (case c3 => exact rfl); (case c4 => exact rfl); k_whole; intro A1 g' L' h' tk' Q1 E1 hA1 hd1 hu1 FG' F' N' B' X' T' H1 P1; (try dsimp only))
  (repeat' (first | (k_unfold; (try dsimp only)) | ((first | (with_reducible refine Then.next ?_) | (with_reducible refine Then.ret ?_) | (with_reducible refine Joined.next ?_) | (with_reducible refine Joined.ret ?_) | (with_reducible refine HidV.get (by with_reducible assumption) _ _ ?_) | (with_reducible refine Hdn.get (by with_reducible assumption) ?_) | (with_reducible refine TurnEnd.toRet ?_)); (try dsimp only)) | (k_end; wrow_close) | ((with_reducible refine hide_turn ?_); intro Q1 H1) | (with_reducible refine exec_hid ?_) | (with_reducible (first | refine sp1 ?_ | refine sp2 ?_ | refine sp3 ?_ | refine sp4 ?_ | refine sp5 ?_ | refine sp6 ?_ | refine sp7 ?_ | refine sp8 ?_ | refine sp9 ?_ | refine sp10 ?_ | refine sp11 ?_ | refine sp12 ?_ | refine sp13 ?_ | refine sp14 ?_ | refine sp15 ?_ | refine sp16 ?_ | refine sp17 ?_ | refine sp18 ?_ | refine sp19 ?_ | refine sp22 ?_ | refine sp23 ?_ | refine sp24 ?_)) | ((with_reducible show wpAny _ _ (exec (Stmt.For (Expr.Name _ _) _ _ [] _) _) _ _ _); (with_unfolding_all refine' for_at ?F ?k1 ?k2 ?_ ?k3 ?k4; (case F => k_asm); (case k1 => exact rfl); (case k2 => exact rfl); (case k3 => intro _; rfl); (case k4 => assumption); k_whole)) | walk1 | (dsimp only; walk1) | (leave1; walk_say "STEP leave1"; try dsimp only) | fail "no step"))
  rename News g' L' _ _ => N2
  rename Fr g' L' _ _ => F2
  rename_i D _ l1 _
  have zl := N2 _ (.tail _ hln)
  refine loop_list (vs := vs) (fun i m₁ nw => (∀ y, y ≠ Str.ofString "number" → y ≠ Str.ofString "word" → m₁ y = (fun y => if y = Str.ofString "found" then some (Value.ref D) else List.lookup y [(Str.ofString "modes", Value.ref x), (Str.ofString "numbers", Value.ref ln)].reverse) y) ∧
      ∃ us k, (D, listOf us.toArray k) ∈ nw ∧ Rows nw us (savedB K (ns.take i)) ∧ us.length ≤ i ∧ ∀ q ∈ news, q ∈ nw) rfl ⟨_, zl.1, rfl, _, rfl⟩ zl.2.1 F2 N2 ⟨fun _ _ _ => rfl, [], 0, .head _, by simp [savedB, Rows], Nat.le_refl _, fun q hq => .tail _ hq⟩ ?_ ?_
  · intro I i v m₁ news₁ own h3 tk3 hv hlt hI hown hJ hnI F4 N4
    refine hide_goal (fun Hq => ?_)
    obtain ⟨e1, us, k, hus, hrows, hlen, hsub⟩ := hJ
    obtain ⟨kv, kt, rfl, hk2⟩ := IntsAre.at hia i v hv
    have F5 := fr_in2' F4 e1
    have hi60 : i < 60 := by
      rcases Nat.lt_or_ge i vs.length with q | q
      · exact Nat.lt_of_lt_of_le q lenN
      · rw [List.getElem?_eq_none q] at hv; cases hv
    (try ((first | (with_reducible refine Then.next ?_) | (with_reducible refine Then.ret ?_) | (with_reducible refine Joined.next ?_) | (with_reducible refine Joined.ret ?_) | (with_reducible refine HidV.get (by with_reducible assumption) _ _ ?_) | (with_reducible refine Hdn.get (by with_reducible assumption) ?_) | (with_reducible refine TurnEnd.toRet ?_)); (try dsimp only)))
    rw [saved_take_succ K hk2]
    generalize savedB K (ns.take i) = ri at *
    have hx' := List.mem_append_right own (hsub _ hx)
    have hdx' := List.mem_append_right own (hsub _ hdx)
    have hdK' := List.mem_append_right own (hsub _ hdK)
    have hus' := List.mem_append_right own hus
    clear F4 e1
    (repeat' (first | (k_unfold; (try dsimp only)) | ((first | (with_reducible refine Then.next ?_) | (with_reducible refine Then.ret ?_) | (with_reducible refine Joined.next ?_) | (with_reducible refine Joined.ret ?_) | (with_reducible refine HidV.get (by with_reducible assumption) _ _ ?_) | (with_reducible refine Hdn.get (by with_reducible assumption) ?_) | (with_reducible refine TurnEnd.toRet ?_)); (try dsimp only)) | (k_end; wrow_close) | ((with_reducible refine hide_turn ?_); intro Q1 H1) | (with_reducible refine exec_hid ?_) | (with_reducible (first | refine sp1 ?_ | refine sp2 ?_ | refine sp3 ?_ | refine sp4 ?_ | refine sp5 ?_ | refine sp6 ?_ | refine sp7 ?_ | refine sp8 ?_ | refine sp9 ?_ | refine sp10 ?_ | refine sp11 ?_ | refine sp12 ?_ | refine sp13 ?_ | refine sp14 ?_ | refine sp15 ?_ | refine sp16 ?_ | refine sp17 ?_ | refine sp18 ?_ | refine sp19 ?_ | refine sp22 ?_ | refine sp23 ?_ | refine sp24 ?_)) | ((with_reducible show wpAny _ _ (exec (Stmt.For (Expr.Name _ _) _ _ [] _) _) _ _ _); (with_unfolding_all refine' for_at ?F ?k1 ?k2 ?_ ?k3 ?k4; (case F => k_asm); (case k1 => exact rfl); (case k2 => exact rfl); (case k3 => intro _; rfl); (case k4 => assumption); k_whole)) | walk1 | (dsimp only; walk1) | (leave1; walk_say "STEP leave1"; try dsimp only) | fail "no step"))
    refine Stop.go ?_
    k_dflt (refine' (c_word) _ _ _ _ _ _ _ _ _ _ _ _ _ _ _ _ ?kA ?kF ?kK ?k1 ?k2 ?k3 ?k4 ?k5 ?kd ?ku  ?_; (case kA => assumption); (case kF => exact rfl); (case kK => exact rfl); (case k1 => k_asm); (case k2 => k_asm); (case k3 => k_asm); (case k4 => k_asm); (case k5 => k_asm);  (case kd => exact room (by assumption) (by decide)); (case ku => exact room (by assumption) (by decide)); refine ⟨fun ew => ?_, fun sw st ew => ?_⟩ <;> intro h6 tk6 F6 N6)
    · (try dsimp only)
      (repeat' (first | (k_unfold; (try dsimp only)) | ((first | (with_reducible refine Then.next ?_) | (with_reducible refine Then.ret ?_) | (with_reducible refine Joined.next ?_) | (with_reducible refine Joined.ret ?_) | (with_reducible refine HidV.get (by with_reducible assumption) _ _ ?_) | (with_reducible refine Hdn.get (by with_reducible assumption) ?_) | (with_reducible refine TurnEnd.toRet ?_)); (try dsimp only)) | (k_end; wrow_close) | ((with_reducible refine hide_turn ?_); intro Q1 H1) | (with_reducible refine exec_hid ?_) | (with_reducible (first | refine sp1 ?_ | refine sp2 ?_ | refine sp3 ?_ | refine sp4 ?_ | refine sp5 ?_ | refine sp6 ?_ | refine sp7 ?_ | refine sp8 ?_ | refine sp9 ?_ | refine sp10 ?_ | refine sp11 ?_ | refine sp12 ?_ | refine sp13 ?_ | refine sp14 ?_ | refine sp15 ?_ | refine sp16 ?_ | refine sp17 ?_ | refine sp18 ?_ | refine sp19 ?_ | refine sp22 ?_ | refine sp23 ?_ | refine sp24 ?_)) | ((with_reducible show wpAny _ _ (exec (Stmt.For (Expr.Name _ _) _ _ [] _) _) _ _ _); (with_unfolding_all refine' for_at ?F ?k1 ?k2 ?_ ?k3 ?k4; (case F => k_asm); (case k1 => exact rfl); (case k2 => exact rfl); (case k3 => intro _; rfl); (case k4 => assumption); k_whole)) | walk1 | (dsimp only; walk1) | (leave1; walk_say "STEP leave1"; try dsimp only) | fail "no step"))
      rename Fr g' _ _ _ => F7
      rename News g' _ _ _ => N7
      refine TurnEnd.intro F7 N7 hnI ⟨fun y h1 h2 => by dsimp only; simp only [if_neg h1, if_neg h2], us, k, hus, ?_, Nat.le_succ_of_le hlen, hsub⟩
      unfold savedRow
      rw [ew]
      simpa using hrows
    · (try dsimp only)
      (repeat' (first | (k_unfold; (try dsimp only)) | ((first | (with_reducible refine Then.next ?_) | (with_reducible refine Then.ret ?_) | (with_reducible refine Joined.next ?_) | (with_reducible refine Joined.ret ?_) | (with_reducible refine HidV.get (by with_reducible assumption) _ _ ?_) | (with_reducible refine Hdn.get (by with_reducible assumption) ?_) | (with_reducible refine TurnEnd.toRet ?_)); (try dsimp only)) | (k_end; wrow_close) | ((with_reducible refine hide_turn ?_); intro Q1 H1) | (with_reducible refine exec_hid ?_) | (with_reducible (first | refine sp1 ?_ | refine sp2 ?_ | refine sp3 ?_ | refine sp4 ?_ | refine sp5 ?_ | refine sp6 ?_ | refine sp7 ?_ | refine sp8 ?_ | refine sp9 ?_ | refine sp10 ?_ | refine sp11 ?_ | refine sp12 ?_ | refine sp13 ?_ | refine sp14 ?_ | refine sp15 ?_ | refine sp16 ?_ | refine sp17 ?_ | refine sp18 ?_ | refine sp19 ?_ | refine sp22 ?_ | refine sp23 ?_ | refine sp24 ?_)) | ((with_reducible show wpAny _ _ (exec (Stmt.For (Expr.Name _ _) _ _ [] _) _) _ _ _); (with_unfolding_all refine' for_at ?F ?k1 ?k2 ?_ ?k3 ?k4; (case F => k_asm); (case k1 => exact rfl); (case k2 => exact rfl); (case k3 => intro _; rfl); (case k4 => assumption); k_whole)) | walk1 | (dsimp only; walk1) | (leave1; walk_say "STEP leave1"; try dsimp only) | fail "no step"))
      refine Stop.go ?_
      refine kda_in (knd := strKind _ _) (by k_asm) hdK' hK hlo (strKind_is _ _ _ _) ((getB K sw).isSome) (by rw [valueAt_vals]; cases getB K sw <;> rfl) ?_
      cases hg : getB K sw with
      | none =>
        (try dsimp only [Option.isSome])
        (repeat' (first | (k_unfold; (try dsimp only)) | ((first | (with_reducible refine Then.next ?_) | (with_reducible refine Then.ret ?_) | (with_reducible refine Joined.next ?_) | (with_reducible refine Joined.ret ?_) | (with_reducible refine HidV.get (by with_reducible assumption) _ _ ?_) | (with_reducible refine Hdn.get (by with_reducible assumption) ?_) | (with_reducible refine TurnEnd.toRet ?_)); (try dsimp only)) | (k_end; wrow_close) | ((with_reducible refine hide_turn ?_); intro Q1 H1) | (with_reducible refine exec_hid ?_) | (with_reducible (first | refine sp1 ?_ | refine sp2 ?_ | refine sp3 ?_ | refine sp4 ?_ | refine sp5 ?_ | refine sp6 ?_ | refine sp7 ?_ | refine sp8 ?_ | refine sp9 ?_ | refine sp10 ?_ | refine sp11 ?_ | refine sp12 ?_ | refine sp13 ?_ | refine sp14 ?_ | refine sp15 ?_ | refine sp16 ?_ | refine sp17 ?_ | refine sp18 ?_ | refine sp19 ?_ | refine sp22 ?_ | refine sp23 ?_ | refine sp24 ?_)) | ((with_reducible show wpAny _ _ (exec (Stmt.For (Expr.Name _ _) _ _ [] _) _) _ _ _); (with_unfolding_all refine' for_at ?F ?k1 ?k2 ?_ ?k3 ?k4; (case F => k_asm); (case k1 => exact rfl); (case k2 => exact rfl); (case k3 => intro _; rfl); (case k4 => assumption); k_whole)) | walk1 | (dsimp only; walk1) | (leave1; walk_say "STEP leave1"; try dsimp only) | fail "no step"))
        rename Fr g' _ _ _ => F7
        rename News g' _ _ _ => N7
        refine TurnEnd.intro F7 N7 hnI ⟨fun y h1 h2 => by dsimp only; simp only [if_neg h1, if_neg h2], us, k, hus, ?_, Nat.le_succ_of_le hlen, hsub⟩
        unfold savedRow
        rw [ew]
        dsimp only
        rw [hg]
        simpa using hrows
      | some bv =>
        have hval : valueAt (vals K) sw = some (.bool bv) := by rw [valueAt_vals, hg]; rfl
        (try dsimp only [Option.isSome])
        (repeat' (first | (k_unfold; (try dsimp only)) | ((first | (with_reducible refine Then.next ?_) | (with_reducible refine Then.ret ?_) | (with_reducible refine Joined.next ?_) | (with_reducible refine Joined.ret ?_) | (with_reducible refine HidV.get (by with_reducible assumption) _ _ ?_) | (with_reducible refine Hdn.get (by with_reducible assumption) ?_) | (with_reducible refine TurnEnd.toRet ?_)); (try dsimp only)) | (k_end; wrow_close) | ((with_reducible refine hide_turn ?_); intro Q1 H1) | (with_reducible refine exec_hid ?_) | (with_reducible (first | refine sp1 ?_ | refine sp2 ?_ | refine sp3 ?_ | refine sp4 ?_ | refine sp5 ?_ | refine sp6 ?_ | refine sp7 ?_ | refine sp8 ?_ | refine sp9 ?_ | refine sp10 ?_ | refine sp11 ?_ | refine sp12 ?_ | refine sp13 ?_ | refine sp14 ?_ | refine sp15 ?_ | refine sp16 ?_ | refine sp17 ?_ | refine sp18 ?_ | refine sp19 ?_ | refine sp22 ?_ | refine sp23 ?_ | refine sp24 ?_)) | ((with_reducible show wpAny _ _ (exec (Stmt.For (Expr.Name _ _) _ _ [] _) _) _ _ _); (with_unfolding_all refine' for_at ?F ?k1 ?k2 ?_ ?k3 ?k4; (case F => k_asm); (case k1 => exact rfl); (case k2 => exact rfl); (case k3 => intro _; rfl); (case k4 => assumption); k_whole)) | walk1 | (dsimp only; walk1) | (leave1; walk_say "STEP leave1"; try dsimp only) | fail "no step"))
        refine Stop.go ?_
        refine kda_item (knd := PySem.strKind _ _) (by k_asm) hdK' hK (strKind_is _ _ _ _) hval ?_
        (try dsimp only)
        (repeat' (first | (k_unfold; (try dsimp only)) | ((first | (with_reducible refine Then.next ?_) | (with_reducible refine Then.ret ?_) | (with_reducible refine Joined.next ?_) | (with_reducible refine Joined.ret ?_) | (with_reducible refine HidV.get (by with_reducible assumption) _ _ ?_) | (with_reducible refine Hdn.get (by with_reducible assumption) ?_) | (with_reducible refine TurnEnd.toRet ?_)); (try dsimp only)) | (k_end; wrow_close) | ((with_reducible refine hide_turn ?_); intro Q1 H1) | (with_reducible refine exec_hid ?_) | (with_reducible (first | refine sp1 ?_ | refine sp2 ?_ | refine sp3 ?_ | refine sp4 ?_ | refine sp5 ?_ | refine sp6 ?_ | refine sp7 ?_ | refine sp8 ?_ | refine sp9 ?_ | refine sp10 ?_ | refine sp11 ?_ | refine sp12 ?_ | refine sp13 ?_ | refine sp14 ?_ | refine sp15 ?_ | refine sp16 ?_ | refine sp17 ?_ | refine sp18 ?_ | refine sp19 ?_ | refine sp22 ?_ | refine sp23 ?_ | refine sp24 ?_)) | ((with_reducible show wpAny _ _ (exec (Stmt.For (Expr.Name _ _) _ _ [] _) _) _ _ _); (with_unfolding_all refine' for_at ?F ?k1 ?k2 ?_ ?k3 ?k4; (case F => k_asm); (case k1 => exact rfl); (case k2 => exact rfl); (case k3 => intro _; rfl); (case k4 => assumption); k_whole)) | walk1 | (dsimp only; walk1) | (leave1; walk_say "STEP leave1"; try dsimp only) | fail "no step"))
        refine Stop.go ?_
        rename Fr g' _ _ _ => F7
        rename News g' _ _ _ => N7
        rename (∀ p ∈ own ++ news₁, p.1 < _) => l7
        rename Addr => D'
        refine append1 F7 N7 (.tail _ hus') (Nat.le_trans hlen (Nat.le_trans (Nat.le_of_lt hi60) (by decide))) (fun h9 tk9 F9 N9 => ?_)
        (try dsimp only)
        (repeat' (first | (k_unfold; (try dsimp only)) | ((first | (with_reducible refine Then.next ?_) | (with_reducible refine Then.ret ?_) | (with_reducible refine Joined.next ?_) | (with_reducible refine Joined.ret ?_) | (with_reducible refine HidV.get (by with_reducible assumption) _ _ ?_) | (with_reducible refine Hdn.get (by with_reducible assumption) ?_) | (with_reducible refine TurnEnd.toRet ?_)); (try dsimp only)) | (k_end; wrow_close) | ((with_reducible refine hide_turn ?_); intro Q1 H1) | (with_reducible refine exec_hid ?_) | (with_reducible (first | refine sp1 ?_ | refine sp2 ?_ | refine sp3 ?_ | refine sp4 ?_ | refine sp5 ?_ | refine sp6 ?_ | refine sp7 ?_ | refine sp8 ?_ | refine sp9 ?_ | refine sp10 ?_ | refine sp11 ?_ | refine sp12 ?_ | refine sp13 ?_ | refine sp14 ?_ | refine sp15 ?_ | refine sp16 ?_ | refine sp17 ?_ | refine sp18 ?_ | refine sp19 ?_ | refine sp22 ?_ | refine sp23 ?_ | refine sp24 ?_)) | ((with_reducible show wpAny _ _ (exec (Stmt.For (Expr.Name _ _) _ _ [] _) _) _ _ _); (with_unfolding_all refine' for_at ?F ?k1 ?k2 ?_ ?k3 ?k4; (case F => k_asm); (case k1 => exact rfl); (case k2 => exact rfl); (case k3 => intro _; rfl); (case k4 => assumption); k_whole)) | walk1 | (dsimp only; walk1) | (leave1; walk_say "STEP leave1"; try dsimp only) | fail "no step"))
        obtain ⟨oI, hoI⟩ := hI
        have hDI : D ≠ I := hnI _ hus
        have hDl : D ≠ ln := Nat.ne_of_gt (l1 _ hln)
        refine TurnEnd.intro (news' := (D', tupO [.str sw st, .bool bv] 0) :: updL news₁ D (W.listOf (us ++ [Value.ref D']).toArray (k + 1))) F9 (news_sub N9 (fun q hq => ?_)) ?_ ⟨fun y h1 h2 => by dsimp only; simp only [if_neg h1, if_neg h2], us ++ [Value.ref D'], k + 1, .tail _ (updL_self hus), ?_, by rw [List.length_append, List.length_singleton]; exact Nat.succ_le_succ hlen, fun q hq => .tail _ (updL_ne (hsub q hq) (Nat.ne_of_lt (l1 q hq)))⟩
        · rcases List.mem_append.mp hq with hq | hq
          · have hqD : q.1 ≠ D := by
              rcases hown q hq with e | e
              · rw [e]; exact fun e' => hDI e'.symm
              · rw [e]; exact fun e' => hDl e'.symm
            exact updL_ne (.tail _ (List.mem_append_left _ hq)) hqD
          · rcases List.mem_cons.mp hq with rfl | hq
            · exact updL_ne (.head _) (Nat.ne_of_gt (l7 _ hus'))
            · refine .tail _ ?_
              rw [← updL, updL_append]
              exact List.mem_append_right _ hq
        · refine List.forall_mem_cons.mpr ⟨Nat.ne_of_gt (l7 _ (List.mem_append_left _ hoI)), updL_key_ne hnI⟩
        · have e : savedRow K kv = some (sw, bv) := by unfold savedRow; rw [ew]; dsimp only; rw [hg]; rfl
          rw [e]
          exact Rows.app (hrows.mono fun a its n hm => .tail _ (updL_ne hm fun e => tup_not_list (News.fun N4 (List.mem_append_right _ (e ▸ hm)) (List.mem_append_right _ hus)))) ⟨⟨_, st, 0, rfl, .head _⟩, trivial⟩
  · intro m₁ news₁ h3 tk3 hJ F4 N4
    refine hide_goal (fun Hq => ?_)
    obtain ⟨e1, us, k, hus, hrows, hlen, hsub⟩ := hJ
    have F5 := fr_out2 _ _ F4 e1
    rw [show vs.length = ns.length from hia.length, List.take_length] at hrows
    clear F4
    (try dsimp only)
    (repeat' (first | (k_unfold; (try dsimp only)) | ((first | (with_reducible refine Then.next ?_) | (with_reducible refine Then.ret ?_) | (with_reducible refine Joined.next ?_) | (with_reducible refine Joined.ret ?_) | (with_reducible refine HidV.get (by with_reducible assumption) _ _ ?_) | (with_reducible refine Hdn.get (by with_reducible assumption) ?_) | (with_reducible refine TurnEnd.toRet ?_)); (try dsimp only)) | (k_end; wrow_close) | ((with_reducible refine hide_turn ?_); intro Q1 H1) | (with_reducible refine exec_hid ?_) | (with_reducible (first | refine sp1 ?_ | refine sp2 ?_ | refine sp3 ?_ | refine sp4 ?_ | refine sp5 ?_ | refine sp6 ?_ | refine sp7 ?_ | refine sp8 ?_ | refine sp9 ?_ | refine sp10 ?_ | refine sp11 ?_ | refine sp12 ?_ | refine sp13 ?_ | refine sp14 ?_ | refine sp15 ?_ | refine sp16 ?_ | refine sp17 ?_ | refine sp18 ?_ | refine sp19 ?_ | refine sp22 ?_ | refine sp23 ?_ | refine sp24 ?_)) | ((with_reducible show wpAny _ _ (exec (Stmt.For (Expr.Name _ _) _ _ [] _) _) _ _ _); (with_unfolding_all refine' for_at ?F ?k1 ?k2 ?_ ?k3 ?k4; (case F => k_asm); (case k1 => exact rfl); (case k2 => exact rfl); (case k3 => intro _; rfl); (case k4 => assumption); k_whole)) | walk1 | (dsimp only; walk1) | (leave1; walk_say "STEP leave1"; try dsimp only) | fail "no step"))
    rename News h₀ L _ _ => N9
    exact hret D us k _ hus hrows hsub (fun q hq => Nat.ne_of_lt (l1 q hq)) _ _ (by k_asm) N9
end
end
section
section
open PySem
variable {prog : Program} {w : World} {A : Around} {E : Value → Shared → Prop} {s : Shared} {h₀ : Heap} {L : Addr} {m : Str → Option Value} {news : List (Addr × Obj)}
theorem adjust_upto (b n : Nat) (hb : b ≤ n) : Builtin.Slice.sliceAdjust none (some (b : Int)) 1 (n : Int) = (0, (b : Int)) := by
  unfold Builtin.Slice.sliceAdjust
  have h1 : ¬ ((1 : Int) < 0) := by (first | lia | omega)
  have h2 : ¬ ((b : Int) < 0) := by (first | lia | omega)
  simp only [h1, h2, if_false]
  congr 1
  (first | lia | omega)
theorem places_upto (b : Nat) : Builtin.Slice.slicePlaces 0 (b : Int) 1 = b := by
  unfold Builtin.Slice.slicePlaces
  have h1 : (1 : Int) > 0 := by (first | lia | omega)
  simp only [h1, if_true, Int.ediv_one]
  split <;> (first | lia | omega)
theorem applied_upto {sl : Addr} {b n : Nat} {u : Tok} {Q : Int × Int × Nat → Shared → Prop} (hs : s.heap.IsSliceOf sl .none (.int b u) .none) (hb : b ≤ n) (h : Q (0, 1, b) s) :
    wpAny (model prog w) A (Builtin.Slice.sliceApplied (.ref sl) (pure (n : Int))) Q E s := by
  obtain ⟨_, at_, _, parts⟩ := id hs
  unfold Builtin.Slice.sliceApplied Builtin.Slice.sliceFields
  refine wpAny_bind (wpAny_bind (wpAny_field at_ parts (x := .none) rfl (wpAny_bind (wpAny_field at_ parts (x := .int b u) rfl (wpAny_bind (wpAny_field at_ parts (x := .none) rfl (wpAny_pure (wpAny_bind (slicePart_none ?_)))))))))
  dsimp only
  rw [if_neg (by decide)]
  refine wpAny_bind (slicePart_none (wpAny_bind (slicePart_int (wpAny_bind (wpAny_pure ?_)))))
  rw [show Builtin.Slice.sliceAdjust none (some (b : Int)) (Option.getD none 1) (n : Int) = (0, (b : Int)) from adjust_upto b n hb]
  refine wpAny_pure ?_
  show Q (0, 1, Builtin.Slice.slicePlaces 0 (b : Int) 1) s
  rw [places_upto b]
  exact h
theorem pick_upto (xs : List Value) : ∀ b : Nat, b ≤ xs.length → ((List.range b).filterMap fun (k : Nat) => xs.toArray[((0 : Int) + (k : Int) * 1).toNat]?) = xs.take b
  | 0, _ => by simp
  | b + 1, h => by
    rw [List.range_succ, List.filterMap_append, pick_upto xs b (by (first | lia | omega)), List.take_add_one]
    congr 1
    have e : ((0 : Int) + (b : Int) * 1).toNat = b := by (first | lia | omega)
    simp only [List.filterMap_cons, List.filterMap_nil, e, List.getElem?_toArray]
    rw [List.getElem?_eq_getElem (by (first | lia | omega))]
    rfl
theorem get_tuple_upto {t sl : Addr} {items : List Value} {b : Nat} {u : Tok} {Q : Value → Shared → Prop} (ht : IsTup s.heap t items.toArray) (hs : s.heap.IsSliceOf sl .none (.int b u) .none) (hb : b < items.length)
    (h : Q (.ref s.heap.objs.size) { s with heap := s.heap.push { cls := .type "tuple", data := .seq (items.take b).toArray } }) (hsz : items.length ≤ 1000) : wpAny (model prog w) A (getItem (.ref t) (.ref sl)) Q E s := by
  have fit : sizeOk (.seq (items.take b).toArray) := by
    show (items.take b).length ≤ sizeLine
    rw [sizeLine_eq]
    exact Nat.le_trans (Nat.le_trans (List.length_take_le' ..) hsz) (by decide)
  have part : ((0 : Int) == 0 && (1 : Int) == 1 && b == items.toArray.size) = false := by
    rw [beq_eq_false_iff_ne.mpr (Nat.ne_of_lt (show b < items.toArray.size from hb))]; rfl
  obtain ⟨os, hos, hcs, _⟩ := id hs
  unfold getItem
  refine wpAny_holding (wpAny_bind (wpAny_sequenceKey ht.typeIs (by decide) (wpAny_bind (wpAny_callSpecial?_slot (name := Str.ofString "__getitem__") ht.typeIs slot_tuple_getitem (wpAny_call_entry slot_tuple_getitem ht.typeIs entry_tuple_getitem ?_ (args_tuple_getitem _ _))))))
  refine wpAny_bind (m := Builtin.Tuple.tupleItemsOf (.ref t)) (tupleItemsOf_ ht (wpAny_bind (wpAny_typeOf ⟨os, hos, hcs⟩ ?_)))
  rw [if_pos (by decide)]
  refine wpAny_bind (applied_upto (n := items.toArray.size) hs (Nat.le_of_lt hb) ?_)
  dsimp only
  rw [part, if_neg (by decide), pick_upto items b (Nat.le_of_lt hb)]
  first
    | exact wpAny_bind (wpAny_bind (m := Builtin.Tuple.tupleExact _) (wpAny_newObj_type (wpAny_pure ⟨_, rfl, wpAny_pure h⟩) fit))
    | exact wpAny_bind (m := Builtin.Tuple.tupleExact _) (wpAny_newObj_type (wpAny_pure ⟨_, rfl, wpAny_pure h⟩) fit)
theorem slice_tuple_upto {value slice : Expr} {t : Addr} {items : List Value} {b : Nat} {u : Tok} {Q : Value → Shared → Prop}
    (F : Fr h₀ L s.heap m) (N : News h₀ L s.heap news) (ht : IsTup s.heap t items.toArray) (hb : b < items.length)
    (h : ∀ D h', Fr h₀ L h' m → News h₀ L h' ((D, tupO (items.take b) 0) :: news) → (∀ q ∈ news, q.1 < D) → Q (.ref D) { s with heap := h' }) (hsz : items.length ≤ 1000)
    (hs : subscripted slice false (.ref t) (.ref s.heap.objs.size) = operate [.ref s.heap.objs.size, .ref t] (getItem (.ref t) (.ref s.heap.objs.size)))
    (hg : ∀ r, letTemporaryGo value (.ref t) r = pure ()) :
    wpAny (model prog w) A (subscriptTail value slice (.ref t) (.ref s.heap.objs.size)) Q E { s with heap := s.heap.push { cls := .type "slice", data := .fields #[.none, .int b u, .none] } } := by
  have ht' : IsTup (s.heap.push { cls := .type "slice", data := .fields #[.none, .int b u, .none] }) t items.toArray := ht.keeps fun _ _ e => Heap.get?_push_of_some _ e
  refine subscriptTail_ops (s := { s with heap := s.heap.push { cls := .type "slice", data := .fields #[.none, .int b u, .none] } }) ht'.typeIs slot_tuple_getitem.lookup
    (get_tuple_upto ht' (Heap.IsSliceOf.new ..) hb ?_ hsz) hs hg
  have N1 := News.push (F.push { cls := .type "slice", data := .fields #[.none, .int b u, .none] }) (N.grown fun _ _ e => Heap.get?_push_of_some _ e) { cls := .type "tuple", data := .seq (items.take b).toArray }
  refine h _ _ ((F.push _).push _) N1 fun q hq => ?_
  have hlt := Heap.lt_size (N q hq).1
  show q.1 < (s.heap.push _).objs.size
  rw [Heap.size_push]
  exact Nat.lt_succ_of_lt hlt
end
end
section
noncomputable def rowE (e : DictEntry) : Option (Int × Str) := match e.key, e.val with | .int k _, .str s _ => some (k, s) | _, _ => none
noncomputable def kvE (e : DictEntry) : Option (Int × Value) := match e.key, e.val with | .int k _, .str s t => some (k, .str s t) | _, _ => none
noncomputable def okE (e : DictEntry) : Bool := match e.key, e.val with | .int k _, .str _ _ => e.hash == hashInt k | _, _ => false
section
variable {prog : Program} {w : World}
theorem okE_spec {e : DictEntry} (h : okE e = true) : ∃ k t s u, e = ⟨hashInt k, .int k t, .str s u⟩ ∧ rowE e = some (k, s) ∧ kvE e = some (k, .str s u) := by
  obtain ⟨hh, key, val⟩ := e
  cases key with
  | int k t =>
    cases val with
    | str s u => exact ⟨k, t, s, u, by rw [eq_of_beq (show (hh == hashInt k) = true from h)], rfl, rfl⟩
    | _ => exact absurd h Bool.false_ne_true
  | _ => exact absurd h Bool.false_ne_true
theorem tab_pairs : ∀ {es : List DictEntry}, es.all okE = true → Pairs (intKind prog w) es (es.filterMap kvE) ∧ SV (es.filterMap kvE) (es.filterMap rowE) ∧ ∀ e ∈ es, ∃ k, (intKind prog w).is k e.key = true ∧ e.hash = (intKind prog w).hash k
  | [], _ => ⟨.nil, trivial, fun _ h => nomatch h⟩
  | e :: r, h => by
    rw [List.all_cons, Bool.and_eq_true] at h
    obtain ⟨k, t, s, u, rfl, e1, e2⟩ := okE_spec h.1
    obtain ⟨a, b, c⟩ := tab_pairs h.2
    rw [List.filterMap_cons, List.filterMap_cons, e1, e2]
    refine ⟨.cons (intKind_is _ _ _ _) rfl a, ⟨⟨rfl, u, rfl⟩, b⟩, fun e he => ?_⟩
    rcases List.mem_cons.mp he with rfl | he
    · exact ⟨k, intKind_is _ _ _ _, rfl⟩
    · exact c e he
theorem tab_dict {h : Heap} {a : Addr} {o : Obj} {es : Array DictEntry} {ep : Nat} {l : List (Int × Str)} (hg : h.get? a = some o) (hc : o.ExactDict) (hd : o.data = .dict es ep) (hok : es.toList.all okE = true) (hl : es.toList.filterMap rowE = l) (hn : (l.map (·.1)).Nodup) :
    ∃ kvs, h.DictOf (intKind prog w) a kvs ∧ SV kvs l := by
  obtain ⟨p, sv, hk⟩ := tab_pairs (prog := prog) (w := w) hok
  rw [hl] at sv
  exact ⟨_, ⟨o, es, ep, hg, hc, hd, fun e he => hk e (by simpa using he), p, by rw [sv.keys]; exact hn⟩, sv⟩
theorem priv_dict {h : Heap} (X : (hd.heap_39 w.params).In h) : ∃ kvs, h.DictOf (intKind prog w) 136 kvs ∧ SV kvs privL := by
  have hX := X 136 _ rfl
  exact tab_dict hX ⟨rfl, rfl, rfl⟩ rfl (by decide +kernel) (by decide +kernel) privL_nodup
theorem plain_dict {h : Heap} (X : (hd.heap_39 w.params).In h) : ∃ kvs, h.DictOf (intKind prog w) 139 kvs ∧ SV kvs plainL := by
  have hX := X 139 _ rfl
  exact tab_dict hX ⟨rfl, rfl, rfl⟩ rfl (by decide +kernel) (by decide +kernel) plainL_nodup
theorem tab_item {A : Around} {E : Value → Shared → Prop} {s : Shared} {a : Addr} {kvs : List (Int × Value)} {l : List (Int × Str)} {k : Int} {t : Tok} {x : Str} {value slice : PySem.Expr} {Q : Value → Shared → Prop} (hD : s.heap.DictOf (intKind prog w) a kvs) (hS : SV kvs l) (hx : getB l k = some x)
    (h : ∀ u tk, Q (.str x u) { s with toks := tk })
    (hs : subscripted slice false (.ref a) (.int k t) = operate [.ref a, .int k t] (getItem (.ref a) (.int k t))) (hg : ∀ r, letTemporaryGo value (.ref a) r = pure ()) :
    wpAny (model prog w) A (subscriptTail value slice (.ref a) (.int k t)) Q E s := by
  rcases hS.valueAt k with ⟨e, _⟩ | ⟨y, u, e, hv⟩
  · rw [e] at hx; cases hx
  · rw [e] at hx
    cases hx
    exact subscriptTail_builtin hD.typeIs slot_dict_getitem.lookup (wpAny_getItem_of (intKind_is _ _ _ _) hD.mapOf hv (h _ _)) hs hg
end
end
section
theorem getB_mem {K V : Type} [DecidableEq K] : ∀ {S : List (K × V)} {p : K × V}, (S.map (·.1)).Nodup → p ∈ S → getB S p.1 = some p.2
  | [], _, _, h => nomatch h
  | q :: S, p, hn, h => by
    rw [getB_cons]
    rcases List.mem_cons.mp h with rfl | h
    · rw [if_pos rfl]
    · have hn' := List.nodup_cons.mp hn
      rw [if_neg (fun e => hn'.1 (by show q.1 ∈ _; rw [e]; exact List.mem_map_of_mem h)), getB_mem hn'.2 h]
def OptsAre : List Value → List (Option Str) → Prop
  | [], [] => True
  | v :: vs, o :: os => StrOpt v o ∧ OptsAre vs os
  | _, _ => False
theorem OptsAre.app : ∀ {vs us : List Value} {ps qs : List (Option Str)}, OptsAre vs ps → OptsAre us qs → OptsAre (vs ++ us) (ps ++ qs)
  | [], _, [], _, _, h => h
  | _ :: _, _, _ :: _, _, h, h2 => ⟨h.1, OptsAre.app h.2 h2⟩
  | [], _, _ :: _, _, h, _ => h.elim
  | _ :: _, _, [], _, h, _ => h.elim
section
open PySem.Spec PySem.SeqAt
noncomputable def optD : Option Str → PyData
  | none => .none
  | some s => .str s
theorem OptsAre.carried : ∀ {vs : List Value} {os : List (Option Str)}, OptsAre vs os → CarriedAll vs (os.map optD)
  | [], [], _ => .nil
  | v :: vs, o :: os, h => by
    rcases h.1 with ⟨rfl, rfl⟩ | ⟨s, t, rfl, rfl⟩
    · exact .cons .none h.2.carried
    · exact .cons (.str s t) h.2.carried
  | [], _ :: _, h => h.elim
  | _ :: _, [], h => h.elim
theorem canLay_opts : ∀ os : List (Option Str), (∀ o ∈ os, ∀ s, o = some s → PyData.strOk s = true) → PyData.canLayAll0 (os.map optD) = true ∧ PyData.depthAll (os.map optD) = 0
  | [], _ => ⟨rfl, rfl⟩
  | o :: r, h => by
    obtain ⟨a, b⟩ := canLay_opts r fun y hy => h y (.tail _ hy)
    cases o with
    | none => simp [PyData.canLayAll0, PyData.canLay0, PyData.depthAll, PyData.depth, optD, a, b]
    | some s => simp [PyData.canLayAll0, PyData.canLay0, PyData.depthAll, PyData.depth, optD, a, b, h _ (.head _) s rfl]
theorem shaped_opts {os : List (Option Str)} (h : ∀ o ∈ os, ∀ s, o = some s → PyData.strOk s = true) : shaped (.list (os.map optD)) = true := by
  obtain ⟨a, b⟩ := canLay_opts os h
  simp [shaped, PyData.canLay0, PyData.depth, a, b]
theorem ne_opts_self {prog : Program} {w : World} {A : Around} {E : Value → Shared → Prop} {s : Shared} {a b : Addr} {xs ys : List Value} {os : List (Option Str)} {Q : Value → Shared → Prop} (ha : s.heap.IsList a xs.toArray) (hb : s.heap.IsList b ys.toArray)
    (hi : OptsAre xs os) (hj : OptsAre ys os) (h1 : ∀ o ∈ os, ∀ s, o = some s → PyData.strOk s = true) (hu : A.units + 64 < cLine) (h : Q (.bool false) s) : wpAny (model prog w) A (compareOp .NotEq (.ref a) (.ref b)) Q E s :=
  ne_dataH (reads_newData ha hi.carried) (reads_newData hb hj.carried) (shaped_opts h1) (shaped_opts h1) hu (by
    rw [eqv_refl _ (by have := (canLay_opts os h1).1; simp [PyData.canLay0, this])]; exact h)
end
def Agree (S T : List (Str × Bool)) : Prop := Okay S ∧ Okay T ∧ ∀ k ∈ words41, getB T k = some (onB S k)
theorem Agree.on {S T : List (Str × Bool)} (h : Agree S T) (k : Str) : onB S k = onB T k := by
  by_cases hk : k ∈ words41
  · unfold onB
    rw [h.2.2 k hk]; rfl
  · have h1 : getB S k = none := (getB_none_iff S k).mpr fun hm => hk (h.1.2 k hm)
    have h2 : getB T k = none := (getB_none_iff T k).mpr fun hm => hk (h.2.1.2 k hm)
    unfold onB
    rw [h1, h2]
theorem onB_of {T : List (Str × Bool)} {k : Str} {b : Bool} (h : valueAt (vals T) k = some (.bool b)) : onB T k = b := by
  have := valueAt_vals_getD T k
  rw [h] at this
  simpa using this.symm
theorem Agree.sorted {S T : List (Str × Bool)} (h : Agree S T) {ss us : List Str} (hp : ss.Perm (S.map (·.1))) (hs : sortedS ss = true) (hq : us.Perm ((T.map (·.1)).filter (onB T))) (ht : sortedS us = true) : ss.filter (onB S) = us := by
  refine sorted_unique (List.Perm.trans ?_ hq.symm) (sortedS_filter _ hs) ht
  refine (List.perm_ext_iff_of_nodup ((hp.nodup_iff.mpr h.1.1).filter _) (h.2.1.1.filter _)).mpr fun k => ?_
  rw [List.mem_filter, List.mem_filter, hp.mem_iff, h.on k]
  constructor
  · rintro ⟨_, e⟩
    exact ⟨onB_key e, e⟩
  · rintro ⟨_, e⟩
    exact ⟨onB_key (by rw [h.on k]; exact e), e⟩
theorem vals_at {prog : Program} {w : World} {o : Obj} {T : List (Str × Bool)} {i : Nat} {v : Value} (hT : o.IsDictOf (strKind prog w) (vals T)) (h : ∃ k x, (vals T)[i]? = some (k, x) ∧ (strKind prog w).is k v = true) :
    ∃ k b t, v = .str k t ∧ T[i]? = some (k, b) ∧ valueAt (vals T) k = some (.bool b) := by
  obtain ⟨k, x, e, hk⟩ := h
  have hv : ∃ t, v = .str k t := by
    cases v <;> simp [PySem.strKind, Value.isStrOf] at hk
    subst hk; exact ⟨_, rfl⟩
  obtain ⟨t, rfl⟩ := hv
  unfold vals at e
  rw [List.getElem?_map] at e
  cases q : T[i]? with
  | none => rw [q] at e; simp at e
  | some p =>
    rw [q] at e
    simp at e
    obtain ⟨rfl, rfl⟩ := e
    refine ⟨_, p.2, t, rfl, rfl, ?_⟩
    rw [valueAt_vals, getB_mem (nodup_of_dict hT) (List.mem_of_getElem? q)]
    rfl
theorem group_words {G : List Str} (hG : G ∈ [MM, ME]) {x : Str} (hx : x ∈ G) : x ∈ words41 := by
  have h1 : MM.all (fun x => words41.any (· == x)) = true := by decide +kernel
  have h2 : ME.all (fun x => words41.any (· == x)) = true := by decide +kernel
  have key : ∀ {l : List Str}, l.all (fun x => words41.any (· == x)) = true → x ∈ l → x ∈ words41 := fun h hx => by
    obtain ⟨y, hy, e⟩ := List.any_eq_true.mp (List.all_eq_true.mp h x hx)
    have e' : y = x := by simpa using e
    rw [← e']; exact hy
  rcases List.mem_cons.mp hG with rfl | hG
  · exact key h1 hx
  · rw [List.mem_singleton.mp hG] at hx; exact key h2 hx
theorem nums_tup {w : World} {h : Heap} (X : (hd.heap_39 w.params).In h) : ∃ items : List Value, IsTup h 144 items.toArray ∧ IntsAre items numsL := by
  refine ⟨_, ⟨_, X 144 _ rfl, rfl, _, rfl⟩, ?_⟩
  repeat first | exact .nil | refine .cons _ _ ?_
theorem nums_length : numsL.length = 18 := by decide +kernel
theorem nums_words {k : Int} (h : k ∈ numsL) : ∃ s, getB privL k = some s ∧ s ∈ words41 := by
  have h1 : numsL.all (fun k => (getB privL k).any fun s => words41.any (· == s)) = true := by decide +kernel
  have h2 := List.all_eq_true.mp h1 k h
  cases e : getB privL k with
  | none => rw [e] at h2; simp at h2
  | some s =>
    rw [e] at h2
    obtain ⟨y, hy, e'⟩ := List.any_eq_true.mp (by simpa using h2 : words41.any (· == s) = true)
    have e'' : y = s := by simpa using e'
    exact ⟨s, rfl, e'' ▸ hy⟩
theorem head_opt {ys : List Value} {G : List Str} {f : Str → Bool} (h : StrsAre ys (G.filter f)) : ∃ v, (ys ++ [Value.none])[(0 : Int).toNat]? = some v ∧ StrOpt v (G.find? f) := by
  rw [← List.head?_filter]
  generalize G.filter f = l at h
  cases h with
  | nil => exact ⟨.none, rfl, .inl ⟨rfl, rfl⟩⟩
  | cons x t _ => exact ⟨.str x t, rfl, .inr ⟨x, t, rfl, rfl⟩⟩
theorem allLt_ne {d : Nat} : ∀ {l : List (Addr × Obj)}, AllLt d l → ∀ q ∈ l, q.1 ≠ d
  | [], _, _, h => nomatch h
  | _ :: _, h, q, hq => by
    rcases List.mem_cons.mp hq with rfl | hq
    · exact Nat.ne_of_lt h.1
    · exact allLt_ne h.2 q hq
theorem list_item {prog : Program} {w : World} {A : Around} {E : Value → Shared → Prop} {s : Shared} {value slice : PySem.Expr} {l : Addr} {vs : List Value} {k : Int} {u : Tok} {v : Value} {Q : Value → Shared → Prop}
    (hl : s.heap.IsList l vs.toArray) (h0 : 0 ≤ k) (hhi : k < 2 ^ 63) (hx : vs[k.toNat]? = some v) (h : Q v s)
    (hs : subscripted slice false (.ref l) (.int k u) = operate [.ref l, .int k u] (getItem (.ref l) (.int k u))) :
    wpAny (model prog w) A (subscriptTail value slice (.ref l) (.int k u)) Q E s :=
  tail_any hl.typeIs slot_list_getitem.lookup (wpAny_getItem_list hl h0 hhi (by simpa using hx) h) hs
def DueT (h₀ : Heap) (L x : Addr) (base : List (Addr × Obj)) (kv : Int) (kt : Tok) (sw : Str) (u : Tok) (r : Int) (G0 : Array GenState) (Dr0 : Drawn) (O0 : OsState) (s' : Shared) : Prop :=
  ∃ (h : Heap) (tk : Nat) (m : Str → Option Value) (D : Addr) (z : Int) (t1 t2 : Tok) (n : Nat), s' = ⟨h, G0, Dr0, tk, O0⟩ ∧ Fr h₀ L h (fun y => if y = Str.ofString "due" then some (.ref D) else if y = Str.ofString "word" then some (.str sw u) else if y = Str.ofString "number" then some (.int kv kt) else if y = Str.ofString "modes" then some (.ref x) else m y) ∧ News h₀ L h ((D, tupO [.int r t1, .int z t2] n) :: base)
theorem DueT.intro {h₀ h : Heap} {L x D : Addr} {base : List (Addr × Obj)} {kv : Int} {kt : Tok} {sw : Str} {u : Tok} {r z : Int} {t1 t2 : Tok} {n : Nat} {G0 : Array GenState} {Dr0 : Drawn} {O0 : OsState} {tk : Nat} {m : Str → Option Value} (F : Fr h₀ L h m) (N : News h₀ L h ((D, tupO [.int r t1, .int z t2] n) :: base))
    (h1 : m (Str.ofString "due") = some (.ref D)) (h2 : m (Str.ofString "word") = some (.str sw u)) (h3 : m (Str.ofString "number") = some (.int kv kt)) (h4 : m (Str.ofString "modes") = some (.ref x)) : DueT h₀ L x base kv kt sw u r G0 Dr0 O0 ⟨h, G0, Dr0, tk, O0⟩ :=
  ⟨h, tk, m, D, z, t1, t2, n, rfl, fr_key0 (fr_key0 (fr_key0 (fr_key0 F h4) (by rw [if_neg (by decide)]; exact h3)) (by rw [if_neg (by decide), if_neg (by decide)]; exact h2)) (by rw [if_neg (by decide), if_neg (by decide), if_neg (by decide)]; exact h1), N⟩
theorem DueT.elim {h₀ : Heap} {L x : Addr} {base : List (Addr × Obj)} {kv : Int} {kt : Tok} {sw : Str} {u : Tok} {r : Int} {G0 : Array GenState} {Dr0 : Drawn} {O0 : OsState} {s' : Shared} {P : Shared → Prop} (Z : DueT h₀ L x base kv kt sw u r G0 Dr0 O0 s')
    (k : ∀ (h : Heap) (tk : Nat) (m : Str → Option Value) (D : Addr) (z : Int) (t1 t2 : Tok) (n : Nat), Fr h₀ L h (fun y => if y = Str.ofString "due" then some (.ref D) else if y = Str.ofString "word" then some (.str sw u) else if y = Str.ofString "number" then some (.int kv kt) else if y = Str.ofString "modes" then some (.ref x) else m y) → News h₀ L h ((D, tupO [.int r t1, .int z t2] n) :: base) → P ⟨h, G0, Dr0, tk, O0⟩) : P s' := by
  obtain ⟨h, tk, m, D, z, t1, t2, n, rfl, F, N⟩ := Z
  exact k h tk m D z t1 t2 n F N
theorem rep_word {S : List (Str × Bool)} {n : Int} {w : Str} (h : getB privL n = some w) : repB S n true = if onB S w = true then 1 else 2 := by
  unfold repB wordB
  rw [if_pos rfl, h]
section
variable {w : World} {p : Program} {loose : List Str} {mean : ExcName → Option Value} {mg mb : Str → Option Value}
set_option maxHeartbeats 8000000 in
theorem c_shown {x dx dS dK dT : Addr} {t1 t2 : Tok} {n : Nat} {oS oT : Obj} {S T : List (Str × Bool)} (hA : Agree S T) :
    Con w p loose mean mg mb 168 14 [.ref x, .ref dT]
     (fun news G => (x, instObj 77 dx) ∈ news → (dx, mdDict w t1 t2 n dS dK) ∈ news → (dS, oS) ∈ news → oS.IsDictOf (strKind PG w) (vals S) → (dS == sysModules) = false → (dT, oT) ∈ news → oT.IsDictOf (strKind PG w) (vals T) → (dT == sysModules) = false → G)
     (fun news P => P (.bool true) news) := by
  unfold Con
  intro A env outer A₀ base h₀ L m news hp0 G0 Dr0 tk0 O0 Q E hAf hf hke B F X N T0 hd hu hx hdx hdS hS hlo hdT hT hloT hret
  refine wpAny_call ?_
  k_dflt (refine' code_defCG (binds := [(Str.ofString "modes", .ref x), (Str.ofString "states", .ref dT)]) ?k1 ?k2 ?k3 ?k4 ?k5 ?kA ?kF ?kK ?k6 ?k7 ?kd ?ku ?k9 ?kB ?kD ?_ ?c2 ?c3 ?c4; (case kA => assumption); (case kF => assumption); (case kK => assumption); (case k1 => k_asm); (case k2 => k_asm); (case k3 => k_asm); (case k4 => k_asm); (case k5 => k_asm); (case k6 => k_is); (case k7 => k_is); (case kd => assumption); (case ku => assumption); (case k9 => exact BindsTo.of_eq rfl); (case kB => exact rfl); (case kD => decide +kernel); (case c2 => exact rfl); (case c3 => exact rfl); (case c4 => exact rfl); k_whole; intro A1 g' L' h' tk' cells' Q1 E1 hA1 hd1 hu1 FG' F' N' Y' B' X' T' lC H1 P1; (try k_lt lC); k_cells Y'; (try simp only [List.cons_append, List.nil_append] at N'); (try dsimp only))
  (repeat' (first | (k_unfold; (try dsimp only)) | ((first | (with_reducible refine Then.next ?_) | (with_reducible refine Then.ret ?_) | (with_reducible refine Joined.next ?_) | (with_reducible refine Joined.ret ?_) | (with_reducible refine HidV.get (by with_reducible assumption) _ _ ?_) | (with_reducible refine Hdn.get (by with_reducible assumption) ?_) | (with_reducible refine TurnEnd.toRet ?_)); (try dsimp only)) | (k_end; wrow_close) | ((with_reducible refine hide_turn ?_); intro Q1 H1) | (with_reducible refine exec_hid ?_) | (with_reducible (first | refine sp1 ?_ | refine sp2 ?_ | refine sp3 ?_ | refine sp4 ?_ | refine sp5 ?_ | refine sp6 ?_ | refine sp7 ?_ | refine sp8 ?_ | refine sp9 ?_ | refine sp10 ?_ | refine sp11 ?_ | refine sp12 ?_ | refine sp13 ?_ | refine sp14 ?_ | refine sp15 ?_ | refine sp16 ?_ | refine sp17 ?_ | refine sp18 ?_ | refine sp19 ?_ | refine sp22 ?_ | refine sp23 ?_ | refine sp24 ?_)) | ((with_reducible show wpAny _ _ (exec (Stmt.For (Expr.Name _ _) _ _ [] _) _) _ _ _); (with_unfolding_all refine' for_at ?F ?k1 ?k2 ?_ ?k3 ?k4; (case F => k_asm); (case k1 => exact rfl); (case k2 => exact rfl); (case k3 => intro _; rfl); (case k4 => assumption); k_whole)) | walk1 | (dsimp only; walk1) | (leave1; walk_say "STEP leave1"; try dsimp only) | fail "no step"))
  refine Stop.go ?_
  have l1 := hA.1.length
  have l2 := hA.2.1.length
  rename News g' _ _ _ => N1
  k_dflt (refine' (c_on (S := S)) _ _ _ _ _ _ _ _ _ _ _ _ _ _ _ _ ?kA ?kF ?kK ?k1 ?k2 ?k3 ?k4 ?k5 ?kd ?ku ?p0 ?p1 ?p2 ?p3 ?p4 ?p5 ?_; (case kA => assumption); (case kF => exact rfl); (case kK => exact rfl); (case k1 => k_asm); (case k2 => k_asm); (case k3 => k_asm); (case k4 => k_asm); (case k5 => k_asm); (case p0 => k_mem); (case p1 => k_mem); (case p2 => k_mem); (case p3 => exact hS); (case p4 => exact hlo); (case p5 => exact Nat.lt_of_le_of_lt (by assumption) (by decide)); (case kd => exact room (by assumption) (by decide)); (case ku => exact room (by assumption) (by decide)); intro D vs k ss ne1 hia hperm hsrt h2 tk2 F2 N2)
  have hvl : vs.length ≤ 41 := Nat.le_trans (Nat.le_of_eq hia.length) (Nat.le_trans (List.length_filter_le _ _) (by rw [hperm.length_eq, List.length_map]; exact l1))
  (try dsimp only)
  (repeat' (first | (k_unfold; (try dsimp only)) | ((first | (with_reducible refine Then.next ?_) | (with_reducible refine Then.ret ?_) | (with_reducible refine Joined.next ?_) | (with_reducible refine Joined.ret ?_) | (with_reducible refine HidV.get (by with_reducible assumption) _ _ ?_) | (with_reducible refine Hdn.get (by with_reducible assumption) ?_) | (with_reducible refine TurnEnd.toRet ?_)); (try dsimp only)) | (k_end; wrow_close) | ((with_reducible refine hide_turn ?_); intro Q1 H1) | (with_reducible refine exec_hid ?_) | (with_reducible (first | refine sp1 ?_ | refine sp2 ?_ | refine sp3 ?_ | refine sp4 ?_ | refine sp5 ?_ | refine sp6 ?_ | refine sp7 ?_ | refine sp8 ?_ | refine sp9 ?_ | refine sp10 ?_ | refine sp11 ?_ | refine sp12 ?_ | refine sp13 ?_ | refine sp14 ?_ | refine sp15 ?_ | refine sp16 ?_ | refine sp17 ?_ | refine sp18 ?_ | refine sp19 ?_ | refine sp22 ?_ | refine sp23 ?_ | refine sp24 ?_)) | ((with_reducible show wpAny _ _ (exec (Stmt.For (Expr.Name _ _) _ _ [] _) _) _ _ _); (with_unfolding_all refine' for_at ?F ?k1 ?k2 ?_ ?k3 ?k4; (case F => k_asm); (case k1 => exact rfl); (case k2 => exact rfl); (case k3 => intro _; rfl); (case k4 => assumption); k_whole)) | walk1 | (dsimp only; walk1) | (leave1; walk_say "STEP leave1"; try dsimp only) | fail "no step"))
  refine Stop.go ?_
  rename News g' _ _ _ => N3
  rename Fr g' _ _ _ => F3
  have zD := N3 _ (.head _)
  refine list_copyK F3 N3 ⟨_, zD.1, rfl, _, rfl⟩ (fun D2 c2 h4 F4 N4 lt4 => ?_) (by rw [List.size_toArray, sizeLine_eq]; (first | exact Nat.le_trans (by assumption) (by decide) | exact Nat.lt_of_le_of_lt (by assumption) (by decide) | omega))
  (try dsimp only)
  (repeat' (first | (k_unfold; (try dsimp only)) | ((first | (with_reducible refine Then.next ?_) | (with_reducible refine Then.ret ?_) | (with_reducible refine Joined.next ?_) | (with_reducible refine Joined.ret ?_) | (with_reducible refine HidV.get (by with_reducible assumption) _ _ ?_) | (with_reducible refine Hdn.get (by with_reducible assumption) ?_) | (with_reducible refine TurnEnd.toRet ?_)); (try dsimp only)) | (k_end; wrow_close) | ((with_reducible refine hide_turn ?_); intro Q1 H1) | (with_reducible refine exec_hid ?_) | (with_reducible (first | refine sp1 ?_ | refine sp2 ?_ | refine sp3 ?_ | refine sp4 ?_ | refine sp5 ?_ | refine sp6 ?_ | refine sp7 ?_ | refine sp8 ?_ | refine sp9 ?_ | refine sp10 ?_ | refine sp11 ?_ | refine sp12 ?_ | refine sp13 ?_ | refine sp14 ?_ | refine sp15 ?_ | refine sp16 ?_ | refine sp17 ?_ | refine sp18 ?_ | refine sp19 ?_ | refine sp22 ?_ | refine sp23 ?_ | refine sp24 ?_)) | ((with_reducible show wpAny _ _ (exec (Stmt.For (Expr.Name _ _) _ _ [] _) _) _ _ _); (with_unfolding_all refine' for_at ?F ?k1 ?k2 ?_ ?k3 ?k4; (case F => k_asm); (case k1 => exact rfl); (case k2 => exact rfl); (case k3 => intro _; rfl); (case k4 => assumption); k_whole)) | walk1 | (dsimp only; walk1) | (leave1; walk_say "STEP leave1"; try dsimp only) | fail "no step"))
  refine Stop.go ?_
  (k_dflt (first | ((with_reducible refine' comp_TW ?kF ?k1 ?k2 ?k3 ?k4 ?k5 ?_ ?k6); (case kF => k_asm); (case k1 => with_unfolding_all rfl); (case k2 => decide); (case k3 => rfl); (case k4 => decide); (case k5 => rfl); (case k6 => intro _; rfl)) | ((with_reducible refine' comp_UW ?kF ?k1 ?k2 ?k3 ?k4 ?k5 ?_ ?k6); (case kF => k_asm); (case k1 => with_unfolding_all rfl); (case k2 => decide); (case k3 => rfl); (case k4 => decide); (case k5 => rfl); (case k6 => intro _; rfl))))
  (repeat' (first | (k_unfold; (try dsimp only)) | ((first | (with_reducible refine Then.next ?_) | (with_reducible refine Then.ret ?_) | (with_reducible refine Joined.next ?_) | (with_reducible refine Joined.ret ?_) | (with_reducible refine HidV.get (by with_reducible assumption) _ _ ?_) | (with_reducible refine Hdn.get (by with_reducible assumption) ?_) | (with_reducible refine TurnEnd.toRet ?_)); (try dsimp only)) | (k_end; wrow_close) | ((with_reducible refine hide_turn ?_); intro Q1 H1) | (with_reducible refine exec_hid ?_) | (with_reducible (first | refine sp1 ?_ | refine sp2 ?_ | refine sp3 ?_ | refine sp4 ?_ | refine sp5 ?_ | refine sp6 ?_ | refine sp7 ?_ | refine sp8 ?_ | refine sp9 ?_ | refine sp10 ?_ | refine sp11 ?_ | refine sp12 ?_ | refine sp13 ?_ | refine sp14 ?_ | refine sp15 ?_ | refine sp16 ?_ | refine sp17 ?_ | refine sp18 ?_ | refine sp19 ?_ | refine sp22 ?_ | refine sp23 ?_ | refine sp24 ?_)) | ((with_reducible show wpAny _ _ (exec (Stmt.For (Expr.Name _ _) _ _ [] _) _) _ _ _); (with_unfolding_all refine' for_at ?F ?k1 ?k2 ?_ ?k3 ?k4; (case F => k_asm); (case k1 => exact rfl); (case k2 => exact rfl); (case k3 => intro _; rfl); (case k4 => assumption); k_whole)) | walk1 | (dsimp only; walk1) | (leave1; walk_say "STEP leave1"; try dsimp only) | fail "no step"))
  rename Obj => o1
  rename (o1.data = _) => d1
  have hdT4 : (dT, oT) ∈ (D2, listOf vs.toArray c2) :: (D, listOf vs.toArray k) :: (L' + 1, o1) :: news := .tail _ (.tail _ (.tail _ hdT))
  refine src_dict (knd := strKind _ _) rfl F4 N4 hdT4 hT hloT (size_vals (by (first | exact Nat.le_trans (by assumption) (by decide) | exact Nat.lt_of_le_of_lt (by assumption) (by decide) | omega))) ?_
  intro g
  refine restT_inv (fun i ys nw => nw = (D2, listOf vs.toArray c2) :: (D, listOf vs.toArray k) :: (L' + 1, o1) :: news ∧ StrsAre ys (((T.map (·.1)).take i).filter (onB T))) ?_ ?_ _ 0 [] _ (Nat.zero_add _) ⟨rfl, .nil⟩
  · intro i ys nw v I oI C oC D5 m₂ h tk E' hi hJ hP hC hxv F9 N9 off ne
    refine hide_goal (fun Hq => ?_)
    obtain ⟨rfl, hys⟩ := hJ
    obtain ⟨sw, bv, st, rfl, hs, hval⟩ := vals_at hT hP
    (repeat' (first | (k_unfold; (try dsimp only)) | ((first | (with_reducible refine Then.next ?_) | (with_reducible refine Then.ret ?_) | (with_reducible refine Joined.next ?_) | (with_reducible refine Joined.ret ?_) | (with_reducible refine HidV.get (by with_reducible assumption) _ _ ?_) | (with_reducible refine Hdn.get (by with_reducible assumption) ?_) | (with_reducible refine TurnEnd.toRet ?_)); (try dsimp only)) | (k_end; wrow_close) | ((with_reducible refine hide_turn ?_); intro Q1 H1) | (with_reducible refine exec_hid ?_) | (with_reducible (first | refine sp1 ?_ | refine sp2 ?_ | refine sp3 ?_ | refine sp4 ?_ | refine sp5 ?_ | refine sp6 ?_ | refine sp7 ?_ | refine sp8 ?_ | refine sp9 ?_ | refine sp10 ?_ | refine sp11 ?_ | refine sp12 ?_ | refine sp13 ?_ | refine sp14 ?_ | refine sp15 ?_ | refine sp16 ?_ | refine sp17 ?_ | refine sp18 ?_ | refine sp19 ?_ | refine sp22 ?_ | refine sp23 ?_ | refine sp24 ?_)) | ((with_reducible show wpAny _ _ (exec (Stmt.For (Expr.Name _ _) _ _ [] _) _) _ _ _); (with_unfolding_all refine' for_at ?F ?k1 ?k2 ?_ ?k3 ?k4; (case F => k_asm); (case k1 => exact rfl); (case k2 => exact rfl); (case k3 => intro _; rfl); (case k4 => assumption); k_whole)) | walk1 | (dsimp only; walk1) | (leave1; walk_say "STEP leave1"; try dsimp only) | fail "no step"))
    refine Stop.go ?_
    refine kda_item (knd := PySem.strKind _ _) (by k_asm) (.tail _ (.tail _ (.tail _ hdT4))) hT (strKind_is _ _ _ _) hval ?_
    (try dsimp only)
    (repeat' (first | (k_unfold; (try dsimp only)) | ((first | (with_reducible refine Then.next ?_) | (with_reducible refine Then.ret ?_) | (with_reducible refine Joined.next ?_) | (with_reducible refine Joined.ret ?_) | (with_reducible refine HidV.get (by with_reducible assumption) _ _ ?_) | (with_reducible refine Hdn.get (by with_reducible assumption) ?_) | (with_reducible refine TurnEnd.toRet ?_)); (try dsimp only)) | (k_end; wrow_close) | ((with_reducible refine hide_turn ?_); intro Q1 H1) | (with_reducible refine exec_hid ?_) | (with_reducible (first | refine sp1 ?_ | refine sp2 ?_ | refine sp3 ?_ | refine sp4 ?_ | refine sp5 ?_ | refine sp6 ?_ | refine sp7 ?_ | refine sp8 ?_ | refine sp9 ?_ | refine sp10 ?_ | refine sp11 ?_ | refine sp12 ?_ | refine sp13 ?_ | refine sp14 ?_ | refine sp15 ?_ | refine sp16 ?_ | refine sp17 ?_ | refine sp18 ?_ | refine sp19 ?_ | refine sp22 ?_ | refine sp23 ?_ | refine sp24 ?_)) | ((with_reducible show wpAny _ _ (exec (Stmt.For (Expr.Name _ _) _ _ [] _) _) _ _ _); (with_unfolding_all refine' for_at ?F ?k1 ?k2 ?_ ?k3 ?k4; (case F => k_asm); (case k1 => exact rfl); (case k2 => exact rfl); (case k3 => intro _; rfl); (case k4 => assumption); k_whole)) | walk1 | (dsimp only; walk1) | (leave1; walk_say "STEP leave1"; try dsimp only) | fail "no step"))
    · rename (bv = true) => hb
      refine LCg.CompEnd.intro (by k_asm) N9 _ (fun _ h => h) off hdT4 ⟨rfl, ?_⟩
      rw [filter_take_succ _ (by rw [List.getElem?_map, hs]; rfl), if_pos (by rw [onB_of hval]; exact hb)]
      exact strsAre_app hys (.cons _ _ .nil)
    · rename (bv = false) => hb
      refine LCg.CompEnd.intro (by k_asm) N9 _ (fun _ h => h) off hdT4 ⟨rfl, ?_⟩
      rw [filter_take_succ _ (by rw [List.getElem?_map, hs]; rfl), if_neg (by rw [onB_of hval, hb]; decide), List.append_nil]
      exact hys
  · intro ys nw hJ
    refine hide_goal (fun Hq => ?_)
    obtain ⟨rfl, hys⟩ := hJ
    (try ((first | (with_reducible refine Then.next ?_) | (with_reducible refine Then.ret ?_) | (with_reducible refine Joined.next ?_) | (with_reducible refine Joined.ret ?_) | (with_reducible refine HidV.get (by with_reducible assumption) _ _ ?_) | (with_reducible refine Hdn.get (by with_reducible assumption) ?_) | (with_reducible refine TurnEnd.toRet ?_)); (try dsimp only)))
    intro D9 h9 tk9 F9 N9 off9
    rw [vals_length, show (T.map (·.1)).take T.length = T.map (·.1) from List.take_of_length_le (by rw [List.length_map]; exact Nat.le_refl _)] at hys
    (try dsimp only)
    (repeat' (first | (k_unfold; (try dsimp only)) | ((first | (with_reducible refine Then.next ?_) | (with_reducible refine Then.ret ?_) | (with_reducible refine Joined.next ?_) | (with_reducible refine Joined.ret ?_) | (with_reducible refine HidV.get (by with_reducible assumption) _ _ ?_) | (with_reducible refine Hdn.get (by with_reducible assumption) ?_) | (with_reducible refine TurnEnd.toRet ?_)); (try dsimp only)) | (k_end; wrow_close) | ((with_reducible refine hide_turn ?_); intro Q1 H1) | (with_reducible refine exec_hid ?_) | (with_reducible (first | refine sp1 ?_ | refine sp2 ?_ | refine sp3 ?_ | refine sp4 ?_ | refine sp5 ?_ | refine sp6 ?_ | refine sp7 ?_ | refine sp8 ?_ | refine sp9 ?_ | refine sp10 ?_ | refine sp11 ?_ | refine sp12 ?_ | refine sp13 ?_ | refine sp14 ?_ | refine sp15 ?_ | refine sp16 ?_ | refine sp17 ?_ | refine sp18 ?_ | refine sp19 ?_ | refine sp22 ?_ | refine sp23 ?_ | refine sp24 ?_)) | ((with_reducible show wpAny _ _ (exec (Stmt.For (Expr.Name _ _) _ _ [] _) _) _ _ _); (with_unfolding_all refine' for_at ?F ?k1 ?k2 ?_ ?k3 ?k4; (case F => k_asm); (case k1 => exact rfl); (case k2 => exact rfl); (case k3 => intro _; rfl); (case k4 => assumption); k_whole)) | walk1 | (dsimp only; walk1) | (leave1; walk_say "STEP leave1"; try dsimp only) | fail "no step"))
    refine Stop.go ?_
    have z9 := N9 _ (.head _)
    have hyl : ys.length ≤ 41 := Nat.le_trans (Nat.le_of_eq hys.length) (Nat.le_trans (List.length_filter_le _ _) (by rw [List.length_map]; exact l2))
    refine sorted_N_str F9 N9 ⟨_, z9.1, rfl, _, rfl⟩ hys (by (first | exact Nat.le_trans (by assumption) (by decide) | exact Nat.lt_of_le_of_lt (by assumption) (by decide) | omega)) ?_
    intro h10 us' us e10 F10 N10 hus hup hsrt2
    have heq := hA.sorted hperm hsrt hup hsrt2
    (try dsimp only)
    (repeat' (first | (k_unfold; (try dsimp only)) | ((first | (with_reducible refine Then.next ?_) | (with_reducible refine Then.ret ?_) | (with_reducible refine Joined.next ?_) | (with_reducible refine Joined.ret ?_) | (with_reducible refine HidV.get (by with_reducible assumption) _ _ ?_) | (with_reducible refine Hdn.get (by with_reducible assumption) ?_) | (with_reducible refine TurnEnd.toRet ?_)); (try dsimp only)) | (k_end; wrow_close) | ((with_reducible refine hide_turn ?_); intro Q1 H1) | (with_reducible refine exec_hid ?_) | (with_reducible (first | refine sp1 ?_ | refine sp2 ?_ | refine sp3 ?_ | refine sp4 ?_ | refine sp5 ?_ | refine sp6 ?_ | refine sp7 ?_ | refine sp8 ?_ | refine sp9 ?_ | refine sp10 ?_ | refine sp11 ?_ | refine sp12 ?_ | refine sp13 ?_ | refine sp14 ?_ | refine sp15 ?_ | refine sp16 ?_ | refine sp17 ?_ | refine sp18 ?_ | refine sp19 ?_ | refine sp22 ?_ | refine sp23 ?_ | refine sp24 ?_)) | ((with_reducible show wpAny _ _ (exec (Stmt.For (Expr.Name _ _) _ _ [] _) _) _ _ _); (with_unfolding_all refine' for_at ?F ?k1 ?k2 ?_ ?k3 ?k4; (case F => k_asm); (case k1 => exact rfl); (case k2 => exact rfl); (case k3 => intro _; rfl); (case k4 => assumption); k_whole)) | walk1 | (dsimp only; walk1) | (leave1; walk_say "STEP leave1"; try dsimp only) | fail "no step"))
    refine Stop.go ?_
    have z10 := N10 _ (.head _)
    have zD2 := N10 _ (.tail _ (.tail _ (.head _)))
    refine ne_strs_lists ⟨_, zD2.1, rfl, _, rfl⟩ ⟨_, z10.1, rfl, _, rfl⟩ hia hus (fun y hy => hA.1.ok y (hperm.mem_iff.mp (List.mem_filter.mp hy).1)) (fun y hy => hA.2.1.ok y (List.mem_filter.mp (hup.mem_iff.mp hy)).1) (by exact room (by assumption) (by decide)) ?_
    rw [heq, show (!decide (us = us)) = false from by simp]
    have N11 : News g' L' h10 ((L' + 1, o1) :: news) := news_sub N10 fun q hq => .tail _ (.tail _ (.tail _ (.tail _ hq)))
    clear N10 z10 zD2 heq hup hus z9 off9 N9 F9 hys hyl zD F4 N4 lt4 F3 N3 hdT4
    (try dsimp only)
    (repeat' (first | (k_unfold; (try dsimp only)) | ((first | (with_reducible refine Then.next ?_) | (with_reducible refine Then.ret ?_) | (with_reducible refine Joined.next ?_) | (with_reducible refine Joined.ret ?_) | (with_reducible refine HidV.get (by with_reducible assumption) _ _ ?_) | (with_reducible refine Hdn.get (by with_reducible assumption) ?_) | (with_reducible refine TurnEnd.toRet ?_)); (try dsimp only)) | (k_end; wrow_close) | ((with_reducible refine hide_turn ?_); intro Q1 H1) | (with_reducible refine exec_hid ?_) | (with_reducible (first | refine sp1 ?_ | refine sp2 ?_ | refine sp3 ?_ | refine sp4 ?_ | refine sp5 ?_ | refine sp6 ?_ | refine sp7 ?_ | refine sp8 ?_ | refine sp9 ?_ | refine sp10 ?_ | refine sp11 ?_ | refine sp12 ?_ | refine sp13 ?_ | refine sp14 ?_ | refine sp15 ?_ | refine sp16 ?_ | refine sp17 ?_ | refine sp18 ?_ | refine sp19 ?_ | refine sp22 ?_ | refine sp23 ?_ | refine sp24 ?_)) | ((with_reducible show wpAny _ _ (exec (Stmt.For (Expr.Name _ _) _ _ [] _) _) _ _ _); (with_unfolding_all refine' for_at ?F ?k1 ?k2 ?_ ?k3 ?k4; (case F => k_asm); (case k1 => exact rfl); (case k2 => exact rfl); (case k3 => intro _; rfl); (case k4 => assumption); k_whole)) | walk1 | (dsimp only; walk1) | (leave1; walk_say "STEP leave1"; try dsimp only) | fail "no step"))
    rename News g' _ _ _ => N12
    rename Fr g' _ _ _ => F12
    rename_i Dt _ l12 _
    refine loop_list (vs := [.ref 140, .ref 141]) (fun i m₁ nw => (∀ y, y ≠ Str.ofString "group" → m₁ y = (fun y => if y = Str.ofString "told" then some (Value.ref Dt) else bindL _ [(Str.ofString "modes", Value.ref x), (Str.ofString "states", Value.ref dT)] (fun _ => none) y) y) ∧
      ∃ ts kt, nw = (Dt, listOf ts.toArray kt) :: (L' + 1, o1) :: news ∧ ts.length = i ∧ OptsAre ts (([MM, ME].take i).map fun g => g.find? (onB T))) rfl (lm_list (X'.keeps F12.keep)) (low_of F12 (X' 142 _ rfl)) F12 N12 ⟨fun _ _ => rfl, [], 0, rfl, rfl, trivial⟩ ?_ ?_
    · intro I i v m₁ news₁ own h3 tk3 hv hlt hI hown hJ hnI F4 N4
      refine hide_goal (fun Hq => ?_)
      obtain ⟨e1, ts, kt, rfl, htl, hts⟩ := hJ
      refine group_at X' hv fun gi G items og e hG hgl hgs hog => ?_
      subst e
      have F5 := fr_in F4 e1
      clear F4
      (repeat' (first | (k_unfold; (try dsimp only)) | ((first | (with_reducible refine Then.next ?_) | (with_reducible refine Then.ret ?_) | (with_reducible refine Joined.next ?_) | (with_reducible refine Joined.ret ?_) | (with_reducible refine HidV.get (by with_reducible assumption) _ _ ?_) | (with_reducible refine Hdn.get (by with_reducible assumption) ?_) | (with_reducible refine TurnEnd.toRet ?_)); (try dsimp only)) | (k_end; wrow_close) | ((with_reducible refine hide_turn ?_); intro Q1 H1) | (with_reducible refine exec_hid ?_) | (with_reducible (first | refine sp1 ?_ | refine sp2 ?_ | refine sp3 ?_ | refine sp4 ?_ | refine sp5 ?_ | refine sp6 ?_ | refine sp7 ?_ | refine sp8 ?_ | refine sp9 ?_ | refine sp10 ?_ | refine sp11 ?_ | refine sp12 ?_ | refine sp13 ?_ | refine sp14 ?_ | refine sp15 ?_ | refine sp16 ?_ | refine sp17 ?_ | refine sp18 ?_ | refine sp19 ?_ | refine sp22 ?_ | refine sp23 ?_ | refine sp24 ?_)) | ((with_reducible show wpAny _ _ (exec (Stmt.For (Expr.Name _ _) _ _ [] _) _) _ _ _); (with_unfolding_all refine' for_at ?F ?k1 ?k2 ?_ ?k3 ?k4; (case F => k_asm); (case k1 => exact rfl); (case k2 => exact rfl); (case k3 => intro _; rfl); (case k4 => assumption); k_whole)) | walk1 | (dsimp only; walk1) | (leave1; walk_say "STEP leave1"; try dsimp only) | fail "no step"))
      refine Stop.go ?_
      (k_dflt (first | ((with_reducible refine' comp_TW ?kF ?k1 ?k2 ?k3 ?k4 ?k5 ?_ ?k6); (case kF => k_asm); (case k1 => with_unfolding_all rfl); (case k2 => decide); (case k3 => rfl); (case k4 => decide); (case k5 => rfl); (case k6 => intro _; rfl)) | ((with_reducible refine' comp_UW ?kF ?k1 ?k2 ?k3 ?k4 ?k5 ?_ ?k6); (case kF => k_asm); (case k1 => with_unfolding_all rfl); (case k2 => decide); (case k3 => rfl); (case k4 => decide); (case k5 => rfl); (case k6 => intro _; rfl))))
      (repeat' (first | (k_unfold; (try dsimp only)) | ((first | (with_reducible refine Then.next ?_) | (with_reducible refine Then.ret ?_) | (with_reducible refine Joined.next ?_) | (with_reducible refine Joined.ret ?_) | (with_reducible refine HidV.get (by with_reducible assumption) _ _ ?_) | (with_reducible refine Hdn.get (by with_reducible assumption) ?_) | (with_reducible refine TurnEnd.toRet ?_)); (try dsimp only)) | (k_end; wrow_close) | ((with_reducible refine hide_turn ?_); intro Q1 H1) | (with_reducible refine exec_hid ?_) | (with_reducible (first | refine sp1 ?_ | refine sp2 ?_ | refine sp3 ?_ | refine sp4 ?_ | refine sp5 ?_ | refine sp6 ?_ | refine sp7 ?_ | refine sp8 ?_ | refine sp9 ?_ | refine sp10 ?_ | refine sp11 ?_ | refine sp12 ?_ | refine sp13 ?_ | refine sp14 ?_ | refine sp15 ?_ | refine sp16 ?_ | refine sp17 ?_ | refine sp18 ?_ | refine sp19 ?_ | refine sp22 ?_ | refine sp23 ?_ | refine sp24 ?_)) | ((with_reducible show wpAny _ _ (exec (Stmt.For (Expr.Name _ _) _ _ [] _) _) _ _ _); (with_unfolding_all refine' for_at ?F ?k1 ?k2 ?_ ?k3 ?k4; (case F => k_asm); (case k1 => exact rfl); (case k2 => exact rfl); (case k3 => intro _; rfl); (case k4 => assumption); k_whole)) | walk1 | (dsimp only; walk1) | (leave1; walk_say "STEP leave1"; try dsimp only) | fail "no step"))
      rename Fr g' _ _ _ => F6
      have hil : items.length ≤ 4 := Nat.le_of_eq (hgs.length.trans (MM_ME_length (List.mem_of_getElem? hG)))
      refine src_list rfl F6 N4 (.inl hgl) (by rw [List.size_toArray, sizeLine_eq]; (first | exact Nat.le_trans (by assumption) (by decide) | exact Nat.lt_of_le_of_lt (by assumption) (by decide) | omega)) ?_
      intro gg
      refine restT_inv (fun j ys nw => nw = own ++ (Dt, listOf ts.toArray kt) :: (L' + 1, o1) :: news ∧ StrsAre ys ((G.take j).filter (onB T))) ?_ ?_ _ 0 [] _ (Nat.zero_add _) ⟨rfl, .nil⟩
      · intro j ys nw v I2 oI2 C oC D5 m₂ h tk E' hj hJ hP hC hxv F9 N9 off ne
        refine hide_goal (fun Hq => ?_)
        obtain ⟨rfl, hys⟩ := hJ
        obtain ⟨sw, st, rfl, hs⟩ := strsAt_get hgs (by simpa using hP)
        have hsw : sw ∈ words41 := group_words (List.mem_of_getElem? hG) (List.mem_of_getElem? hs)
        obtain ⟨bv, hval⟩ : ∃ b, valueAt (vals T) sw = some (.bool b) := ⟨onB S sw, by rw [valueAt_vals, hA.2.2 sw hsw]; rfl⟩
        (repeat' (first | (k_unfold; (try dsimp only)) | ((first | (with_reducible refine Then.next ?_) | (with_reducible refine Then.ret ?_) | (with_reducible refine Joined.next ?_) | (with_reducible refine Joined.ret ?_) | (with_reducible refine HidV.get (by with_reducible assumption) _ _ ?_) | (with_reducible refine Hdn.get (by with_reducible assumption) ?_) | (with_reducible refine TurnEnd.toRet ?_)); (try dsimp only)) | (k_end; wrow_close) | ((with_reducible refine hide_turn ?_); intro Q1 H1) | (with_reducible refine exec_hid ?_) | (with_reducible (first | refine sp1 ?_ | refine sp2 ?_ | refine sp3 ?_ | refine sp4 ?_ | refine sp5 ?_ | refine sp6 ?_ | refine sp7 ?_ | refine sp8 ?_ | refine sp9 ?_ | refine sp10 ?_ | refine sp11 ?_ | refine sp12 ?_ | refine sp13 ?_ | refine sp14 ?_ | refine sp15 ?_ | refine sp16 ?_ | refine sp17 ?_ | refine sp18 ?_ | refine sp19 ?_ | refine sp22 ?_ | refine sp23 ?_ | refine sp24 ?_)) | ((with_reducible show wpAny _ _ (exec (Stmt.For (Expr.Name _ _) _ _ [] _) _) _ _ _); (with_unfolding_all refine' for_at ?F ?k1 ?k2 ?_ ?k3 ?k4; (case F => k_asm); (case k1 => exact rfl); (case k2 => exact rfl); (case k3 => intro _; rfl); (case k4 => assumption); k_whole)) | walk1 | (dsimp only; walk1) | (leave1; walk_say "STEP leave1"; try dsimp only) | fail "no step"))
        refine Stop.go ?_
        refine kda_item (knd := PySem.strKind _ _) (by k_asm) (.tail _ (.tail _ (.tail _ (List.mem_append_right _ (.tail _ (.tail _ hdT)))))) hT (strKind_is _ _ _ _) hval ?_
        (try dsimp only)
        (repeat' (first | (k_unfold; (try dsimp only)) | ((first | (with_reducible refine Then.next ?_) | (with_reducible refine Then.ret ?_) | (with_reducible refine Joined.next ?_) | (with_reducible refine Joined.ret ?_) | (with_reducible refine HidV.get (by with_reducible assumption) _ _ ?_) | (with_reducible refine Hdn.get (by with_reducible assumption) ?_) | (with_reducible refine TurnEnd.toRet ?_)); (try dsimp only)) | (k_end; wrow_close) | ((with_reducible refine hide_turn ?_); intro Q1 H1) | (with_reducible refine exec_hid ?_) | (with_reducible (first | refine sp1 ?_ | refine sp2 ?_ | refine sp3 ?_ | refine sp4 ?_ | refine sp5 ?_ | refine sp6 ?_ | refine sp7 ?_ | refine sp8 ?_ | refine sp9 ?_ | refine sp10 ?_ | refine sp11 ?_ | refine sp12 ?_ | refine sp13 ?_ | refine sp14 ?_ | refine sp15 ?_ | refine sp16 ?_ | refine sp17 ?_ | refine sp18 ?_ | refine sp19 ?_ | refine sp22 ?_ | refine sp23 ?_ | refine sp24 ?_)) | ((with_reducible show wpAny _ _ (exec (Stmt.For (Expr.Name _ _) _ _ [] _) _) _ _ _); (with_unfolding_all refine' for_at ?F ?k1 ?k2 ?_ ?k3 ?k4; (case F => k_asm); (case k1 => exact rfl); (case k2 => exact rfl); (case k3 => intro _; rfl); (case k4 => assumption); k_whole)) | walk1 | (dsimp only; walk1) | (leave1; walk_say "STEP leave1"; try dsimp only) | fail "no step"))
        · rename (bv = true) => hb
          refine LCg.CompEnd.intro (by k_asm) N9 _ (fun _ h => h) off (.inl hgl) ⟨rfl, ?_⟩
          rw [filter_take_succ _ hs, if_pos (by rw [onB_of hval]; exact hb)]
          exact strsAre_app hys (.cons _ _ .nil)
        · rename (bv = false) => hb
          refine LCg.CompEnd.intro (by k_asm) N9 _ (fun _ h => h) off (.inl hgl) ⟨rfl, ?_⟩
          rw [filter_take_succ _ hs, if_neg (by rw [onB_of hval, hb]; decide), List.append_nil]
          exact hys
      · intro ys nw hJ
        refine hide_goal (fun Hq => ?_)
        obtain ⟨rfl, hys⟩ := hJ
        (try ((first | (with_reducible refine Then.next ?_) | (with_reducible refine Then.ret ?_) | (with_reducible refine Joined.next ?_) | (with_reducible refine Joined.ret ?_) | (with_reducible refine HidV.get (by with_reducible assumption) _ _ ?_) | (with_reducible refine Hdn.get (by with_reducible assumption) ?_) | (with_reducible refine TurnEnd.toRet ?_)); (try dsimp only)))
        intro D9 h9 tk9 F9 N9 off9
        rw [List.size_toArray, show items.length = G.length from hgs.length, List.take_length] at hys
        (try dsimp only)
        (repeat' (first | (k_unfold; (try dsimp only)) | ((first | (with_reducible refine Then.next ?_) | (with_reducible refine Then.ret ?_) | (with_reducible refine Joined.next ?_) | (with_reducible refine Joined.ret ?_) | (with_reducible refine HidV.get (by with_reducible assumption) _ _ ?_) | (with_reducible refine Hdn.get (by with_reducible assumption) ?_) | (with_reducible refine TurnEnd.toRet ?_)); (try dsimp only)) | (k_end; wrow_close) | ((with_reducible refine hide_turn ?_); intro Q1 H1) | (with_reducible refine exec_hid ?_) | (with_reducible (first | refine sp1 ?_ | refine sp2 ?_ | refine sp3 ?_ | refine sp4 ?_ | refine sp5 ?_ | refine sp6 ?_ | refine sp7 ?_ | refine sp8 ?_ | refine sp9 ?_ | refine sp10 ?_ | refine sp11 ?_ | refine sp12 ?_ | refine sp13 ?_ | refine sp14 ?_ | refine sp15 ?_ | refine sp16 ?_ | refine sp17 ?_ | refine sp18 ?_ | refine sp19 ?_ | refine sp22 ?_ | refine sp23 ?_ | refine sp24 ?_)) | ((with_reducible show wpAny _ _ (exec (Stmt.For (Expr.Name _ _) _ _ [] _) _) _ _ _); (with_unfolding_all refine' for_at ?F ?k1 ?k2 ?_ ?k3 ?k4; (case F => k_asm); (case k1 => exact rfl); (case k2 => exact rfl); (case k3 => intro _; rfl); (case k4 => assumption); k_whole)) | walk1 | (dsimp only; walk1) | (leave1; walk_say "STEP leave1"; try dsimp only) | fail "no step"))
        refine Stop.go ?_
        rename News g' _ _ _ => N13
        rename Fr g' _ _ _ => F13
        have y1 := N13 _ (.head _)
        have y2 := N13 _ (.tail _ (.head _))
        have hyl : ys.length ≤ 4 := Nat.le_trans (Nat.le_of_eq hys.length) (Nat.le_trans (List.length_filter_le _ _) (Nat.le_trans (Nat.le_of_eq hgs.length.symm) hil))
        refine add_lists (vs := ys) (ws := [.none]) F13 N13 ⟨_, y2.1, rfl, _, rfl⟩ ⟨_, y1.1, rfl, _, rfl⟩ (fun h14 F14 N14 => ?_) (by rw [sizeLine_eq]; exact Nat.le_trans (Nat.add_le_add_right hyl 1) (by decide))
        refine hide_goal (fun Hq => ?_)
        obtain ⟨hv0, hx0, ho0⟩ := head_opt hys
        have y3 := N14 _ (.head _)
        (try dsimp only)
        (repeat' (first | (k_unfold; (try dsimp only)) | ((first | (with_reducible refine Then.next ?_) | (with_reducible refine Then.ret ?_) | (with_reducible refine Joined.next ?_) | (with_reducible refine Joined.ret ?_) | (with_reducible refine HidV.get (by with_reducible assumption) _ _ ?_) | (with_reducible refine Hdn.get (by with_reducible assumption) ?_) | (with_reducible refine TurnEnd.toRet ?_)); (try dsimp only)) | (k_end; wrow_close) | ((with_reducible refine hide_turn ?_); intro Q1 H1) | (with_reducible refine exec_hid ?_) | (with_reducible (first | refine sp1 ?_ | refine sp2 ?_ | refine sp3 ?_ | refine sp4 ?_ | refine sp5 ?_ | refine sp6 ?_ | refine sp7 ?_ | refine sp8 ?_ | refine sp9 ?_ | refine sp10 ?_ | refine sp11 ?_ | refine sp12 ?_ | refine sp13 ?_ | refine sp14 ?_ | refine sp15 ?_ | refine sp16 ?_ | refine sp17 ?_ | refine sp18 ?_ | refine sp19 ?_ | refine sp22 ?_ | refine sp23 ?_ | refine sp24 ?_)) | ((with_reducible show wpAny _ _ (exec (Stmt.For (Expr.Name _ _) _ _ [] _) _) _ _ _); (with_unfolding_all refine' for_at ?F ?k1 ?k2 ?_ ?k3 ?k4; (case F => k_asm); (case k1 => exact rfl); (case k2 => exact rfl); (case k3 => intro _; rfl); (case k4 => assumption); k_whole)) | walk1 | (dsimp only; walk1) | (leave1; walk_say "STEP leave1"; try dsimp only) | fail "no step"))
        refine Stop.go ?_
        refine list_item (k := 0) ⟨_, y3.1, rfl, _, rfl⟩ (by decide) (by decide) hx0 ?_ (by with_unfolding_all rfl)
        (try dsimp only)
        (repeat' (first | (k_unfold; (try dsimp only)) | ((first | (with_reducible refine Then.next ?_) | (with_reducible refine Then.ret ?_) | (with_reducible refine Joined.next ?_) | (with_reducible refine Joined.ret ?_) | (with_reducible refine HidV.get (by with_reducible assumption) _ _ ?_) | (with_reducible refine Hdn.get (by with_reducible assumption) ?_) | (with_reducible refine TurnEnd.toRet ?_)); (try dsimp only)) | (k_end; wrow_close) | ((with_reducible refine hide_turn ?_); intro Q1 H1) | (with_reducible refine exec_hid ?_) | (with_reducible (first | refine sp1 ?_ | refine sp2 ?_ | refine sp3 ?_ | refine sp4 ?_ | refine sp5 ?_ | refine sp6 ?_ | refine sp7 ?_ | refine sp8 ?_ | refine sp9 ?_ | refine sp10 ?_ | refine sp11 ?_ | refine sp12 ?_ | refine sp13 ?_ | refine sp14 ?_ | refine sp15 ?_ | refine sp16 ?_ | refine sp17 ?_ | refine sp18 ?_ | refine sp19 ?_ | refine sp22 ?_ | refine sp23 ?_ | refine sp24 ?_)) | ((with_reducible show wpAny _ _ (exec (Stmt.For (Expr.Name _ _) _ _ [] _) _) _ _ _); (with_unfolding_all refine' for_at ?F ?k1 ?k2 ?_ ?k3 ?k4; (case F => k_asm); (case k1 => exact rfl); (case k2 => exact rfl); (case k3 => intro _; rfl); (case k4 => assumption); k_whole)) | walk1 | (dsimp only; walk1) | (leave1; walk_say "STEP leave1"; try dsimp only) | fail "no step"))
        refine Stop.go ?_
        have hDm : (Dt, listOf ts.toArray kt) ∈ own ++ (Dt, listOf ts.toArray kt) :: (L' + 1, o1) :: news := List.mem_append_right _ (.head _)
        have hi2 : i < 2 := by
          rcases Nat.lt_or_ge i 2 with q | q
          · exact q
          · rw [List.getElem?_eq_none (by simpa using q)] at hG; cases hG
        refine append1 F14 N14 (.tail _ (.tail _ (.tail _ hDm))) (by (first | exact Nat.le_trans (by assumption) (by decide) | exact Nat.lt_of_le_of_lt (by assumption) (by decide) | omega)) (fun h15 tk15 F15 N15 => ?_)
        (try dsimp only)
        (repeat' (first | (k_unfold; (try dsimp only)) | ((first | (with_reducible refine Then.next ?_) | (with_reducible refine Then.ret ?_) | (with_reducible refine Joined.next ?_) | (with_reducible refine Joined.ret ?_) | (with_reducible refine HidV.get (by with_reducible assumption) _ _ ?_) | (with_reducible refine Hdn.get (by with_reducible assumption) ?_) | (with_reducible refine TurnEnd.toRet ?_)); (try dsimp only)) | (k_end; wrow_close) | ((with_reducible refine hide_turn ?_); intro Q1 H1) | (with_reducible refine exec_hid ?_) | (with_reducible (first | refine sp1 ?_ | refine sp2 ?_ | refine sp3 ?_ | refine sp4 ?_ | refine sp5 ?_ | refine sp6 ?_ | refine sp7 ?_ | refine sp8 ?_ | refine sp9 ?_ | refine sp10 ?_ | refine sp11 ?_ | refine sp12 ?_ | refine sp13 ?_ | refine sp14 ?_ | refine sp15 ?_ | refine sp16 ?_ | refine sp17 ?_ | refine sp18 ?_ | refine sp19 ?_ | refine sp22 ?_ | refine sp23 ?_ | refine sp24 ?_)) | ((with_reducible show wpAny _ _ (exec (Stmt.For (Expr.Name _ _) _ _ [] _) _) _ _ _); (with_unfolding_all refine' for_at ?F ?k1 ?k2 ?_ ?k3 ?k4; (case F => k_asm); (case k1 => exact rfl); (case k2 => exact rfl); (case k3 => intro _; rfl); (case k4 => assumption); k_whole)) | walk1 | (dsimp only; walk1) | (leave1; walk_say "STEP leave1"; try dsimp only) | fail "no step"))
        have hDI : Dt ≠ I := hnI _ (.head _)
        have hD142 : Dt ≠ 142 := low_news N12 (X' 142 _ rfl) (Dt, _) (.head _)
        refine TurnEnd.intro (news' := (Dt, listOf (ts ++ [hv0]).toArray (kt + 1)) :: (L' + 1, o1) :: news) F15 (news_sub N15 (fun q hq => ?_)) ?_ ⟨fun y h1 => by dsimp only; simp only [if_neg h1], ts ++ [hv0], kt + 1, rfl, by rw [List.length_append, List.length_singleton]; omega, ?_⟩
        · refine .tail _ (.tail _ (.tail _ ?_))
          rcases List.mem_append.mp hq with hq | hq
          · have hqD : q.1 ≠ Dt := by
              rcases hown q hq with e | e
              · rw [e]; exact fun e' => hDI e'.symm
              · rw [e]; exact fun e' => hD142 e'.symm
            exact updL_ne (List.mem_append_left _ hq) hqD
          · rcases List.mem_cons.mp hq with rfl | hq
            · exact updL_self hDm
            · refine updL_ne (List.mem_append_right _ (.tail _ hq)) ?_
              rcases List.mem_cons.mp hq with rfl | hq
              · exact Nat.ne_of_lt l12.1
              · exact allLt_ne l12.2 q hq
        · exact List.forall_mem_cons.mpr ⟨hDI, fun q hq => hnI q (.tail _ hq)⟩
        · have hi' : ([MM, ME].take (i + 1)) = [MM, ME].take i ++ [G] := by rw [List.take_add_one, hG]; rfl
          rw [hi', List.map_append]
          exact hts.app ⟨ho0, trivial⟩
    · intro m₁ news₁ h3 tk3 hJ F4 N4
      refine hide_goal (fun Hq => ?_)
      obtain ⟨e1, ts, kt, rfl, htl, hts⟩ := hJ
      have F5 := fr_out _ F4 e1
      clear F4
      (try dsimp only)
      (repeat' (first | (k_unfold; (try dsimp only)) | ((first | (with_reducible refine Then.next ?_) | (with_reducible refine Then.ret ?_) | (with_reducible refine Joined.next ?_) | (with_reducible refine Joined.ret ?_) | (with_reducible refine HidV.get (by with_reducible assumption) _ _ ?_) | (with_reducible refine Hdn.get (by with_reducible assumption) ?_) | (with_reducible refine TurnEnd.toRet ?_)); (try dsimp only)) | (k_end; wrow_close) | ((with_reducible refine hide_turn ?_); intro Q1 H1) | (with_reducible refine exec_hid ?_) | (with_reducible (first | refine sp1 ?_ | refine sp2 ?_ | refine sp3 ?_ | refine sp4 ?_ | refine sp5 ?_ | refine sp6 ?_ | refine sp7 ?_ | refine sp8 ?_ | refine sp9 ?_ | refine sp10 ?_ | refine sp11 ?_ | refine sp12 ?_ | refine sp13 ?_ | refine sp14 ?_ | refine sp15 ?_ | refine sp16 ?_ | refine sp17 ?_ | refine sp18 ?_ | refine sp19 ?_ | refine sp22 ?_ | refine sp23 ?_ | refine sp24 ?_)) | ((with_reducible show wpAny _ _ (exec (Stmt.For (Expr.Name _ _) _ _ [] _) _) _ _ _); (with_unfolding_all refine' for_at ?F ?k1 ?k2 ?_ ?k3 ?k4; (case F => k_asm); (case k1 => exact rfl); (case k2 => exact rfl); (case k3 => intro _; rfl); (case k4 => assumption); k_whole)) | walk1 | (dsimp only; walk1) | (leave1; walk_say "STEP leave1"; try dsimp only) | fail "no step"))
      refine Stop.go ?_
      k_dflt (refine' (c_mouse (S := S)) _ _ _ _ _ _ _ _ _ _ _ _ _ _ _ _ ?kA ?kF ?kK ?k1 ?k2 ?k3 ?k4 ?k5 ?kd ?ku ?p0 ?p1 ?p2 ?p3 ?p4 ?_; (case kA => assumption); (case kF => exact rfl); (case kK => exact rfl); (case k1 => k_asm); (case k2 => k_asm); (case k3 => k_asm); (case k4 => k_asm); (case k5 => k_asm); (case p0 => k_mem); (case p1 => k_mem); (case p2 => k_mem); (case p3 => exact hS); (case p4 => exact hlo); (case kd => exact room (by assumption) (by decide)); (case ku => exact room (by assumption) (by decide)); intro r hr1 h16 tk16 F16 N16)
      (try dsimp only)
      (repeat' (first | (k_unfold; (try dsimp only)) | ((first | (with_reducible refine Then.next ?_) | (with_reducible refine Then.ret ?_) | (with_reducible refine Joined.next ?_) | (with_reducible refine Joined.ret ?_) | (with_reducible refine HidV.get (by with_reducible assumption) _ _ ?_) | (with_reducible refine Hdn.get (by with_reducible assumption) ?_) | (with_reducible refine TurnEnd.toRet ?_)); (try dsimp only)) | (k_end; wrow_close) | ((with_reducible refine hide_turn ?_); intro Q1 H1) | (with_reducible refine exec_hid ?_) | (with_reducible (first | refine sp1 ?_ | refine sp2 ?_ | refine sp3 ?_ | refine sp4 ?_ | refine sp5 ?_ | refine sp6 ?_ | refine sp7 ?_ | refine sp8 ?_ | refine sp9 ?_ | refine sp10 ?_ | refine sp11 ?_ | refine sp12 ?_ | refine sp13 ?_ | refine sp14 ?_ | refine sp15 ?_ | refine sp16 ?_ | refine sp17 ?_ | refine sp18 ?_ | refine sp19 ?_ | refine sp22 ?_ | refine sp23 ?_ | refine sp24 ?_)) | ((with_reducible show wpAny _ _ (exec (Stmt.For (Expr.Name _ _) _ _ [] _) _) _ _ _); (with_unfolding_all refine' for_at ?F ?k1 ?k2 ?_ ?k3 ?k4; (case F => k_asm); (case k1 => exact rfl); (case k2 => exact rfl); (case k3 => intro _; rfl); (case k4 => assumption); k_whole)) | walk1 | (dsimp only; walk1) | (leave1; walk_say "STEP leave1"; try dsimp only) | fail "no step"))
      refine Stop.go ?_
      k_dflt (refine' (c_enc (S := S)) _ _ _ _ _ _ _ _ _ _ _ _ _ _ _ _ ?kA ?kF ?kK ?k1 ?k2 ?k3 ?k4 ?k5 ?kd ?ku ?p0 ?p1 ?p2 ?p3 ?p4 ?_; (case kA => assumption); (case kF => exact rfl); (case kK => exact rfl); (case k1 => k_asm); (case k2 => k_asm); (case k3 => k_asm); (case k4 => k_asm); (case k5 => k_asm); (case p0 => k_mem); (case p1 => k_mem); (case p2 => k_mem); (case p3 => exact hS); (case p4 => exact hlo); (case kd => exact room (by assumption) (by decide)); (case ku => exact room (by assumption) (by decide)); intro r2 hr2 h17 tk17 F17 N17)
      (try dsimp only)
      (repeat' (first | (k_unfold; (try dsimp only)) | ((first | (with_reducible refine Then.next ?_) | (with_reducible refine Then.ret ?_) | (with_reducible refine Joined.next ?_) | (with_reducible refine Joined.ret ?_) | (with_reducible refine HidV.get (by with_reducible assumption) _ _ ?_) | (with_reducible refine Hdn.get (by with_reducible assumption) ?_) | (with_reducible refine TurnEnd.toRet ?_)); (try dsimp only)) | (k_end; wrow_close) | ((with_reducible refine hide_turn ?_); intro Q1 H1) | (with_reducible refine exec_hid ?_) | (with_reducible (first | refine sp1 ?_ | refine sp2 ?_ | refine sp3 ?_ | refine sp4 ?_ | refine sp5 ?_ | refine sp6 ?_ | refine sp7 ?_ | refine sp8 ?_ | refine sp9 ?_ | refine sp10 ?_ | refine sp11 ?_ | refine sp12 ?_ | refine sp13 ?_ | refine sp14 ?_ | refine sp15 ?_ | refine sp16 ?_ | refine sp17 ?_ | refine sp18 ?_ | refine sp19 ?_ | refine sp22 ?_ | refine sp23 ?_ | refine sp24 ?_)) | ((with_reducible show wpAny _ _ (exec (Stmt.For (Expr.Name _ _) _ _ [] _) _) _ _ _); (with_unfolding_all refine' for_at ?F ?k1 ?k2 ?_ ?k3 ?k4; (case F => k_asm); (case k1 => exact rfl); (case k2 => exact rfl); (case k3 => intro _; rfl); (case k4 => assumption); k_whole)) | walk1 | (dsimp only; walk1) | (leave1; walk_say "STEP leave1"; try dsimp only) | fail "no step"))
      refine Stop.go ?_
      rename News g' _ _ _ => N18
      have q1 := N18 _ (.head _)
      have q2 := N18 _ (.tail _ (.head _))
      have hfe : onB T = onB S := funext fun k => (hA.on k).symm
      have hts' : OptsAre ts [MM.find? (onB S), ME.find? (onB S)] := by
        have e : ([MM, ME].take [Value.ref 140, Value.ref 141].length).map (fun g => g.find? (onB T)) = [MM.find? (onB S), ME.find? (onB S)] := by rw [hfe]; rfl
        rw [← e]; exact hts
      refine ne_opts_self ⟨_, q1.1, rfl, _, rfl⟩ ⟨_, q2.1, rfl, _, rfl⟩ (os := [MM.find? (onB S), ME.find? (onB S)]) ⟨hr1, hr2, trivial⟩ hts' ?_ (by exact room (by assumption) (by decide)) ?_
      · intro o ho s hs
        subst hs
        rcases List.mem_cons.mp ho with h | h
        · exact words_ok _ (group_words (G := MM) (by simp) (List.mem_of_find?_eq_some h.symm))
        · exact words_ok _ (group_words (G := ME) (by simp) (List.mem_of_find?_eq_some (List.mem_singleton.mp h).symm))
      have N19 := news_sub N18 (news' := (L' + 1, o1) :: news) fun q hq => .tail _ (.tail _ hq)
      clear N18 q1 q2 hts hts' hfe htl hr1 hr2
      (try dsimp only)
      (repeat' (first | (with_reducible refine sp25 ?_) | (k_unfold; (try dsimp only)) | ((first | (with_reducible refine Then.next ?_) | (with_reducible refine Then.ret ?_) | (with_reducible refine Joined.next ?_) | (with_reducible refine Joined.ret ?_) | (with_reducible refine HidV.get (by with_reducible assumption) _ _ ?_) | (with_reducible refine Hdn.get (by with_reducible assumption) ?_) | (with_reducible refine TurnEnd.toRet ?_)); (try dsimp only)) | (k_end; wrow_close) | ((with_reducible refine hide_turn ?_); intro Q1 H1) | (with_reducible refine exec_hid ?_) | (with_reducible (first | refine sp1 ?_ | refine sp2 ?_ | refine sp3 ?_ | refine sp4 ?_ | refine sp5 ?_ | refine sp6 ?_ | refine sp7 ?_ | refine sp8 ?_ | refine sp9 ?_ | refine sp10 ?_ | refine sp11 ?_ | refine sp12 ?_ | refine sp13 ?_ | refine sp14 ?_ | refine sp15 ?_ | refine sp16 ?_ | refine sp17 ?_ | refine sp18 ?_ | refine sp19 ?_ | refine sp22 ?_ | refine sp23 ?_ | refine sp24 ?_)) | ((with_reducible show wpAny _ _ (exec (Stmt.For (Expr.Name _ _) _ _ [] _) _) _ _ _); (with_unfolding_all refine' for_at ?F ?k1 ?k2 ?_ ?k3 ?k4; (case F => k_asm); (case k1 => exact rfl); (case k2 => exact rfl); (case k3 => intro _; rfl); (case k4 => assumption); k_whole)) | walk1 | (dsimp only; walk1) | (leave1; walk_say "STEP leave1"; try dsimp only) | fail "no step"))
      rename Fr g' _ _ _ => F20
      refine hide_goal (fun Hq => ?_)
      obtain ⟨nitems, hnt, hni⟩ := nums_tup (X'.keeps F20.keep)
      (try ((first | (with_reducible refine Then.next ?_) | (with_reducible refine Then.ret ?_) | (with_reducible refine Joined.next ?_) | (with_reducible refine Joined.ret ?_) | (with_reducible refine HidV.get (by with_reducible assumption) _ _ ?_) | (with_reducible refine Hdn.get (by with_reducible assumption) ?_) | (with_reducible refine TurnEnd.toRet ?_)); (try dsimp only)))
      have hnl : nitems.length = 18 := by rw [show nitems.length = numsL.length from hni.length]; exact nums_length
      refine Stop.go ?_
      refine slice_tuple_upto (b := 10) (s := ⟨_, _, _, _, _⟩) F20 N19 hnt (by (first | exact Nat.le_trans (by assumption) (by decide) | exact Nat.lt_of_le_of_lt (by assumption) (by decide) | omega)) (fun D21 h21 F21 N21 lt21 => ?_) (by (first | exact Nat.le_trans (by assumption) (by decide) | exact Nat.lt_of_le_of_lt (by assumption) (by decide) | omega)) (by with_unfolding_all rfl) (by intro _; with_unfolding_all rfl)
      (try dsimp only)
      (repeat' (first | (k_unfold; (try dsimp only)) | ((first | (with_reducible refine Then.next ?_) | (with_reducible refine Then.ret ?_) | (with_reducible refine Joined.next ?_) | (with_reducible refine Joined.ret ?_) | (with_reducible refine HidV.get (by with_reducible assumption) _ _ ?_) | (with_reducible refine Hdn.get (by with_reducible assumption) ?_) | (with_reducible refine TurnEnd.toRet ?_)); (try dsimp only)) | (k_end; wrow_close) | ((with_reducible refine hide_turn ?_); intro Q1 H1) | (with_reducible refine exec_hid ?_) | (with_reducible (first | refine sp1 ?_ | refine sp2 ?_ | refine sp3 ?_ | refine sp4 ?_ | refine sp5 ?_ | refine sp6 ?_ | refine sp7 ?_ | refine sp8 ?_ | refine sp9 ?_ | refine sp10 ?_ | refine sp11 ?_ | refine sp12 ?_ | refine sp13 ?_ | refine sp14 ?_ | refine sp15 ?_ | refine sp16 ?_ | refine sp17 ?_ | refine sp18 ?_ | refine sp19 ?_ | refine sp22 ?_ | refine sp23 ?_ | refine sp24 ?_)) | ((with_reducible show wpAny _ _ (exec (Stmt.For (Expr.Name _ _) _ _ [] _) _) _ _ _); (with_unfolding_all refine' for_at ?F ?k1 ?k2 ?_ ?k3 ?k4; (case F => k_asm); (case k1 => exact rfl); (case k2 => exact rfl); (case k3 => intro _; rfl); (case k4 => assumption); k_whole)) | walk1 | (dsimp only; walk1) | (leave1; walk_say "STEP leave1"; try dsimp only) | fail "no step"))
      rename News g' _ _ _ => N22
      rename Fr g' _ _ _ => F22
      have z22 := N22 _ (.head _)
      refine loop_tuple (vs := nitems.take 10) (fun _ m₁ nw => m₁ (Str.ofString "modes") = some (.ref x) ∧ (L' + 1, o1) :: news = nw) rfl ⟨_, z22.1, rfl, _, rfl⟩ z22.2.1 F22 (news_sub N22 fun q hq => .tail _ hq) ⟨rfl, rfl⟩ ?_ ?_
      · intro I2 i v m₂ news₂ own h23 tk23 hv hlt hI hown hJ hnI F23 N23
        refine hide_goal (fun Hq => ?_)
        obtain ⟨em, rfl⟩ := hJ
        obtain ⟨kv, kt, rfl, hk2⟩ := IntsAre.at (hni.take 10) i v hv
        obtain ⟨sw, hsw, hsw41⟩ := nums_words (List.mem_of_mem_take (List.mem_of_getElem? hk2))
        obtain ⟨kvs, hpd, hps⟩ := priv_dict (prog := PG) (X'.keeps F23.keep)
        have hval : valueAt (vals T) sw = some (.bool (onB S sw)) := by rw [valueAt_vals, hA.2.2 sw hsw41]; rfl
        have hrep := rep_word (S := S) hsw
        have F24 := fr_key F23 em (by decide)
        clear F23
        (repeat' (first | (k_unfold; (try dsimp only)) | ((first | (with_reducible refine Then.next ?_) | (with_reducible refine Then.ret ?_) | (with_reducible refine Joined.next ?_) | (with_reducible refine Joined.ret ?_) | (with_reducible refine HidV.get (by with_reducible assumption) _ _ ?_) | (with_reducible refine Hdn.get (by with_reducible assumption) ?_) | (with_reducible refine TurnEnd.toRet ?_)); (try dsimp only)) | (k_end; wrow_close) | ((with_reducible refine hide_turn ?_); intro Q1 H1) | (with_reducible refine exec_hid ?_) | (with_reducible (first | refine sp1 ?_ | refine sp2 ?_ | refine sp3 ?_ | refine sp4 ?_ | refine sp5 ?_ | refine sp6 ?_ | refine sp7 ?_ | refine sp8 ?_ | refine sp9 ?_ | refine sp10 ?_ | refine sp11 ?_ | refine sp12 ?_ | refine sp13 ?_ | refine sp14 ?_ | refine sp15 ?_ | refine sp16 ?_ | refine sp17 ?_ | refine sp18 ?_ | refine sp19 ?_ | refine sp22 ?_ | refine sp23 ?_ | refine sp24 ?_)) | ((with_reducible show wpAny _ _ (exec (Stmt.For (Expr.Name _ _) _ _ [] _) _) _ _ _); (with_unfolding_all refine' for_at ?F ?k1 ?k2 ?_ ?k3 ?k4; (case F => k_asm); (case k1 => exact rfl); (case k2 => exact rfl); (case k3 => intro _; rfl); (case k4 => assumption); k_whole)) | walk1 | (dsimp only; walk1) | (leave1; walk_say "STEP leave1"; try dsimp only) | fail "no step"))
        refine Stop.go ?_
        refine tab_item hpd hps hsw (fun u tk => ?_) (by with_unfolding_all rfl) (by intro _; with_unfolding_all rfl)
        (try dsimp only)
        walk1
        (try ((first | (with_reducible refine Then.next ?_) | (with_reducible refine Then.ret ?_) | (with_reducible refine Joined.next ?_) | (with_reducible refine Joined.ret ?_) | (with_reducible refine HidV.get (by with_reducible assumption) _ _ ?_) | (with_reducible refine Hdn.get (by with_reducible assumption) ?_) | (with_reducible refine TurnEnd.toRet ?_)); (try dsimp only)))
        refine exec_join (DueT g' L' x (own ++ (L' + 1, o1) :: news) kv kt sw u (repB S kv true) G0 Dr0 O0) (fun Q1 H1 => ?_) ?_
        · (repeat' (first | (k_unfold; (try dsimp only)) | ((first | (with_reducible refine Then.next ?_) | (with_reducible refine Then.ret ?_) | (with_reducible refine Joined.next ?_) | (with_reducible refine Joined.ret ?_) | (with_reducible refine HidV.get (by with_reducible assumption) _ _ ?_) | (with_reducible refine Hdn.get (by with_reducible assumption) ?_) | (with_reducible refine TurnEnd.toRet ?_)); (try dsimp only)) | (k_end; wrow_close) | ((with_reducible refine hide_turn ?_); intro Q1 H1) | (with_reducible refine exec_hid ?_) | (with_reducible (first | refine sp1 ?_ | refine sp2 ?_ | refine sp3 ?_ | refine sp4 ?_ | refine sp5 ?_ | refine sp6 ?_ | refine sp7 ?_ | refine sp8 ?_ | refine sp9 ?_ | refine sp10 ?_ | refine sp11 ?_ | refine sp12 ?_ | refine sp13 ?_ | refine sp14 ?_ | refine sp15 ?_ | refine sp16 ?_ | refine sp17 ?_ | refine sp18 ?_ | refine sp19 ?_ | refine sp22 ?_ | refine sp23 ?_ | refine sp24 ?_)) | ((with_reducible show wpAny _ _ (exec (Stmt.For (Expr.Name _ _) _ _ [] _) _) _ _ _); (with_unfolding_all refine' for_at ?F ?k1 ?k2 ?_ ?k3 ?k4; (case F => k_asm); (case k1 => exact rfl); (case k2 => exact rfl); (case k3 => intro _; rfl); (case k4 => assumption); k_whole)) | walk1 | (dsimp only; walk1) | (leave1; walk_say "STEP leave1"; try dsimp only) | fail "no step"))
          refine Stop.go ?_
          refine kda_item (knd := PySem.strKind _ _) (by k_asm) (List.mem_append_right _ (.tail _ hdT)) hT (strKind_is _ _ _ _) hval ?_
          (try dsimp only)
          (repeat' (first | (k_unfold; (try dsimp only)) | ((first | (with_reducible refine Then.next ?_) | (with_reducible refine Then.ret ?_) | (with_reducible refine Joined.next ?_) | (with_reducible refine Joined.ret ?_) | (with_reducible refine HidV.get (by with_reducible assumption) _ _ ?_) | (with_reducible refine Hdn.get (by with_reducible assumption) ?_) | (with_reducible refine TurnEnd.toRet ?_)); (try dsimp only)) | (k_end; wrow_close) | ((with_reducible refine hide_turn ?_); intro Q1 H1) | (with_reducible refine exec_hid ?_) | (with_reducible (first | refine sp1 ?_ | refine sp2 ?_ | refine sp3 ?_ | refine sp4 ?_ | refine sp5 ?_ | refine sp6 ?_ | refine sp7 ?_ | refine sp8 ?_ | refine sp9 ?_ | refine sp10 ?_ | refine sp11 ?_ | refine sp12 ?_ | refine sp13 ?_ | refine sp14 ?_ | refine sp15 ?_ | refine sp16 ?_ | refine sp17 ?_ | refine sp18 ?_ | refine sp19 ?_ | refine sp22 ?_ | refine sp23 ?_ | refine sp24 ?_)) | ((with_reducible show wpAny _ _ (exec (Stmt.For (Expr.Name _ _) _ _ [] _) _) _ _ _); (with_unfolding_all refine' for_at ?F ?k1 ?k2 ?_ ?k3 ?k4; (case F => k_asm); (case k1 => exact rfl); (case k2 => exact rfl); (case k3 => intro _; rfl); (case k4 => assumption); k_whole)) | walk1 | (dsimp only; walk1) | (leave1; walk_say "STEP leave1"; try dsimp only) | fail "no step"))
          · rename (onB S sw = true) => hb
            rw [hrep, if_pos hb]
            exact DueT.intro (by k_asm) (by k_asm) rfl rfl rfl rfl
          · rename (onB S sw = false) => hb
            rw [hrep, if_neg (by rw [hb]; decide)]
            exact DueT.intro (by k_asm) (by k_asm) rfl rfl rfl rfl
        · intro s25 Z25
          refine Z25.elim (P := fun s25 => wpAny _ _ (execs _ _) _ _ s25) ?_
          clear Z25 s25
          intro h25 tk25 m25 D25 z25 t25 t26 n25 F25 N25
          (repeat' (first | (k_unfold; (try dsimp only)) | ((first | (with_reducible refine Then.next ?_) | (with_reducible refine Then.ret ?_) | (with_reducible refine Joined.next ?_) | (with_reducible refine Joined.ret ?_) | (with_reducible refine HidV.get (by with_reducible assumption) _ _ ?_) | (with_reducible refine Hdn.get (by with_reducible assumption) ?_) | (with_reducible refine TurnEnd.toRet ?_)); (try dsimp only)) | (k_end; wrow_close) | ((with_reducible refine hide_turn ?_); intro Q1 H1) | (with_reducible refine exec_hid ?_) | (with_reducible (first | refine sp1 ?_ | refine sp2 ?_ | refine sp3 ?_ | refine sp4 ?_ | refine sp5 ?_ | refine sp6 ?_ | refine sp7 ?_ | refine sp8 ?_ | refine sp9 ?_ | refine sp10 ?_ | refine sp11 ?_ | refine sp12 ?_ | refine sp13 ?_ | refine sp14 ?_ | refine sp15 ?_ | refine sp16 ?_ | refine sp17 ?_ | refine sp18 ?_ | refine sp19 ?_ | refine sp22 ?_ | refine sp23 ?_ | refine sp24 ?_)) | ((with_reducible show wpAny _ _ (exec (Stmt.For (Expr.Name _ _) _ _ [] _) _) _ _ _); (with_unfolding_all refine' for_at ?F ?k1 ?k2 ?_ ?k3 ?k4; (case F => k_asm); (case k1 => exact rfl); (case k2 => exact rfl); (case k3 => intro _; rfl); (case k4 => assumption); k_whole)) | walk1 | (dsimp only; walk1) | (leave1; walk_say "STEP leave1"; try dsimp only) | fail "no step"))
          refine Stop.go ?_
          k_dflt (refine' (c_isOn (S := S)) _ _ _ _ _ _ _ _ _ _ _ _ _ _ _ _ ?kA ?kF ?kK ?k1 ?k2 ?k3 ?k4 ?k5 ?kd ?ku ?p0 ?p1 ?p2 ?p3 ?p4 ?_; (case kA => assumption); (case kF => exact rfl); (case kK => exact rfl); (case k1 => k_asm); (case k2 => k_asm); (case k3 => k_asm); (case k4 => k_asm); (case k5 => k_asm); (case p0 => k_mem); (case p1 => k_mem); (case p2 => k_mem); (case p3 => exact hS); (case p4 => exact hlo); (case kd => exact room (by assumption) (by decide)); (case ku => exact room (by assumption) (by decide)); intro h26 tk26 F26 N26)
          (try dsimp only)
          (repeat' (first | (k_unfold; (try dsimp only)) | ((first | (with_reducible refine Then.next ?_) | (with_reducible refine Then.ret ?_) | (with_reducible refine Joined.next ?_) | (with_reducible refine Joined.ret ?_) | (with_reducible refine HidV.get (by with_reducible assumption) _ _ ?_) | (with_reducible refine Hdn.get (by with_reducible assumption) ?_) | (with_reducible refine TurnEnd.toRet ?_)); (try dsimp only)) | (k_end; wrow_close) | ((with_reducible refine hide_turn ?_); intro Q1 H1) | (with_reducible refine exec_hid ?_) | (with_reducible (first | refine sp1 ?_ | refine sp2 ?_ | refine sp3 ?_ | refine sp4 ?_ | refine sp5 ?_ | refine sp6 ?_ | refine sp7 ?_ | refine sp8 ?_ | refine sp9 ?_ | refine sp10 ?_ | refine sp11 ?_ | refine sp12 ?_ | refine sp13 ?_ | refine sp14 ?_ | refine sp15 ?_ | refine sp16 ?_ | refine sp17 ?_ | refine sp18 ?_ | refine sp19 ?_ | refine sp22 ?_ | refine sp23 ?_ | refine sp24 ?_)) | ((with_reducible show wpAny _ _ (exec (Stmt.For (Expr.Name _ _) _ _ [] _) _) _ _ _); (with_unfolding_all refine' for_at ?F ?k1 ?k2 ?_ ?k3 ?k4; (case F => k_asm); (case k1 => exact rfl); (case k2 => exact rfl); (case k3 => intro _; rfl); (case k4 => assumption); k_whole)) | walk1 | (dsimp only; walk1) | (leave1; walk_say "STEP leave1"; try dsimp only) | fail "no step"))
          refine Stop.go ?_
          refine kda_item (knd := PySem.strKind _ _) (by k_asm) (.tail _ (List.mem_append_right _ (.tail _ hdT))) hT (strKind_is _ _ _ _) hval ?_
          (try dsimp only)
          (repeat' (first | (k_unfold; (try dsimp only)) | ((first | (with_reducible refine Then.next ?_) | (with_reducible refine Then.ret ?_) | (with_reducible refine Joined.next ?_) | (with_reducible refine Joined.ret ?_) | (with_reducible refine HidV.get (by with_reducible assumption) _ _ ?_) | (with_reducible refine Hdn.get (by with_reducible assumption) ?_) | (with_reducible refine TurnEnd.toRet ?_)); (try dsimp only)) | (k_end; wrow_close) | ((with_reducible refine hide_turn ?_); intro Q1 H1) | (with_reducible refine exec_hid ?_) | (with_reducible (first | refine sp1 ?_ | refine sp2 ?_ | refine sp3 ?_ | refine sp4 ?_ | refine sp5 ?_ | refine sp6 ?_ | refine sp7 ?_ | refine sp8 ?_ | refine sp9 ?_ | refine sp10 ?_ | refine sp11 ?_ | refine sp12 ?_ | refine sp13 ?_ | refine sp14 ?_ | refine sp15 ?_ | refine sp16 ?_ | refine sp17 ?_ | refine sp18 ?_ | refine sp19 ?_ | refine sp22 ?_ | refine sp23 ?_ | refine sp24 ?_)) | ((with_reducible show wpAny _ _ (exec (Stmt.For (Expr.Name _ _) _ _ [] _) _) _ _ _); (with_unfolding_all refine' for_at ?F ?k1 ?k2 ?_ ?k3 ?k4; (case F => k_asm); (case k1 => exact rfl); (case k2 => exact rfl); (case k3 => intro _; rfl); (case k4 => assumption); k_whole)) | walk1 | (dsimp only; walk1) | (leave1; walk_say "STEP leave1"; try dsimp only) | fail "no step"))
          · rename (onB S sw != onB S sw) = true => hf
            simp at hf
          · refine Stop.go ?_
            k_dflt (refine' (c_report (S := S)) _ _ _ _ _ _ _ _ _ _ _ _ _ _ _ _ ?kA ?kF ?kK ?k1 ?k2 ?k3 ?k4 ?k5 ?kd ?ku ?p0 ?p1 ?p2 ?p3 ?p4 ?_; (case kA => assumption); (case kF => exact rfl); (case kK => exact rfl); (case k1 => k_asm); (case k2 => k_asm); (case k3 => k_asm); (case k4 => k_asm); (case k5 => k_asm); (case p0 => k_mem); (case p1 => k_mem); (case p2 => k_mem); (case p3 => exact hS); (case p4 => exact hlo); (case kd => exact room (by assumption) (by decide)); (case ku => exact room (by assumption) (by decide)); intro t27 h27 tk27 F27 N27)
            (try dsimp only)
            (repeat' (first | (k_unfold; (try dsimp only)) | ((first | (with_reducible refine Then.next ?_) | (with_reducible refine Then.ret ?_) | (with_reducible refine Joined.next ?_) | (with_reducible refine Joined.ret ?_) | (with_reducible refine HidV.get (by with_reducible assumption) _ _ ?_) | (with_reducible refine Hdn.get (by with_reducible assumption) ?_) | (with_reducible refine TurnEnd.toRet ?_)); (try dsimp only)) | (k_end; wrow_close) | ((with_reducible refine hide_turn ?_); intro Q1 H1) | (with_reducible refine exec_hid ?_) | (with_reducible (first | refine sp1 ?_ | refine sp2 ?_ | refine sp3 ?_ | refine sp4 ?_ | refine sp5 ?_ | refine sp6 ?_ | refine sp7 ?_ | refine sp8 ?_ | refine sp9 ?_ | refine sp10 ?_ | refine sp11 ?_ | refine sp12 ?_ | refine sp13 ?_ | refine sp14 ?_ | refine sp15 ?_ | refine sp16 ?_ | refine sp17 ?_ | refine sp18 ?_ | refine sp19 ?_ | refine sp22 ?_ | refine sp23 ?_ | refine sp24 ?_)) | ((with_reducible show wpAny _ _ (exec (Stmt.For (Expr.Name _ _) _ _ [] _) _) _ _ _); (with_unfolding_all refine' for_at ?F ?k1 ?k2 ?_ ?k3 ?k4; (case F => k_asm); (case k1 => exact rfl); (case k2 => exact rfl); (case k3 => intro _; rfl); (case k4 => assumption); k_whole)) | walk1 | (dsimp only; walk1) | (leave1; walk_say "STEP leave1"; try dsimp only) | fail "no step"))
            · rename News g' _ _ _ => N28
              rename Fr g' _ _ _ => F28
              exact TurnEnd.intro (news' := (L' + 1, o1) :: news) F28 (news_sub N28 (fun q hq => .tail _ hq)) hnI ⟨rfl, rfl⟩
            · rename ([repB S kv true, z25].any fun x => x == repB S kv true) = false => hf
              simp at hf
      · intro m₂ news₂ h23 tk23 hJ F23 N23
        refine hide_goal (fun Hq => ?_)
        obtain ⟨_, rfl⟩ := hJ
        (try dsimp only)
        (repeat' (first | (k_unfold; (try dsimp only)) | ((first | (with_reducible refine Then.next ?_) | (with_reducible refine Then.ret ?_) | (with_reducible refine Joined.next ?_) | (with_reducible refine Joined.ret ?_) | (with_reducible refine HidV.get (by with_reducible assumption) _ _ ?_) | (with_reducible refine Hdn.get (by with_reducible assumption) ?_) | (with_reducible refine TurnEnd.toRet ?_)); (try dsimp only)) | (k_end; wrow_close) | ((with_reducible refine hide_turn ?_); intro Q1 H1) | (with_reducible refine exec_hid ?_) | (with_reducible (first | refine sp1 ?_ | refine sp2 ?_ | refine sp3 ?_ | refine sp4 ?_ | refine sp5 ?_ | refine sp6 ?_ | refine sp7 ?_ | refine sp8 ?_ | refine sp9 ?_ | refine sp10 ?_ | refine sp11 ?_ | refine sp12 ?_ | refine sp13 ?_ | refine sp14 ?_ | refine sp15 ?_ | refine sp16 ?_ | refine sp17 ?_ | refine sp18 ?_ | refine sp19 ?_ | refine sp22 ?_ | refine sp23 ?_ | refine sp24 ?_)) | ((with_reducible show wpAny _ _ (exec (Stmt.For (Expr.Name _ _) _ _ [] _) _) _ _ _); (with_unfolding_all refine' for_at ?F ?k1 ?k2 ?_ ?k3 ?k4; (case F => k_asm); (case k1 => exact rfl); (case k2 => exact rfl); (case k3 => intro _; rfl); (case k4 => assumption); k_whole)) | walk1 | (dsimp only; walk1) | (leave1; walk_say "STEP leave1"; try dsimp only) | fail "no step"))
        rename News h₀ L _ _ => N30
        exact hret _ _ (by k_asm) (news_sub N30 fun q hq => .tail _ hq)
end
end
section
section
variable {prog : Program} {w : World} {A : Around} {E : Value → Shared → Prop} {s : Shared} {h₀ : Heap} {L : Addr} {m : Str → Option Value} {news : List (Addr × Obj)} {Q : Value → Shared → Prop}
theorem sorted_base_int {d : Addr} {kvs : List (Int × Value)} (hh : A.handled = none) (F : Fr h₀ L s.heap m) (N : News h₀ L s.heap news) (hD : s.heap.DictOf (PySem.intKind prog w) d kvs) (lo : (d == sysModules) = false) (h64 : kvs.length < 64)
    (h : ∀ D vs ns h' tk n, Fr h₀ L h' m → News h₀ L h' ((D, seqObj "list" vs.toArray n) :: news) → (∀ q ∈ news, q.1 < D) → IntsAre vs ns → ns.Perm (kvs.map (·.1)) → ns.Pairwise (· ≤ ·) → Q (.ref D) { s with heap := h', toks := tk }) :
    wpAny (model prog w) A (call (.builtin "sorted") [.ref d]) Q E s := by
  obtain ⟨ep, hat⟩ := hD.dictAt
  refine kdu_sorted (kdl_dict (knd := PySem.intKind prog w) (kvs := kvs) (ep := ep) lo) hh F N hat (by rw [sizeLine_eq]; (first | lia | omega)) fun D h' tk vs F' N' l1 hl hv => ?_
  have hS := intsAre_of (K := Int) hl hv
  have z := N' (D, listOf vs.toArray 0) (.head _)
  refine wpAny_call_entry PyProof.Rows.slot_list_sort ⟨_, z.1, rfl⟩ PyProof.Rows.entry_list_sort (list_sort_tree (n := 0) (vs := vs) z.1 hS (by (first | lia | omega)) fun out ns' h1 h2 h3 => ⟨.none, rfl, ?_⟩) (PyProof.Rows.args_list_sort _)
  obtain ⟨e, F2, N2⟩ := sorted_at (s := { s with heap := h', toks := tk }) (out := out) F' N' l1
  refine h D out.toList ns' _ tk e F2 ?_ l1 h1 h2 h3
  rw [Array.toArray_toList]; exact N2
end
section
variable {prog : Program} {w : World} {K : Type} [DecidableEq K] {knd : KeyKind prog w K} {A : Around} {E : Value → Shared → Prop} {s : Shared} {d : Addr} {kvs : List (K × Value)} {k : K} {key dflt : Value}
theorem base_method {pl : Sem Bool} {Q : Value × List Value → Shared → Prop} (hD : s.heap.DictOf knd d kvs) (h : Q (.builtin "dict.get", [.ref d]) s) : wpAny (model prog w) A (getMethod (.ref d) "get" pl) Q E s :=
  getMethod_builtin hD.typeIs PySem.F.plainAttrs_dict PySem.F.slot_dict_get PySem.F.type_dict_get hD.mapOf.noDict h
theorem base_get2 {Q : Value → Shared → Prop} (hD : s.heap.DictOf knd d kvs) (lo : (d == sysModules) = false) (hkey : knd.is k key = true) (h : Q ((valueAt kvs k).getD dflt) { s with toks := s.toks + 1 }) :
    wpAny (model prog w) A (call (.builtin "dict.get") [.ref d, key, dflt]) Q E s :=
  call_meetsIn PySem.F.slot_dict_get hD.typeIs PySem.F.entry_dict_get (PySem.F.args_dict_get_3 _ _ _) (meets_dict_get_default knd d hkey lo dflt) ⟨_, hD.mapOf, h⟩
theorem base_len {Q : Value → Shared → Prop} (hD : s.heap.DictOf knd d kvs) (lo : (d == sysModules) = false) (hz : kvs.length ≤ 1000) (h : Q (.int kvs.length (s.toks + 1)) { s with toks := s.toks + 1 + 1 }) :
    wpAny (model prog w) A (call (.builtin "len") [.ref d]) Q E s := call_len_dict lo hD (by (first | lia | omega)) h
end
theorem low136 : ((136 : Addr) == sysModules) = false := by decide
theorem low139 : ((139 : Addr) == sysModules) = false := by decide
theorem getB_some_mem {K V : Type} [DecidableEq K] : ∀ {S : List (K × V)} {k : K} {v : V}, getB S k = some v → (k, v) ∈ S
  | [], _, _, h => by rw [getB_nil] at h; cases h
  | p :: S, k, v, h => by
    rw [getB_cons] at h
    by_cases e : p.1 = k
    · rw [if_pos e] at h
      cases h
      rw [← e]; exact .head _
    · rw [if_neg e] at h
      exact .tail _ (getB_some_mem h)
theorem val_inj {K V : Type} : ∀ {S : List (K × V)} {k k' : K} {v : V}, (S.map (·.2)).Nodup → (k, v) ∈ S → (k', v) ∈ S → k = k'
  | [], _, _, _, _, h, _ => nomatch h
  | p :: S, k, k', v, hn, h, h' => by
    have hn' := List.nodup_cons.mp hn
    rcases List.mem_cons.mp h with e | h
    · rcases List.mem_cons.mp h' with e' | h'
      · rw [← e'] at e
        exact congrArg Prod.fst e
      · refine absurd ?_ hn'.1
        rw [← e]
        exact List.mem_map_of_mem (f := (·.2)) h'
    · rcases List.mem_cons.mp h' with e' | h'
      · refine absurd ?_ hn'.1
        rw [← e']
        exact List.mem_map_of_mem (f := (·.2)) h
      · exact val_inj hn'.2 h h'
theorem words_parts : (privL.map (·.2)).Nodup ∧ (plainL.map (·.2)).Nodup ∧ (∀ x ∈ privL.map (·.2), x ∉ plainL.map (·.2)) ∧ Str.ofString "eight_bits" ∉ privL.map (·.2) ∧ Str.ofString "eight_bits" ∉ plainL.map (·.2) := by
  have h := words_nodup
  unfold words41 at h
  rw [List.nodup_append] at h
  obtain ⟨h1, _, h2⟩ := h
  rw [List.nodup_append] at h1
  refine ⟨h1.1, h1.2.1, fun x hx hy => h1.2.2 x hx x hy rfl, fun hx => h2 _ (List.mem_append_left _ hx) _ (.head _) rfl, fun hx => h2 _ (List.mem_append_right _ hx) _ (.head _) rfl⟩
theorem word_inj {k k' : Int} {b b' : Bool} {w : Str} (h : wordB k b = some w) (h' : wordB k' b' = some w) : k = k' ∧ b = b' := by
  obtain ⟨n1, n2, n3, _⟩ := words_parts
  cases b <;> cases b' <;> simp only [wordB, if_true, Bool.false_eq_true, if_false] at h h'
  · exact ⟨val_inj n2 (getB_some_mem h) (getB_some_mem h'), rfl⟩
  · exact absurd (List.mem_map_of_mem (f := (·.2)) (getB_some_mem h)) (n3 _ (List.mem_map_of_mem (f := (·.2)) (getB_some_mem h')))
  · exact absurd (List.mem_map_of_mem (f := (·.2)) (getB_some_mem h')) (n3 _ (List.mem_map_of_mem (f := (·.2)) (getB_some_mem h)))
  · exact ⟨val_inj n1 (getB_some_mem h) (getB_some_mem h'), rfl⟩
theorem eight_none (k : Int) (b : Bool) : wordB k b ≠ some (Str.ofString "eight_bits") := by
  obtain ⟨_, _, _, n4, n5⟩ := words_parts
  intro h
  cases b <;> simp only [wordB, if_true, Bool.false_eq_true, if_false] at h
  · exact n5 (List.mem_map_of_mem (f := (·.2)) (getB_some_mem h))
  · exact n4 (List.mem_map_of_mem (f := (·.2)) (getB_some_mem h))
theorem rep_3000 : repB S0 3000 false = 0 := by
  have h1 : getB plainL 3000 = none := by decide +kernel
  have h2 : FIXED.any (· == (3000 : Int)) = false := by decide +kernel
  unfold repB wordB
  simp only [Bool.false_eq_true, if_false]
  rw [h1]
  dsimp only
  rw [h2]
  simp
section
open PySem.Spec PySem.SeqAt
variable {prog : Program} {w : World} {A : Around} {E : Value → Shared → Prop} {s : Shared}
theorem ne_pair_self {a b : Addr} {k : Int} {c : Bool} {t u : Tok} {Q : Value → Shared → Prop} (ha : IsTup s.heap a ([.int k t, .bool c] : List Value).toArray) (hb : IsTup s.heap b ([.int k u, .bool c] : List Value).toArray) (hu : A.units + 64 < cLine) (h : Q (.bool false) s) :
    wpAny (model prog w) A (compareOp .NotEq (.ref a) (.ref b)) Q E s :=
  have hsh : shaped (.tuple [.int k, .bool c]) = true := by simp [shaped, PyData.canLay0, PyData.canLayAll0, PyData.depth, PyData.depthAll]
  ne_dataH (reads_newDataT ha (.cons (.int k t) (.cons (.bool c) .nil))) (reads_newDataT hb (.cons (.int k u) (.cons (.bool c) .nil))) hsh hsh hu (by
    rw [eqv_refl _ (by simp [PyData.canLay0, PyData.canLayAll0])]; exact h)
end
end
section
section
open PySem.Calls PyProof.Rows
variable {prog : Program} {w : World} {A : Around} {E : Value → Shared → Prop} {s : Shared} {h₀ : Heap} {L : Addr} {m : Str → Option Value} {news : List (Addr × Obj)}
theorem list_sort_short {a : Addr} {vs : List Value} {n : Nat} {P : PySem.Fin → Shared → Prop} (ho : s.heap.get? a = some (seqObj "list" vs.toArray n)) (h2 : vs.length < 2)
    (h : P (.done (.ret .none)) { s with heap := sortedHeap s.heap a vs vs.toArray }) :
    wpAny (model prog w) A (Builtin.«list.sort» ⟨[.ref a], []⟩) P E s := by
  have fit : vs.length ≤ sizeLine := by rw [sizeLine_eq]; exact Nat.le_trans (Nat.le_of_lt h2) (by decide)
  have two : vs.toArray.size < 2 := h2
  have emptied := get?_update_seq ho fun _ => #[]
  have stands := fun x y => Heap.get?_push_of_some y (Heap.get?_push_of_some x emptied)
  have whole : (arrOf (SortSt.mk' general' (vs.toArray.zip vs.toArray) #[] 7 none)).map (·.2) = vs.toArray :=
    Array.toList_inj.mp (by show ((vs.toArray.zip vs.toArray).map (·.2)).toList = _; simp [List.map_snd_zip])
  rw [list_sort_plain]
  refine wpAny_bind (listItems_at ho rfl (wpAny_bind (listUpdate_at ho rfl (wpAny_bind (seqEpoch_at emptied rfl (wpAny_bind (wpAny_newTuple (wpAny_bind (wpAny_newList (wpAny_holding ?_) (Nat.zero_le _))) fit)))) fit (Nat.zero_le _))))
  dsimp only
  rw [if_pos two, if_pos two]
  refine wpAny_bind (wpAny_pure ?_)
  rw [StateT.run_pure]
  refine wpAny_bind (wpAny_pure (wpAny_bind (seqEpoch_at (stands _ _) rfl ?_)))
  rw [whole]
  refine wpAny_bind (listUpdate_at (stands _ _) rfl ?_ (Nat.zero_le _) (Nat.le_succ_of_le fit))
  rw [if_neg (by simp)]
  exact wpAny_pure h
theorem sorted_short {l : Addr} {vs : List Value} {Q : Value → Shared → Prop} (F : Fr h₀ L s.heap m) (N : News h₀ L s.heap news) (hl : s.heap.IsList l vs.toArray) (h2 : vs.length < 2)
    (h : ∀ D h' e, Fr h₀ L h' m → News h₀ L h' ((D, listOf vs.toArray e) :: news) → (∀ q ∈ news, q.1 < D) → Q (.ref D) { s with heap := h' }) :
    wpAny (model prog w) A (call (.builtin "sorted") [.ref l]) Q E s := by
  have fit : vs.length ≤ sizeLine := by rw [sizeLine_eq]; exact Nat.le_trans (Nat.le_of_lt h2) (by decide)
  have same := Heap.SameBut.update (s.heap.push (seqObj "list" #[] 0)) s.heap.objs.size (Obj.mapSeq (· ++ vs.toArray))
  have F1 := kas_fr (F.push (seqObj "list" #[] 0)) same (Nat.ne_of_gt F.ns.lt) (next_is_new F)
  have N1 := kas_news (N.grown fun _ _ e => Heap.get?_push_of_some (seqObj "list" #[] 0) e) same fun q hq => Nat.ne_of_lt (Heap.lt_size (N q hq).1)
  have N2 := News.push F1 N1 (seqObj "list" vs.toArray 0)
  have z := (N2 _ (.head _)).1
  have old : ∀ q ∈ news, q.1 < _ := fun q hq => Heap.lt_size (N1 q hq).1
  obtain ⟨e, F3, N3⟩ := sorted_at (s := { s with heap := _ }) (out := vs.toArray) (F1.push _) N2 old
  refine Calls.call_function_entry kind_sorted plain_sorted entry_sorted (args_sorted1 _) ?_
  unfold Builtin.«sorted»
  exact wpAny_bind (m := checkCount "sorted" 1 1 _) (wpAny_pure (wpAny_bind (collect_list hl (wpAny_bind (wpAny_newList (wpAny_bind (wpAny_holding
    (wpAny_call_entry slot_list_sort ⟨_, z, rfl⟩ entry_list_sort (list_sort_short z h2 ⟨_, rfl, wpAny_pure ⟨_, rfl, h _ _ e F3 N3 old⟩⟩) (args_list_sort _)))) fit)) fit)))
end
theorem Rows.at {nw : List (Addr × Obj)} : ∀ {vs : List Value} {ps : List (Str × Bool)}, Rows nw vs ps → ∀ (i : Nat) (p : Str × Bool), ps[i]? = some p → ∃ (a : Addr) (t : Tok) (n : Nat), vs[i]? = some (.ref a) ∧ (a, tupO [.str p.1 t, .bool p.2] n) ∈ nw
  | [], [], _, i, p, h => by simp at h
  | v :: vs, q :: ps, h, 0, p, e => by
    obtain ⟨⟨a, t, n, rfl, hm⟩, _⟩ := h
    simp only [List.getElem?_cons_zero, Option.some.injEq] at e
    subst e
    exact ⟨a, t, n, rfl, hm⟩
  | v :: vs, q :: ps, h, i + 1, p, e => by
    rw [List.getElem?_cons_succ] at e
    obtain ⟨a, t, n, h1, h2⟩ := Rows.at h.2 i p e
    exact ⟨a, t, n, by rw [List.getElem?_cons_succ]; exact h1, h2⟩
  | [], _ :: _, h, _, _, _ => h.elim
  | _ :: _, [], h, _, _, _ => h.elim
theorem Rows.pick {nw : List (Addr × Obj)} {vs : List Value} {ps : List (Str × Bool)} (h : Rows nw vs ps) (z : Str × Bool) : ∀ l : List Nat, (∀ i ∈ l, i < vs.length) → Rows nw (l.map fun i => vs.getD i Value.none) (l.map fun i => ps.getD i z)
  | [], _ => trivial
  | i :: l, hl => by
    have hi := hl i (.head _)
    have hi2 : i < ps.length := by rw [← h.length]; exact hi
    obtain ⟨a, t, n, h1, h2⟩ := Rows.at h i ps[i] (List.getElem?_eq_getElem hi2)
    refine ⟨⟨a, t, n, ?_, ?_⟩, Rows.pick h z l fun j hj => hl j (.tail _ hj)⟩
    · show vs.getD i Value.none = _; rw [List.getD_eq_getElem?_getD, h1]; rfl
    · show (a, tupO [.str (ps.getD i z).1 t, .bool (ps.getD i z).2] n) ∈ nw; rw [List.getD_eq_getElem?_getD, List.getElem?_eq_getElem hi2]; exact h2
theorem Rows.tups {h₀ h : Heap} {L : Addr} {nw : List (Addr × Obj)} (N : News h₀ L h nw) : ∀ {vs : List Value} {ps : List (Str × Bool)}, Rows nw vs ps → ∃ fs : List Value, KatTups h vs fs ∧ fs.length = vs.length ∧ ∀ v ∈ fs, ∃ x t, v = .str x t
  | [], [], _ => ⟨[], trivial, rfl, fun _ hv => nomatch hv⟩
  | v :: vs, p :: ps, hR => by
    obtain ⟨⟨a, t, n, rfl, hm⟩, hr⟩ := hR
    obtain ⟨fs, h1, h2, h3⟩ := Rows.tups N hr
    refine ⟨.str p.1 t :: fs, KatTups.cons (N _ hm).1 rfl rfl rfl h1, by rw [List.length_cons, List.length_cons, h2], fun v hv => ?_⟩
    rcases List.mem_cons.mp hv with rfl | hv
    · exact ⟨_, _, rfl⟩
    · exact h3 v hv
  | [], _ :: _, h => h.elim
  | _ :: _, [], h => h.elim
theorem map_range_getD {α : Type} (z : α) (l : List α) : (List.range l.length).map (fun i => l.getD i z) = l := by
  apply List.ext_getElem (by simp)
  intro i h1 h2
  simp [h2]
section
open PySem.Calls PyProof.Rows
variable {prog : Program} {w : World} {A : Around} {E : Value → Shared → Prop} {s : Shared} {h₀ : Heap} {L : Addr} {m : Str → Option Value} {news : List (Addr × Obj)}
theorem eqBool_self {b : Bool} {Q : Bool → Shared → Prop} (h : Q true s) : wpAny (model prog w) A (eqBool (.bool b) (.bool b)) Q E s := by
  unfold eqBool
  show wpAny _ _ (if (Value.bool b == Value.bool b) = true then _ else _) Q E s
  have e : (Value.bool b == Value.bool b) = true := by cases b <;> rfl
  rw [if_pos e]
  exact wpAny_bind (wpAny_rule (wpAny_pure h))
theorem rows_lt {x y : Addr} {p q : Str × Bool} {t u : Tok} {n k : Nat} {Q : Bool → Shared → Prop} (N : News h₀ L s.heap news) (hx : (x, tupO [.str p.1 t, .bool p.2] n) ∈ news) (hy : (y, tupO [.str q.1 u, .bool q.2] k) ∈ news) (hpq : p.1 = q.1 → p = q)
    (h : Q (decide (p.1.cps.toList < q.1.cps.toList)) s) : wpAny (model prog w) A (keyLt' (tuples' true) (.ref x) (.ref y)) Q E s := by
  refine kat_lt (N _ hx).1 rfl (N _ hy).1 rfl ?_
  show KatLex prog w A true false Q [(.str p.1 t, .str q.1 u), (.bool p.2, .bool q.2)] 0 s
  refine kat_cons (wpAny_eqBool_str ?_)
  by_cases e : p.1 = q.1
  · have e2 := hpq e
    subst e2
    rw [decide_eq_true rfl]
    refine kat_yes (kat_cons (eqBool_self (kat_yes (kat_nil ?_))))
    have e3 : decide (p.1.cps.toList < p.1.cps.toList) = false := by simp
    rw [e3] at h
    exact h
  · rw [decide_eq_false e]
    exact kat_no (oneLt_str h)
theorem sorted_rows {l : Addr} {vs : List Value} {ps : List (Str × Bool)} {n : Nat} {Q : Value → Shared → Prop} (F : Fr h₀ L s.heap m) (N : News h₀ L s.heap news) (hl : (l, listOf vs.toArray n) ∈ news) (hR : Rows news vs ps) (hnd : (ps.map (·.1)).Nodup) (h64 : vs.length < 64)
    (h : ∀ D h' e us qs tk, Fr h₀ L h' m → News h₀ L h' ((D, listOf us.toArray e) :: news) → (∀ q ∈ news, q.1 < D) → Rows news us qs → qs.Perm ps → qs.Pairwise (fun a b => a.1.cps.toList ≤ b.1.cps.toList) → Q (.ref D) { s with heap := h', toks := tk }) :
    wpAny (model prog w) A (call (.builtin "sorted") [.ref l]) Q E s := by
  have hlen := hR.length
  have hil : s.heap.IsList l vs.toArray := ⟨_, (N _ hl).1, rfl, _, rfl⟩
  by_cases h2 : vs.length < 2
  · refine sorted_short F N hil h2 fun D h' e F' N' l1 => h D h' e vs ps s.toks F' N' l1 hR (List.Perm.refl _) ?_
    match ps, (by (first | lia | omega) : ps.length < 2) with
    | [], _ => exact List.Pairwise.nil
    | [a], _ => exact List.pairwise_singleton _ _
  · have h2' : 2 ≤ vs.length := by (first | lia | omega)
    refine kat_sorted F N hil h2' h64 fun D e1 h' F' N' l1 => ?_
    have N0 : News h₀ L h' news := fun p hp => N' p (.tail _ hp)
    obtain ⟨fs, k1, k2, k3⟩ := Rows.tups N0 hR
    refine kat_kind (T := .type "str") k1 (by (first | lia | omega)) (fun v hv => ?_) rfl ?_
    · obtain ⟨x, t, rfl⟩ := k3 v hv
      exact Looks.of_pure rfl
    have z : Str × Bool := (Str.ofString "", false)
    have key : ∀ i, i < vs.length → ∃ a t n, vs.getD i Value.none = .ref a ∧ (a, tupO [.str (ps.getD i z).1 t, .bool (ps.getD i z).2] n) ∈ news := fun i hi => by
      have hi2 : i < ps.length := by (first | lia | omega)
      obtain ⟨a, t, n, h1, h2⟩ := Rows.at hR i ps[i] (List.getElem?_eq_getElem hi2)
      refine ⟨a, t, n, by rw [List.getD_eq_getElem?_getD, h1]; rfl, ?_⟩
      rw [List.getD_eq_getElem?_getD, List.getElem?_eq_getElem hi2]; exact h2
    refine sort_ok (κ := strKind.toKeyOrd) (key := fun i => (ps.getD i z).1.cps.toList) (fun i j C hi hj hC => ?_) (by (first | lia | omega)) fun q hB hS => ?_
    · obtain ⟨a, t, n, e1, m1⟩ := key i hi
      obtain ⟨b, u, k, e2, m2⟩ := key j hj
      show wpAny (model prog w) A.in1.in1 (keyLt' (tuples' true) (vs.getD i Value.none) (vs.getD j Value.none)) C (fun _ _ => False) _
      rw [e1, e2]
      refine rows_lt (s := { s with heap := h' }) N0 m1 m2 (fun e => ?_) hC
      have hi' : i < (ps.map (·.1)).length := by rw [List.length_map]; (first | lia | omega)
      have hj' : j < (ps.map (·.1)).length := by rw [List.length_map]; (first | lia | omega)
      have hi2 : i < ps.length := by (first | lia | omega)
      have hj2 : j < ps.length := by (first | lia | omega)
      have hij : i = j := by
        refine (List.getElem_inj (h₀ := hi') (h₁ := hj') hnd).mp ?_
        rw [List.getD_eq_getElem?_getD, List.getD_eq_getElem?_getD, List.getElem?_eq_getElem hi2, List.getElem?_eq_getElem hj2] at e
        simpa using e
      rw [hij]
    · have hBl : q.toList.Perm (List.range vs.length) := by simpa using Array.perm_iff_toList_perm.mp hB
      refine KasFin.intro (s := { s with heap := h' }) (g := fun o' => (D, o') :: news) F' N' (UpdF.head fun p hp => Nat.ne_of_lt (l1 p hp)) fun h2 c F2 N2 => ?_
      refine h D h2 c (q.toList.map fun i => vs.getD i Value.none) (q.toList.map fun i => ps.getD i z) s.toks F2 N2 l1 (Rows.pick hR z _ fun i hi => by have := hBl.mem_iff.mp hi; simpa using this) ?_ ?_
      · have e := hBl.map (fun i => ps.getD i z)
        rw [hlen, map_range_getD] at e
        exact e
      · rw [List.pairwise_map, List.pairwise_iff_getElem]
        intro i j hi hj hij
        have hqs : q.size = vs.length := hB.size
        have hj3 : j < vs.length := by rw [← hqs]; simpa using hj
        have := hS i j (by (first | lia | omega)) hj3
        have e : ∀ i (hi : i < q.toList.length), q.getD i 0 = q.toList[i] := fun i hi => by
          have hi' : i < q.size := by simpa using hi
          simp [Array.getD, hi']
        unfold KP at this
        rw [e i hi, e j hj] at this
        have h3 : decide ((ps.getD q.toList[j] z).1.cps.toList < (ps.getD q.toList[i] z).1.cps.toList) = false := this
        exact List.not_lt.mp (of_decide_eq_false h3)
end
theorem rows_unique {ps qs : List (Str × Bool)} (hp : ps.Perm qs) (hn : (ps.map (·.1)).Nodup) (h1 : ps.Pairwise (fun a b => a.1.cps.toList ≤ b.1.cps.toList)) (h2 : qs.Pairwise (fun a b => a.1.cps.toList ≤ b.1.cps.toList)) : ps = qs := by
  refine hp.eq_of_pairwise (fun a b ha hb l1 l2 => ?_) h1 h2
  have e : a.1 = b.1 := by
    have := List.le_antisymm l1 l2
    have e2 : a.1.cps = b.1.cps := Array.toList_inj.mp this
    cases h : a.1; cases h' : b.1
    rw [h, h'] at e2
    simp only [Str.mk.injEq]
    exact e2
  have hb' : b ∈ ps := hp.mem_iff.mpr hb
  obtain ⟨i, hi, rfl⟩ := List.getElem_of_mem ha
  obtain ⟨j, hj, rfl⟩ := List.getElem_of_mem hb'
  have hi' : i < (ps.map (·.1)).length := by rw [List.length_map]; (first | lia | omega)
  have hj' : j < (ps.map (·.1)).length := by rw [List.length_map]; (first | lia | omega)
  have : i = j := (List.getElem_inj (h₀ := hi') (h₁ := hj') hn).mp (by simpa using e)
  subst this; rfl
section
open PySem.Spec PySem.SeqAt
noncomputable def rowD (p : Str × Bool) : PyData := .tuple [.str p.1, .bool p.2]
theorem Rows.reads {h₀ h : Heap} {L : Addr} {nw : List (Addr × Obj)} (N : News h₀ L h nw) : ∀ {vs : List Value} {ps : List (Str × Bool)}, Rows nw vs ps → ReadsAll h vs (ps.map rowD) []
  | [], [], _ => .nil
  | v :: vs, p :: ps, hR => by
    obtain ⟨⟨a, t, n, rfl, hm⟩, hr⟩ := hR
    have r1 : Reads h (.ref a) (rowD p) [] := .tuple (N _ hm).1 rfl rfl (.cons (.str _ _) (.cons (.bool _) .nil))
    exact ReadsAll.cons r1 (Rows.reads N hr)
  | [], _ :: _, h => h.elim
  | _ :: _, [], h => h.elim
theorem rows_lay : ∀ ps : List (Str × Bool), (∀ p ∈ ps, PyData.strOk p.1 = true) → PyData.canLayAll0 (ps.map rowD) = true
  | [], _ => rfl
  | p :: r, h => by simp [rowD, PyData.canLayAll0, PyData.canLay0, rows_lay r fun y hy => h y (.tail _ hy), h p (.head _)]
theorem rows_depth : ∀ ps : List (Str × Bool), PyData.depthAll (ps.map rowD) ≤ 1
  | [] => Nat.zero_le _
  | p :: r => by
    have := rows_depth r
    simp [rowD, PyData.depthAll, PyData.depth]
    (first | lia | omega)
theorem ne_rows {prog : Program} {w : World} {A : Around} {E : Value → Shared → Prop} {s : Shared} {h₀ : Heap} {L : Addr} {news : List (Addr × Obj)} {a b : Addr} {xs ys : List Value} {n k : Nat} {ps : List (Str × Bool)} {Q : Value → Shared → Prop} (N : News h₀ L s.heap news) (ha : (a, listOf xs.toArray n) ∈ news) (hb : (b, listOf ys.toArray k) ∈ news) (hx : Rows news xs ps) (hy : Rows news ys ps) (h1 : ∀ p ∈ ps, PyData.strOk p.1 = true) (hu : A.units + 64 < cLine) (h : Q (.bool false) s) :
    wpAny (model prog w) A (compareOp .NotEq (.ref a) (.ref b)) Q E s := by
  have l1 := rows_lay ps h1
  have l2 := rows_depth ps
  have hsh : shaped (.list (ps.map rowD)) = true := by
    unfold shaped
    rw [PyData.canLay0, l1, PyData.depth, Bool.true_and]
    exact decide_eq_true (by (first | lia | omega))
  refine ne_dataH (.list (N _ ha).1 rfl rfl (Rows.reads N hx)) (.list (N _ hb).1 rfl rfl (Rows.reads N hy)) hsh hsh hu ?_
  rw [eqv_refl _ (by rw [PyData.canLay0]; exact l1)]; exact h
end
end
section
theorem keep_draw {X own : List (Addr × Obj)} {dd l : Addr} {oD oL oD' oL' : Obj} (hdd : (dd, oD) ∈ X) (hl : (l, oL) ∈ X) (hne : dd ≠ l) (hsub : ∀ q ∈ own, q ∈ X ∧ q.1 ≠ l ∧ q.1 ≠ dd) : ∀ q ∈ own ++ [(dd, oD'), (l, oL')], q ∈ updL (updL X l oL') dd oD' := by
  intro q hq
  rcases List.mem_append.mp hq with h | h
  · obtain ⟨a, b, c⟩ := hsub q h
    exact updL_ne (updL_ne a b) c
  · rcases List.mem_cons.mp h with rfl | h
    · exact updL_self (updL_ne hdd hne)
    · rw [List.mem_singleton.mp h]
      exact updL_ne (updL_self hl) hne.symm
theorem range_ok {v : Int} (h0 : 0 ≤ v) (h1 : v < 20) : Builtin.Range.small 0 v 1 = true ∧ Builtin.Range.rangeSize 0 v 1 = ((v.toNat : Nat) : Int) := by
  have h : ∀ n : Fin 20, Builtin.Range.small 0 (n.val : Int) 1 = true ∧ Builtin.Range.rangeSize 0 (n.val : Int) 1 = (n.val : Int) := by decide
  have h2 := h ⟨v.toNat, (Int.toNat_lt h0).mpr h1⟩
  have e : ((v.toNat : Nat) : Int) = v := Int.toNat_of_nonneg h0
  simp only [e] at h2 ⊢
  exact h2
theorem tab_priv {w : World} {h : Heap} (X : (hd.heap_39 w.params).In h) : ∃ kvs, h.DictOf (intKind PG w) 136 kvs ∧ kvs.length = 36 ∧ ∀ k, (wordB k true = none ∧ valueAt kvs k = none) ∨ ∃ x u, wordB k true = some x ∧ valueAt kvs k = some (.str x u) := by
  obtain ⟨kvs, hD, hS⟩ := priv_dict (prog := PG) X
  exact ⟨kvs, hD, by have h := congrArg List.length hS.keys; rwa [List.length_map, List.length_map, privL_length] at h, hS.valueAt⟩
theorem tab_plain {w : World} {h : Heap} (X : (hd.heap_39 w.params).In h) : ∃ kvs, h.DictOf (intKind PG w) 139 kvs ∧ kvs.length = 4 ∧ ∀ k, (wordB k false = none ∧ valueAt kvs k = none) ∨ ∃ x u, wordB k false = some x ∧ valueAt kvs k = some (.str x u) := by
  obtain ⟨kvs, hD, hS⟩ := plain_dict (prog := PG) X
  exact ⟨kvs, hD, by have h := congrArg List.length hS.keys; rwa [List.length_map, List.length_map, plainL_length] at h, hS.valueAt⟩
def RowsT (w : World) (h₀ : Heap) (L dd : Addr) (base : List (Addr × Obj)) (c : Bool) (G0 : Array GenState) (Dr0 : Drawn) (O0 : OsState) (s' : Shared) : Prop :=
  ∃ (h : Heap) (tk : Nat) (m : Str → Option Value) (r : Addr) (kvs : List (Int × Value)), s' = ⟨h, G0, Dr0, tk, O0⟩ ∧ Fr h₀ L h (fun y => if y = Str.ofString "rows" then some (.ref r) else if y = Str.ofString "is_other" then some (.bool c) else if y = Str.ofString "deck" then some (.ref dd) else m y) ∧ News h₀ L h base ∧
    h₀.DictOf (intKind PG w) r kvs ∧ (r == sysModules) = false ∧ 0 < kvs.length ∧ kvs.length ≤ 36 ∧ ∀ k, (wordB k c = none ∧ valueAt kvs k = none) ∨ ∃ x u, wordB k c = some x ∧ valueAt kvs k = some (.str x u)
theorem RowsT.elim {w : World} {h₀ : Heap} {L dd : Addr} {base : List (Addr × Obj)} {c : Bool} {G0 : Array GenState} {Dr0 : Drawn} {O0 : OsState} {s' : Shared} {P : Shared → Prop} (Z : RowsT w h₀ L dd base c G0 Dr0 O0 s')
    (k : ∀ (h : Heap) (tk : Nat) (m : Str → Option Value) (r : Addr) (kvs : List (Int × Value)), Fr h₀ L h (fun y => if y = Str.ofString "rows" then some (.ref r) else if y = Str.ofString "is_other" then some (.bool c) else if y = Str.ofString "deck" then some (.ref dd) else m y) → News h₀ L h base →
    h₀.DictOf (intKind PG w) r kvs → (r == sysModules) = false → 0 < kvs.length → kvs.length ≤ 36 → (∀ k, (wordB k c = none ∧ valueAt kvs k = none) ∨ ∃ x u, wordB k c = some x ∧ valueAt kvs k = some (.str x u)) → P ⟨h, G0, Dr0, tk, O0⟩) : P s' := by
  obtain ⟨h, tk, m, r, kvs, rfl, F, N, a, b, c, d, e⟩ := Z
  exact k h tk m r kvs F N a b c d e
theorem RowsT.intro {w : World} {h₀ h : Heap} {L dd r : Addr} {base : List (Addr × Obj)} {c : Bool} {G0 : Array GenState} {Dr0 : Drawn} {O0 : OsState} {tk n : Nat} {m : Str → Option Value} (F : Fr h₀ L h m) (N : News h₀ L h base) (h1 : m (Str.ofString "rows") = some (.ref r)) (h2 : m (Str.ofString "is_other") = some (.bool c)) (h3 : m (Str.ofString "deck") = some (.ref dd)) (lo : (r == sysModules) = false) (n0 : 0 < n) (n1 : n ≤ 36)
    (ht : ∃ kvs, h₀.DictOf (intKind PG w) r kvs ∧ kvs.length = n ∧ ∀ k, (wordB k c = none ∧ valueAt kvs k = none) ∨ ∃ x u, wordB k c = some x ∧ valueAt kvs k = some (.str x u)) : RowsT w h₀ L dd base c G0 Dr0 O0 ⟨h, G0, Dr0, tk, O0⟩ := by
  obtain ⟨kvs, a, rfl, b⟩ := ht
  exact ⟨h, tk, m, r, kvs, rfl, fr_key0 (fr_key0 (fr_key0 F h3) (by rw [if_neg (by decide)]; exact h2)) (by rw [if_neg (by decide), if_neg (by decide)]; exact h1), N, a, lo, n0, n1, b⟩
def NumT (h₀ : Heap) (L dd r : Addr) (base : List (Addr × Obj)) (c : Bool) (G0 : Array GenState) (Dr0 : Drawn) (O0 : OsState) (s' : Shared) : Prop :=
  ∃ (h : Heap) (tk : Nat) (m : Str → Option Value) (k : Int) (t : Tok), s' = ⟨h, G0, Dr0, tk, O0⟩ ∧ Fr h₀ L h (fun y => if y = Str.ofString "number" then some (.int k t) else if y = Str.ofString "rows" then some (.ref r) else if y = Str.ofString "is_other" then some (.bool c) else if y = Str.ofString "deck" then some (.ref dd) else m y) ∧ News h₀ L h base
theorem NumT.elim {h₀ : Heap} {L dd r : Addr} {base : List (Addr × Obj)} {c : Bool} {G0 : Array GenState} {Dr0 : Drawn} {O0 : OsState} {s' : Shared} {P : Shared → Prop} (Z : NumT h₀ L dd r base c G0 Dr0 O0 s')
    (k : ∀ (h : Heap) (tk : Nat) (m : Str → Option Value) (k : Int) (t : Tok), Fr h₀ L h (fun y => if y = Str.ofString "number" then some (.int k t) else if y = Str.ofString "rows" then some (.ref r) else if y = Str.ofString "is_other" then some (.bool c) else if y = Str.ofString "deck" then some (.ref dd) else m y) → News h₀ L h base → P ⟨h, G0, Dr0, tk, O0⟩) : P s' := by
  obtain ⟨h, tk, m, i, t, rfl, F, N⟩ := Z
  exact k h tk m i t F N
theorem NumT.intro {h₀ h : Heap} {L dd r : Addr} {base : List (Addr × Obj)} {c : Bool} {G0 : Array GenState} {Dr0 : Drawn} {O0 : OsState} {tk : Nat} {k : Int} {t : Tok} {m : Str → Option Value} (F : Fr h₀ L h m) (N : News h₀ L h base) (h0 : m (Str.ofString "number") = some (.int k t)) (h1 : m (Str.ofString "rows") = some (.ref r)) (h2 : m (Str.ofString "is_other") = some (.bool c)) (h3 : m (Str.ofString "deck") = some (.ref dd)) : NumT h₀ L dd r base c G0 Dr0 O0 ⟨h, G0, Dr0, tk, O0⟩ :=
  ⟨h, tk, m, k, t, rfl, fr_key0 (fr_key0 (fr_key0 (fr_key0 F h3) (by rw [if_neg (by decide)]; exact h2)) (by rw [if_neg (by decide), if_neg (by decide)]; exact h1)) (by rw [if_neg (by decide), if_neg (by decide), if_neg (by decide)]; exact h0), N⟩
section
variable {w : World} {p : Program} {loose : List Str} {mean : ExcName → Option Value} {mg mb : Str → Option Value}
set_option maxHeartbeats 4000000 in
theorem c_names {dd l : Addr} {oD oL : Obj} :
    Con w p loose mean mg mb 175 16 [.ref dd]
     (fun news G => (dd, oD) ∈ news → (l, oL) ∈ news → (dd == sysModules) = false → dd ≠ l → DeckO w oD oL l → G)
     (fun news P => ∀ nw, P (.bool true) nw) := by
  unfold Con
  intro A env outer A₀ base h₀ L m news hp0 G0 Dr0 tk0 O0 Q E hA hf hke B F X N T hd hu hdd hl hlo hne hdk hret
  refine wpAny_call ?_
  k_dflt (refine' code_defG (binds := [(Str.ofString "deck", .ref dd)]) ?k1 ?k2 ?k3 ?k4 ?k5 ?kA ?kF ?kK ?k6 ?k7 ?kd ?ku ?k9 ?kB ?_ ?c2 ?c3 ?c4 ?c5; (case kA => assumption); (case kF => assumption); (case kK => assumption); (case k1 => k_asm); (case k2 => k_asm); (case k3 => k_asm); (case k4 => k_asm); (case k5 => k_asm); (case k6 => k_is); (case k7 => k_is); (case kd => assumption); (case ku => assumption); (case k9 => exact BindsTo.of_eq rfl); (case c5 => decide); (case kB => exact locs rfl); (case c2 => exact rfl); (case c3 => exact rfl); (case c4 => exact rfl); k_whole; intro A1 g' L' h' tk' Q1 E1 hA1 hd1 hu1 FG' F' N' B' X' T' H1 P1; (try dsimp only))
  (repeat' (first | (k_unfold; (try dsimp only)) | ((first | (with_reducible refine Then.next ?_) | (with_reducible refine Then.ret ?_) | (with_reducible refine Joined.next ?_) | (with_reducible refine Joined.ret ?_) | (with_reducible refine HidV.get (by with_reducible assumption) _ _ ?_) | (with_reducible refine Hdn.get (by with_reducible assumption) ?_) | (with_reducible refine TurnEnd.toRet ?_)); (try dsimp only)) | (k_end; wrow_close) | ((with_reducible refine hide_turn ?_); intro Q1 H1) | (with_reducible refine exec_hid ?_) | (with_reducible (first | refine sp1 ?_ | refine sp2 ?_ | refine sp3 ?_ | refine sp4 ?_ | refine sp5 ?_ | refine sp6 ?_ | refine sp7 ?_ | refine sp8 ?_ | refine sp9 ?_ | refine sp10 ?_ | refine sp11 ?_ | refine sp12 ?_ | refine sp13 ?_ | refine sp14 ?_ | refine sp15 ?_ | refine sp16 ?_ | refine sp17 ?_ | refine sp18 ?_ | refine sp19 ?_ | refine sp22 ?_ | refine sp23 ?_ | refine sp24 ?_)) | ((with_reducible show wpAny _ _ (exec (Stmt.For (Expr.Name _ _) _ _ [] _) _) _ _ _); (with_unfolding_all refine' for_at ?F ?k1 ?k2 ?_ ?k3 ?k4; (case F => k_asm); (case k1 => exact rfl); (case k2 => exact rfl); (case k3 => intro _; rfl); (case k4 => assumption); k_whole)) | walk1 | (dsimp only; walk1) | (leave1; walk_say "STEP leave1"; try dsimp only) | fail "no step"))
  refine Stop.go ?_
  rename News g' _ _ _ => N1
  k_dflt (refine' (c_draw (by decide) (by decide)) _ _ _ _ _ _ _ _ _ _ _ _ _ _ _ _ ?kA ?kF ?kK ?k1 ?k2 ?k3 ?k4 ?k5 ?kd ?ku ?p0 ?p1 ?p2 ?p3 ?p4 ?_; (case kA => assumption); (case kF => exact rfl); (case kK => exact rfl); (case k1 => k_asm); (case k2 => k_asm); (case k3 => k_asm); (case k4 => k_asm); (case k5 => k_asm); (case p0 => exact hdd); (case p1 => exact hl); (case p2 => exact hlo); (case p3 => exact hne); (case p4 => exact hdk); (case kd => exact room (by assumption) (by decide)); (case ku => exact room (by assumption) (by decide)); intro v t' oD1 oL1 v0 v1 hdk1 h2 tk2 F2 N2)
  have N3 := news_sub N2 (keep_draw (oD' := oD1) (oL' := oL1) (own := []) hdd hl hne (by simp))
  clear N2 hdd hl
  (try dsimp only)
  (repeat' (first | (k_unfold; (try dsimp only)) | ((first | (with_reducible refine Then.next ?_) | (with_reducible refine Then.ret ?_) | (with_reducible refine Joined.next ?_) | (with_reducible refine Joined.ret ?_) | (with_reducible refine HidV.get (by with_reducible assumption) _ _ ?_) | (with_reducible refine Hdn.get (by with_reducible assumption) ?_) | (with_reducible refine TurnEnd.toRet ?_)); (try dsimp only)) | (k_end; wrow_close) | ((with_reducible refine hide_turn ?_); intro Q1 H1) | (with_reducible refine exec_hid ?_) | (with_reducible (first | refine sp1 ?_ | refine sp2 ?_ | refine sp3 ?_ | refine sp4 ?_ | refine sp5 ?_ | refine sp6 ?_ | refine sp7 ?_ | refine sp8 ?_ | refine sp9 ?_ | refine sp10 ?_ | refine sp11 ?_ | refine sp12 ?_ | refine sp13 ?_ | refine sp14 ?_ | refine sp15 ?_ | refine sp16 ?_ | refine sp17 ?_ | refine sp18 ?_ | refine sp19 ?_ | refine sp22 ?_ | refine sp23 ?_ | refine sp24 ?_)) | ((with_reducible show wpAny _ _ (exec (Stmt.For (Expr.Name _ _) _ _ [] _) _) _ _ _); (with_unfolding_all refine' for_at ?F ?k1 ?k2 ?_ ?k3 ?k4; (case F => k_asm); (case k1 => exact rfl); (case k2 => exact rfl); (case k3 => intro _; rfl); (case k4 => assumption); k_whole)) | walk1 | (dsimp only; walk1) | (leave1; walk_say "STEP leave1"; try dsimp only) | fail "no step"))
  rename_i ra ua va hrg hF hN hold
  obtain ⟨rs, rn⟩ := range_ok (v := 1 + v) (Int.le_trans v0 (Int.le_add_of_nonneg_left (by decide))) (Int.lt_trans (Int.add_lt_add_left v1 1) (by decide))
  refine loop_range (fun _ m₁ nw => m₁ (Str.ofString "deck") = some (.ref dd) ∧ ∃ oD oL, nw = [(dd, oD), (l, oL)] ∧ DeckO w oD oL l) rfl hrg rs rn hF (news_sub hN (by simp)) ⟨rfl, oD1, oL1, rfl, hdk1⟩ ?_ ?_
  · intro I i t m₁ news₁ own h3 tk3 hi hlt hI hown hJ hnI F4 N4
    refine hide_goal (fun Hq => ?_)
    obtain ⟨em, oD3, oL3, rfl, hdk3⟩ := hJ
    have hIdd : dd ≠ I := hnI _ (.head _)
    have hIl : l ≠ I := hnI _ (.tail _ (.head _))
    have hown4 : ∀ {X : List (Addr × Obj)}, ∀ q ∈ own, q ∈ own ++ X ∧ q.1 ≠ l ∧ q.1 ≠ dd := fun q hq => ⟨List.mem_append_left _ hq, by rw [hown q hq]; exact hIl.symm, by rw [hown q hq]; exact hIdd.symm⟩
    have F5 := fr_key F4 em (by decide)
    clear F4
    (try ((first | (with_reducible refine Then.next ?_) | (with_reducible refine Then.ret ?_) | (with_reducible refine Joined.next ?_) | (with_reducible refine Joined.ret ?_) | (with_reducible refine HidV.get (by with_reducible assumption) _ _ ?_) | (with_reducible refine Hdn.get (by with_reducible assumption) ?_) | (with_reducible refine TurnEnd.toRet ?_)); (try dsimp only)))
    refine hide1 (fun R hR => ?_)
    (repeat' (first | (k_unfold; (try dsimp only)) | ((first | (with_reducible refine Then.next ?_) | (with_reducible refine Then.ret ?_) | (with_reducible refine Joined.next ?_) | (with_reducible refine Joined.ret ?_) | (with_reducible refine HidV.get (by with_reducible assumption) _ _ ?_) | (with_reducible refine Hdn.get (by with_reducible assumption) ?_) | (with_reducible refine TurnEnd.toRet ?_)); (try dsimp only)) | (k_end; wrow_close) | ((with_reducible refine hide_turn ?_); intro Q1 H1) | (with_reducible refine exec_hid ?_) | (with_reducible (first | refine sp1 ?_ | refine sp2 ?_ | refine sp3 ?_ | refine sp4 ?_ | refine sp5 ?_ | refine sp6 ?_ | refine sp7 ?_ | refine sp8 ?_ | refine sp9 ?_ | refine sp10 ?_ | refine sp11 ?_ | refine sp12 ?_ | refine sp13 ?_ | refine sp14 ?_ | refine sp15 ?_ | refine sp16 ?_ | refine sp17 ?_ | refine sp18 ?_ | refine sp19 ?_ | refine sp22 ?_ | refine sp23 ?_ | refine sp24 ?_)) | ((with_reducible show wpAny _ _ (exec (Stmt.For (Expr.Name _ _) _ _ [] _) _) _ _ _); (with_unfolding_all refine' for_at ?F ?k1 ?k2 ?_ ?k3 ?k4; (case F => k_asm); (case k1 => exact rfl); (case k2 => exact rfl); (case k3 => intro _; rfl); (case k4 => assumption); k_whole)) | walk1 | (dsimp only; walk1) | (leave1; walk_say "STEP leave1"; try dsimp only) | fail "no step"))
    refine Stop.go ?_
    k_dflt (refine' (c_draw (by decide) (by decide)) _ _ _ _ _ _ _ _ _ _ _ _ _ _ _ _ ?kA ?kF ?kK ?k1 ?k2 ?k3 ?k4 ?k5 ?kd ?ku ?p0 ?p1 ?p2 ?p3 ?p4 ?_; (case kA => assumption); (case kF => exact rfl); (case kK => exact rfl); (case k1 => k_asm); (case k2 => k_asm); (case k3 => k_asm); (case k4 => k_asm); (case k5 => k_asm); (case p0 => k_mem); (case p1 => k_mem); (case p2 => exact hlo); (case p3 => exact hne); (case p4 => exact hdk3); (case kd => exact room (by assumption) (by decide)); (case ku => exact room (by assumption) (by decide)); intro v6 t6 oD4 oL4 v60 v61 hdk4 h6 tk6 F6 N6)
    have N7 := news_sub N6 (keep_draw (oD' := oD4) (oL' := oL4) (own := own) (List.mem_append_right _ (.head _)) (List.mem_append_right _ (.tail _ (.head _))) hne hown4)
    clear N6 N4
    (try dsimp only)
    (repeat' (first | (k_unfold; (try dsimp only)) | ((first | (with_reducible refine Then.next ?_) | (with_reducible refine Then.ret ?_) | (with_reducible refine Joined.next ?_) | (with_reducible refine Joined.ret ?_) | (with_reducible refine HidV.get (by with_reducible assumption) _ _ ?_) | (with_reducible refine Hdn.get (by with_reducible assumption) ?_) | (with_reducible refine TurnEnd.toRet ?_)); (try dsimp only)) | (k_end; wrow_close) | ((with_reducible refine hide_turn ?_); intro Q1 H1) | (with_reducible refine exec_hid ?_) | (with_reducible (first | refine sp1 ?_ | refine sp2 ?_ | refine sp3 ?_ | refine sp4 ?_ | refine sp5 ?_ | refine sp6 ?_ | refine sp7 ?_ | refine sp8 ?_ | refine sp9 ?_ | refine sp10 ?_ | refine sp11 ?_ | refine sp12 ?_ | refine sp13 ?_ | refine sp14 ?_ | refine sp15 ?_ | refine sp16 ?_ | refine sp17 ?_ | refine sp18 ?_ | refine sp19 ?_ | refine sp22 ?_ | refine sp23 ?_ | refine sp24 ?_)) | ((with_reducible show wpAny _ _ (exec (Stmt.For (Expr.Name _ _) _ _ [] _) _) _ _ _); (with_unfolding_all refine' for_at ?F ?k1 ?k2 ?_ ?k3 ?k4; (case F => k_asm); (case k1 => exact rfl); (case k2 => exact rfl); (case k3 => intro _; rfl); (case k4 => assumption); k_whole)) | walk1 | (dsimp only; walk1) | (leave1; walk_say "STEP leave1"; try dsimp only) | fail "no step"))
    rename News g' _ _ _ => N7
    subst hR
    refine exec_join (RowsT w g' L' dd (own ++ [(dd, oD4), (l, oL4)]) (decide (0 < v6)) G0 Dr0 O0) (fun Q1 H1 => ?_) ?_
    · (repeat' (first | (k_unfold; (try dsimp only)) | ((first | (with_reducible refine Then.next ?_) | (with_reducible refine Then.ret ?_) | (with_reducible refine Joined.next ?_) | (with_reducible refine Joined.ret ?_) | (with_reducible refine HidV.get (by with_reducible assumption) _ _ ?_) | (with_reducible refine Hdn.get (by with_reducible assumption) ?_) | (with_reducible refine TurnEnd.toRet ?_)); (try dsimp only)) | (k_end; wrow_close) | ((with_reducible refine hide_turn ?_); intro Q1 H1) | (with_reducible refine exec_hid ?_) | (with_reducible (first | refine sp1 ?_ | refine sp2 ?_ | refine sp3 ?_ | refine sp4 ?_ | refine sp5 ?_ | refine sp6 ?_ | refine sp7 ?_ | refine sp8 ?_ | refine sp9 ?_ | refine sp10 ?_ | refine sp11 ?_ | refine sp12 ?_ | refine sp13 ?_ | refine sp14 ?_ | refine sp15 ?_ | refine sp16 ?_ | refine sp17 ?_ | refine sp18 ?_ | refine sp19 ?_ | refine sp22 ?_ | refine sp23 ?_ | refine sp24 ?_)) | ((with_reducible show wpAny _ _ (exec (Stmt.For (Expr.Name _ _) _ _ [] _) _) _ _ _); (with_unfolding_all refine' for_at ?F ?k1 ?k2 ?_ ?k3 ?k4; (case F => k_asm); (case k1 => exact rfl); (case k2 => exact rfl); (case k3 => intro _; rfl); (case k4 => assumption); k_whole)) | walk1 | (dsimp only; walk1) | (leave1; walk_say "STEP leave1"; try dsimp only) | fail "no step"))
      · have e6 : decide (0 < v6) = true := decide_eq_true (by assumption)
        rw [e6]
        exact RowsT.intro (by k_asm) (by k_asm) rfl (congrArg _ (congrArg _ e6)) rfl low136 (by decide) (by decide) (tab_priv X')
      · have e6 : decide (0 < v6) = false := decide_eq_false (by assumption)
        rw [e6]
        exact RowsT.intro (by k_asm) (by k_asm) rfl (congrArg _ (congrArg _ e6)) rfl low139 (by decide) (by decide) (tab_plain X')
    · generalize decide (0 < v6) = is6
      intro s7 Z7
      refine Z7.elim (P := fun s7 => wpAny _ _ (execs _ _) _ _ s7) ?_
      clear Z7 s7 N7
      intro h7 tk7 m7 r7 kvs F7 N7 hD0 lo7 n70 n71 htab
      refine hide1 (fun R hR => ?_)
      (repeat' (first | (k_unfold; (try dsimp only)) | ((first | (with_reducible refine Then.next ?_) | (with_reducible refine Then.ret ?_) | (with_reducible refine Joined.next ?_) | (with_reducible refine Joined.ret ?_) | (with_reducible refine HidV.get (by with_reducible assumption) _ _ ?_) | (with_reducible refine Hdn.get (by with_reducible assumption) ?_) | (with_reducible refine TurnEnd.toRet ?_)); (try dsimp only)) | (k_end; wrow_close) | ((with_reducible refine hide_turn ?_); intro Q1 H1) | (with_reducible refine exec_hid ?_) | (with_reducible (first | refine sp1 ?_ | refine sp2 ?_ | refine sp3 ?_ | refine sp4 ?_ | refine sp5 ?_ | refine sp6 ?_ | refine sp7 ?_ | refine sp8 ?_ | refine sp9 ?_ | refine sp10 ?_ | refine sp11 ?_ | refine sp12 ?_ | refine sp13 ?_ | refine sp14 ?_ | refine sp15 ?_ | refine sp16 ?_ | refine sp17 ?_ | refine sp18 ?_ | refine sp19 ?_ | refine sp22 ?_ | refine sp23 ?_ | refine sp24 ?_)) | ((with_reducible show wpAny _ _ (exec (Stmt.For (Expr.Name _ _) _ _ [] _) _) _ _ _); (with_unfolding_all refine' for_at ?F ?k1 ?k2 ?_ ?k3 ?k4; (case F => k_asm); (case k1 => exact rfl); (case k2 => exact rfl); (case k3 => intro _; rfl); (case k4 => assumption); k_whole)) | walk1 | (dsimp only; walk1) | (leave1; walk_say "STEP leave1"; try dsimp only) | fail "no step"))
      refine Stop.go ?_
      k_dflt (refine' (c_draw (by decide) (by decide)) _ _ _ _ _ _ _ _ _ _ _ _ _ _ _ _ ?kA ?kF ?kK ?k1 ?k2 ?k3 ?k4 ?k5 ?kd ?ku ?p0 ?p1 ?p2 ?p3 ?p4 ?_; (case kA => assumption); (case kF => exact rfl); (case kK => exact rfl); (case k1 => k_asm); (case k2 => k_asm); (case k3 => k_asm); (case k4 => k_asm); (case k5 => k_asm); (case p0 => k_mem); (case p1 => k_mem); (case p2 => exact hlo); (case p3 => exact hne); (case p4 => exact hdk4); (case kd => exact room (by assumption) (by decide)); (case ku => exact room (by assumption) (by decide)); intro v8 t8 oD5 oL5 v80 v81 hdk5 h8 tk8 F8 N8)
      have N9 := news_sub N8 (keep_draw (oD' := oD5) (oL' := oL5) (own := own) (List.mem_append_right _ (.head _)) (List.mem_append_right _ (.tail _ (.head _))) hne hown4)
      clear N8
      (try dsimp only)
      (repeat' (first | (k_unfold; (try dsimp only)) | ((first | (with_reducible refine Then.next ?_) | (with_reducible refine Then.ret ?_) | (with_reducible refine Joined.next ?_) | (with_reducible refine Joined.ret ?_) | (with_reducible refine HidV.get (by with_reducible assumption) _ _ ?_) | (with_reducible refine Hdn.get (by with_reducible assumption) ?_) | (with_reducible refine TurnEnd.toRet ?_)); (try dsimp only)) | (k_end; wrow_close) | ((with_reducible refine hide_turn ?_); intro Q1 H1) | (with_reducible refine exec_hid ?_) | (with_reducible (first | refine sp1 ?_ | refine sp2 ?_ | refine sp3 ?_ | refine sp4 ?_ | refine sp5 ?_ | refine sp6 ?_ | refine sp7 ?_ | refine sp8 ?_ | refine sp9 ?_ | refine sp10 ?_ | refine sp11 ?_ | refine sp12 ?_ | refine sp13 ?_ | refine sp14 ?_ | refine sp15 ?_ | refine sp16 ?_ | refine sp17 ?_ | refine sp18 ?_ | refine sp19 ?_ | refine sp22 ?_ | refine sp23 ?_ | refine sp24 ?_)) | ((with_reducible show wpAny _ _ (exec (Stmt.For (Expr.Name _ _) _ _ [] _) _) _ _ _); (with_unfolding_all refine' for_at ?F ?k1 ?k2 ?_ ?k3 ?k4; (case F => k_asm); (case k1 => exact rfl); (case k2 => exact rfl); (case k3 => intro _; rfl); (case k4 => assumption); k_whole)) | walk1 | (dsimp only; walk1) | (leave1; walk_say "STEP leave1"; try dsimp only) | fail "no step"))
      rename News g' _ _ _ => N9
      subst hR
      refine exec_join (NumT g' L' dd r7 (own ++ [(dd, oD5), (l, oL5)]) is6 G0 Dr0 O0) (fun Q1 H1 => ?_) ?_
      · (repeat' (first | (k_unfold; (try dsimp only)) | ((first | (with_reducible refine Then.next ?_) | (with_reducible refine Then.ret ?_) | (with_reducible refine Joined.next ?_) | (with_reducible refine Joined.ret ?_) | (with_reducible refine HidV.get (by with_reducible assumption) _ _ ?_) | (with_reducible refine Hdn.get (by with_reducible assumption) ?_) | (with_reducible refine TurnEnd.toRet ?_)); (try dsimp only)) | (k_end; wrow_close) | ((with_reducible refine hide_turn ?_); intro Q1 H1) | (with_reducible refine exec_hid ?_) | (with_reducible (first | refine sp1 ?_ | refine sp2 ?_ | refine sp3 ?_ | refine sp4 ?_ | refine sp5 ?_ | refine sp6 ?_ | refine sp7 ?_ | refine sp8 ?_ | refine sp9 ?_ | refine sp10 ?_ | refine sp11 ?_ | refine sp12 ?_ | refine sp13 ?_ | refine sp14 ?_ | refine sp15 ?_ | refine sp16 ?_ | refine sp17 ?_ | refine sp18 ?_ | refine sp19 ?_ | refine sp22 ?_ | refine sp23 ?_ | refine sp24 ?_)) | ((with_reducible show wpAny _ _ (exec (Stmt.For (Expr.Name _ _) _ _ [] _) _) _ _ _); (with_unfolding_all refine' for_at ?F ?k1 ?k2 ?_ ?k3 ?k4; (case F => k_asm); (case k1 => exact rfl); (case k2 => exact rfl); (case k3 => intro _; rfl); (case k4 => assumption); k_whole)) | walk1 | (dsimp only; walk1) | (leave1; walk_say "STEP leave1"; try dsimp only) | fail "no step"))
        · refine Stop.go ?_
          rename Fr g' _ _ _ => F10
          rename News g' _ _ _ => N10
          refine sorted_base_int rfl F10 N10 (hD0.keep F10.keep) lo7 (Nat.lt_of_le_of_lt n71 (by decide)) ?_
          intro D11 vs11 ns11 h11 tk11 n11 F11 N11 lt11 hia11 hperm11 hasc11
          (try dsimp only)
          (repeat' (first | (k_unfold; (try dsimp only)) | ((first | (with_reducible refine Then.next ?_) | (with_reducible refine Then.ret ?_) | (with_reducible refine Joined.next ?_) | (with_reducible refine Joined.ret ?_) | (with_reducible refine HidV.get (by with_reducible assumption) _ _ ?_) | (with_reducible refine Hdn.get (by with_reducible assumption) ?_) | (with_reducible refine TurnEnd.toRet ?_)); (try dsimp only)) | (k_end; wrow_close) | ((with_reducible refine hide_turn ?_); intro Q1 H1) | (with_reducible refine exec_hid ?_) | (with_reducible (first | refine sp1 ?_ | refine sp2 ?_ | refine sp3 ?_ | refine sp4 ?_ | refine sp5 ?_ | refine sp6 ?_ | refine sp7 ?_ | refine sp8 ?_ | refine sp9 ?_ | refine sp10 ?_ | refine sp11 ?_ | refine sp12 ?_ | refine sp13 ?_ | refine sp14 ?_ | refine sp15 ?_ | refine sp16 ?_ | refine sp17 ?_ | refine sp18 ?_ | refine sp19 ?_ | refine sp22 ?_ | refine sp23 ?_ | refine sp24 ?_)) | ((with_reducible show wpAny _ _ (exec (Stmt.For (Expr.Name _ _) _ _ [] _) _) _ _ _); (with_unfolding_all refine' for_at ?F ?k1 ?k2 ?_ ?k3 ?k4; (case F => k_asm); (case k1 => exact rfl); (case k2 => exact rfl); (case k3 => intro _; rfl); (case k4 => assumption); k_whole)) | walk1 | (dsimp only; walk1) | (leave1; walk_say "STEP leave1"; try dsimp only) | fail "no step"))
          refine Stop.go ?_
          rename Fr g' _ _ _ => F12
          refine base_len (hD0.keep F12.keep) lo7 (Nat.le_trans n71 (by decide)) ?_
          (try dsimp only)
          (repeat' (first | (k_unfold; (try dsimp only)) | ((first | (with_reducible refine Then.next ?_) | (with_reducible refine Then.ret ?_) | (with_reducible refine Joined.next ?_) | (with_reducible refine Joined.ret ?_) | (with_reducible refine HidV.get (by with_reducible assumption) _ _ ?_) | (with_reducible refine Hdn.get (by with_reducible assumption) ?_) | (with_reducible refine TurnEnd.toRet ?_)); (try dsimp only)) | (k_end; wrow_close) | ((with_reducible refine hide_turn ?_); intro Q1 H1) | (with_reducible refine exec_hid ?_) | (with_reducible (first | refine sp1 ?_ | refine sp2 ?_ | refine sp3 ?_ | refine sp4 ?_ | refine sp5 ?_ | refine sp6 ?_ | refine sp7 ?_ | refine sp8 ?_ | refine sp9 ?_ | refine sp10 ?_ | refine sp11 ?_ | refine sp12 ?_ | refine sp13 ?_ | refine sp14 ?_ | refine sp15 ?_ | refine sp16 ?_ | refine sp17 ?_ | refine sp18 ?_ | refine sp19 ?_ | refine sp22 ?_ | refine sp23 ?_ | refine sp24 ?_)) | ((with_reducible show wpAny _ _ (exec (Stmt.For (Expr.Name _ _) _ _ [] _) _) _ _ _); (with_unfolding_all refine' for_at ?F ?k1 ?k2 ?_ ?k3 ?k4; (case F => k_asm); (case k1 => exact rfl); (case k2 => exact rfl); (case k3 => intro _; rfl); (case k4 => assumption); k_whole)) | walk1 | (dsimp only; walk1) | (leave1; walk_say "STEP leave1"; try dsimp only) | fail "no step"))
          refine Stop.go ?_
          have zD := N11 _ (.head _)
          have hvl : vs11.length = kvs.length := by
            have h1 := hia11.length
            have h2 := hperm11.length_eq
            rw [List.length_map] at h2
            exact h1.trans h2
          have q0 : 0 ≤ v8.fmod kvs.length := Int.fmod_nonneg_of_pos _ (Int.natCast_pos.mpr n70)
          have q1 : v8.fmod kvs.length < kvs.length := Int.fmod_lt_of_pos _ (Int.natCast_pos.mpr n70)
          obtain ⟨item, hitem⟩ : ∃ item, vs11[(v8.fmod kvs.length).toNat]? = some item := ⟨_, List.getElem?_eq_getElem (by rw [hvl]; exact (Int.toNat_lt q0).mpr q1)⟩
          obtain ⟨kk, kt, rfl, hkk⟩ := IntsAre.at hia11 _ _ hitem
          refine list_item (k := v8.fmod kvs.length) ⟨_, zD.1, rfl, _, rfl⟩ q0 (Int.lt_trans q1 (Int.lt_of_le_of_lt (Int.ofNat_le.mpr n71) (by decide))) hitem ?_ (by with_unfolding_all rfl)
          (try dsimp only)
          (repeat' (first | (k_unfold; (try dsimp only)) | ((first | (with_reducible refine Then.next ?_) | (with_reducible refine Then.ret ?_) | (with_reducible refine Joined.next ?_) | (with_reducible refine Joined.ret ?_) | (with_reducible refine HidV.get (by with_reducible assumption) _ _ ?_) | (with_reducible refine Hdn.get (by with_reducible assumption) ?_) | (with_reducible refine TurnEnd.toRet ?_)); (try dsimp only)) | (k_end; wrow_close) | ((with_reducible refine hide_turn ?_); intro Q1 H1) | (with_reducible refine exec_hid ?_) | (with_reducible (first | refine sp1 ?_ | refine sp2 ?_ | refine sp3 ?_ | refine sp4 ?_ | refine sp5 ?_ | refine sp6 ?_ | refine sp7 ?_ | refine sp8 ?_ | refine sp9 ?_ | refine sp10 ?_ | refine sp11 ?_ | refine sp12 ?_ | refine sp13 ?_ | refine sp14 ?_ | refine sp15 ?_ | refine sp16 ?_ | refine sp17 ?_ | refine sp18 ?_ | refine sp19 ?_ | refine sp22 ?_ | refine sp23 ?_ | refine sp24 ?_)) | ((with_reducible show wpAny _ _ (exec (Stmt.For (Expr.Name _ _) _ _ [] _) _) _ _ _); (with_unfolding_all refine' for_at ?F ?k1 ?k2 ?_ ?k3 ?k4; (case F => k_asm); (case k1 => exact rfl); (case k2 => exact rfl); (case k3 => intro _; rfl); (case k4 => assumption); k_whole)) | walk1 | (dsimp only; walk1) | (leave1; walk_say "STEP leave1"; try dsimp only) | fail "no step"))
          rename News g' _ _ _ => N13
          exact NumT.intro (by k_asm) (news_sub N13 fun q hq => .tail _ hq) rfl rfl rfl rfl
        · exact NumT.intro (by k_asm) (by k_asm) rfl rfl rfl rfl
      · intro s9 Z9
        refine Z9.elim (P := fun s9 => wpAny _ _ (execs _ _) _ _ s9) ?_
        clear Z9 s9 N9
        intro h9 tk9 m9 kk kt F9 N9
        (repeat' (first | (k_unfold; (try dsimp only)) | ((first | (with_reducible refine Then.next ?_) | (with_reducible refine Then.ret ?_) | (with_reducible refine Joined.next ?_) | (with_reducible refine Joined.ret ?_) | (with_reducible refine HidV.get (by with_reducible assumption) _ _ ?_) | (with_reducible refine Hdn.get (by with_reducible assumption) ?_) | (with_reducible refine TurnEnd.toRet ?_)); (try dsimp only)) | (k_end; wrow_close) | ((with_reducible refine hide_turn ?_); intro Q1 H1) | (with_reducible refine exec_hid ?_) | (with_reducible (first | refine sp1 ?_ | refine sp2 ?_ | refine sp3 ?_ | refine sp4 ?_ | refine sp5 ?_ | refine sp6 ?_ | refine sp7 ?_ | refine sp8 ?_ | refine sp9 ?_ | refine sp10 ?_ | refine sp11 ?_ | refine sp12 ?_ | refine sp13 ?_ | refine sp14 ?_ | refine sp15 ?_ | refine sp16 ?_ | refine sp17 ?_ | refine sp18 ?_ | refine sp19 ?_ | refine sp22 ?_ | refine sp23 ?_ | refine sp24 ?_)) | ((with_reducible show wpAny _ _ (exec (Stmt.For (Expr.Name _ _) _ _ [] _) _) _ _ _); (with_unfolding_all refine' for_at ?F ?k1 ?k2 ?_ ?k3 ?k4; (case F => k_asm); (case k1 => exact rfl); (case k2 => exact rfl); (case k3 => intro _; rfl); (case k4 => assumption); k_whole)) | walk1 | (dsimp only; walk1) | (leave1; walk_say "STEP leave1"; try dsimp only) | fail "no step"))
        refine Stop.go ?_
        k_dflt (refine' (c_word) _ _ _ _ _ _ _ _ _ _ _ _ _ _ _ _ ?kA ?kF ?kK ?k1 ?k2 ?k3 ?k4 ?k5 ?kd ?ku  ?_; (case kA => assumption); (case kF => exact rfl); (case kK => exact rfl); (case k1 => k_asm); (case k2 => k_asm); (case k3 => k_asm); (case k4 => k_asm); (case k5 => k_asm);  (case kd => exact room (by assumption) (by decide)); (case ku => exact room (by assumption) (by decide)); refine ⟨fun ew => ?_, fun sw st ew => ?_⟩ <;> intro h13 tk13 F13 N13)
        · have hv : valueAt kvs kk = none := by
            rcases htab kk with ⟨_, h⟩ | ⟨_, _, h, _⟩
            · exact h
            · rw [ew] at h; cases h
          (try dsimp only)
          (repeat' (first | (k_unfold; (try dsimp only)) | ((first | (with_reducible refine Then.next ?_) | (with_reducible refine Then.ret ?_) | (with_reducible refine Joined.next ?_) | (with_reducible refine Joined.ret ?_) | (with_reducible refine HidV.get (by with_reducible assumption) _ _ ?_) | (with_reducible refine Hdn.get (by with_reducible assumption) ?_) | (with_reducible refine TurnEnd.toRet ?_)); (try dsimp only)) | (k_end; wrow_close) | ((with_reducible refine hide_turn ?_); intro Q1 H1) | (with_reducible refine exec_hid ?_) | (with_reducible (first | refine sp1 ?_ | refine sp2 ?_ | refine sp3 ?_ | refine sp4 ?_ | refine sp5 ?_ | refine sp6 ?_ | refine sp7 ?_ | refine sp8 ?_ | refine sp9 ?_ | refine sp10 ?_ | refine sp11 ?_ | refine sp12 ?_ | refine sp13 ?_ | refine sp14 ?_ | refine sp15 ?_ | refine sp16 ?_ | refine sp17 ?_ | refine sp18 ?_ | refine sp19 ?_ | refine sp22 ?_ | refine sp23 ?_ | refine sp24 ?_)) | ((with_reducible show wpAny _ _ (exec (Stmt.For (Expr.Name _ _) _ _ [] _) _) _ _ _); (with_unfolding_all refine' for_at ?F ?k1 ?k2 ?_ ?k3 ?k4; (case F => k_asm); (case k1 => exact rfl); (case k2 => exact rfl); (case k3 => intro _; rfl); (case k4 => assumption); k_whole)) | walk1 | (dsimp only; walk1) | (leave1; walk_say "STEP leave1"; try dsimp only) | fail "no step"))
          refine Stop.go ?_
          refine base_method (knd := PySem.intKind _ _) (hD0.keep (Fr.keep (by k_asm))) ?_
          (try dsimp only)
          (repeat' (first | (k_unfold; (try dsimp only)) | ((first | (with_reducible refine Then.next ?_) | (with_reducible refine Then.ret ?_) | (with_reducible refine Joined.next ?_) | (with_reducible refine Joined.ret ?_) | (with_reducible refine HidV.get (by with_reducible assumption) _ _ ?_) | (with_reducible refine Hdn.get (by with_reducible assumption) ?_) | (with_reducible refine TurnEnd.toRet ?_)); (try dsimp only)) | (k_end; wrow_close) | ((with_reducible refine hide_turn ?_); intro Q1 H1) | (with_reducible refine exec_hid ?_) | (with_reducible (first | refine sp1 ?_ | refine sp2 ?_ | refine sp3 ?_ | refine sp4 ?_ | refine sp5 ?_ | refine sp6 ?_ | refine sp7 ?_ | refine sp8 ?_ | refine sp9 ?_ | refine sp10 ?_ | refine sp11 ?_ | refine sp12 ?_ | refine sp13 ?_ | refine sp14 ?_ | refine sp15 ?_ | refine sp16 ?_ | refine sp17 ?_ | refine sp18 ?_ | refine sp19 ?_ | refine sp22 ?_ | refine sp23 ?_ | refine sp24 ?_)) | ((with_reducible show wpAny _ _ (exec (Stmt.For (Expr.Name _ _) _ _ [] _) _) _ _ _); (with_unfolding_all refine' for_at ?F ?k1 ?k2 ?_ ?k3 ?k4; (case F => k_asm); (case k1 => exact rfl); (case k2 => exact rfl); (case k3 => intro _; rfl); (case k4 => assumption); k_whole)) | walk1 | (dsimp only; walk1) | (leave1; walk_say "STEP leave1"; try dsimp only) | fail "no step"))
          refine Stop.go ?_
          rename Fr g' _ _ _ => F14
          refine base_get2 (hD0.keep F14.keep) lo7 (intKind_is _ _ _ _) ?_
          rw [hv]
          dsimp only [Option.getD]
          (repeat' (first | (k_unfold; (try dsimp only)) | ((first | (with_reducible refine Then.next ?_) | (with_reducible refine Then.ret ?_) | (with_reducible refine Joined.next ?_) | (with_reducible refine Joined.ret ?_) | (with_reducible refine HidV.get (by with_reducible assumption) _ _ ?_) | (with_reducible refine Hdn.get (by with_reducible assumption) ?_) | (with_reducible refine TurnEnd.toRet ?_)); (try dsimp only)) | (k_end; wrow_close) | ((with_reducible refine hide_turn ?_); intro Q1 H1) | (with_reducible refine exec_hid ?_) | (with_reducible (first | refine sp1 ?_ | refine sp2 ?_ | refine sp3 ?_ | refine sp4 ?_ | refine sp5 ?_ | refine sp6 ?_ | refine sp7 ?_ | refine sp8 ?_ | refine sp9 ?_ | refine sp10 ?_ | refine sp11 ?_ | refine sp12 ?_ | refine sp13 ?_ | refine sp14 ?_ | refine sp15 ?_ | refine sp16 ?_ | refine sp17 ?_ | refine sp18 ?_ | refine sp19 ?_ | refine sp22 ?_ | refine sp23 ?_ | refine sp24 ?_)) | ((with_reducible show wpAny _ _ (exec (Stmt.For (Expr.Name _ _) _ _ [] _) _) _ _ _); (with_unfolding_all refine' for_at ?F ?k1 ?k2 ?_ ?k3 ?k4; (case F => k_asm); (case k1 => exact rfl); (case k2 => exact rfl); (case k3 => intro _; rfl); (case k4 => assumption); k_whole)) | walk1 | (dsimp only; walk1) | (leave1; walk_say "STEP leave1"; try dsimp only) | fail "no step"))
          exact TurnEnd.intro (news' := [(dd, oD5), (l, oL5)]) (by k_asm) (by k_asm) (List.forall_mem_cons.mpr ⟨hIdd, List.forall_mem_cons.mpr ⟨hIl, fun _ h => nomatch h⟩⟩) ⟨rfl, oD5, oL5, rfl, hdk5⟩
        · obtain ⟨su, hv⟩ : ∃ su, valueAt kvs kk = some (.str sw su) := by
            rcases htab kk with ⟨h, _⟩ | ⟨x, u, h, h2⟩
            · rw [ew] at h; cases h
            · rw [ew] at h; cases h; exact ⟨u, h2⟩
          (try dsimp only)
          (repeat' (first | (k_unfold; (try dsimp only)) | ((first | (with_reducible refine Then.next ?_) | (with_reducible refine Then.ret ?_) | (with_reducible refine Joined.next ?_) | (with_reducible refine Joined.ret ?_) | (with_reducible refine HidV.get (by with_reducible assumption) _ _ ?_) | (with_reducible refine Hdn.get (by with_reducible assumption) ?_) | (with_reducible refine TurnEnd.toRet ?_)); (try dsimp only)) | (k_end; wrow_close) | ((with_reducible refine hide_turn ?_); intro Q1 H1) | (with_reducible refine exec_hid ?_) | (with_reducible (first | refine sp1 ?_ | refine sp2 ?_ | refine sp3 ?_ | refine sp4 ?_ | refine sp5 ?_ | refine sp6 ?_ | refine sp7 ?_ | refine sp8 ?_ | refine sp9 ?_ | refine sp10 ?_ | refine sp11 ?_ | refine sp12 ?_ | refine sp13 ?_ | refine sp14 ?_ | refine sp15 ?_ | refine sp16 ?_ | refine sp17 ?_ | refine sp18 ?_ | refine sp19 ?_ | refine sp22 ?_ | refine sp23 ?_ | refine sp24 ?_)) | ((with_reducible show wpAny _ _ (exec (Stmt.For (Expr.Name _ _) _ _ [] _) _) _ _ _); (with_unfolding_all refine' for_at ?F ?k1 ?k2 ?_ ?k3 ?k4; (case F => k_asm); (case k1 => exact rfl); (case k2 => exact rfl); (case k3 => intro _; rfl); (case k4 => assumption); k_whole)) | walk1 | (dsimp only; walk1) | (leave1; walk_say "STEP leave1"; try dsimp only) | fail "no step"))
          refine Stop.go ?_
          refine base_method (knd := PySem.intKind _ _) (hD0.keep (Fr.keep (by k_asm))) ?_
          (try dsimp only)
          (repeat' (first | (k_unfold; (try dsimp only)) | ((first | (with_reducible refine Then.next ?_) | (with_reducible refine Then.ret ?_) | (with_reducible refine Joined.next ?_) | (with_reducible refine Joined.ret ?_) | (with_reducible refine HidV.get (by with_reducible assumption) _ _ ?_) | (with_reducible refine Hdn.get (by with_reducible assumption) ?_) | (with_reducible refine TurnEnd.toRet ?_)); (try dsimp only)) | (k_end; wrow_close) | ((with_reducible refine hide_turn ?_); intro Q1 H1) | (with_reducible refine exec_hid ?_) | (with_reducible (first | refine sp1 ?_ | refine sp2 ?_ | refine sp3 ?_ | refine sp4 ?_ | refine sp5 ?_ | refine sp6 ?_ | refine sp7 ?_ | refine sp8 ?_ | refine sp9 ?_ | refine sp10 ?_ | refine sp11 ?_ | refine sp12 ?_ | refine sp13 ?_ | refine sp14 ?_ | refine sp15 ?_ | refine sp16 ?_ | refine sp17 ?_ | refine sp18 ?_ | refine sp19 ?_ | refine sp22 ?_ | refine sp23 ?_ | refine sp24 ?_)) | ((with_reducible show wpAny _ _ (exec (Stmt.For (Expr.Name _ _) _ _ [] _) _) _ _ _); (with_unfolding_all refine' for_at ?F ?k1 ?k2 ?_ ?k3 ?k4; (case F => k_asm); (case k1 => exact rfl); (case k2 => exact rfl); (case k3 => intro _; rfl); (case k4 => assumption); k_whole)) | walk1 | (dsimp only; walk1) | (leave1; walk_say "STEP leave1"; try dsimp only) | fail "no step"))
          refine Stop.go ?_
          rename Fr g' _ _ _ => F14
          refine base_get2 (hD0.keep F14.keep) lo7 (intKind_is _ _ _ _) ?_
          rw [hv]
          dsimp only [Option.getD]
          (repeat' (first | (k_unfold; (try dsimp only)) | ((first | (with_reducible refine Then.next ?_) | (with_reducible refine Then.ret ?_) | (with_reducible refine Joined.next ?_) | (with_reducible refine Joined.ret ?_) | (with_reducible refine HidV.get (by with_reducible assumption) _ _ ?_) | (with_reducible refine Hdn.get (by with_reducible assumption) ?_) | (with_reducible refine TurnEnd.toRet ?_)); (try dsimp only)) | (k_end; wrow_close) | ((with_reducible refine hide_turn ?_); intro Q1 H1) | (with_reducible refine exec_hid ?_) | (with_reducible (first | refine sp1 ?_ | refine sp2 ?_ | refine sp3 ?_ | refine sp4 ?_ | refine sp5 ?_ | refine sp6 ?_ | refine sp7 ?_ | refine sp8 ?_ | refine sp9 ?_ | refine sp10 ?_ | refine sp11 ?_ | refine sp12 ?_ | refine sp13 ?_ | refine sp14 ?_ | refine sp15 ?_ | refine sp16 ?_ | refine sp17 ?_ | refine sp18 ?_ | refine sp19 ?_ | refine sp22 ?_ | refine sp23 ?_ | refine sp24 ?_)) | ((with_reducible show wpAny _ _ (exec (Stmt.For (Expr.Name _ _) _ _ [] _) _) _ _ _); (with_unfolding_all refine' for_at ?F ?k1 ?k2 ?_ ?k3 ?k4; (case F => k_asm); (case k1 => exact rfl); (case k2 => exact rfl); (case k3 => intro _; rfl); (case k4 => assumption); k_whole)) | walk1 | (dsimp only; walk1) | (leave1; walk_say "STEP leave1"; try dsimp only) | fail "no step"))
          · rename (sw != sw) = true => hf
            simp at hf
          · refine Stop.go ?_
            k_dflt (refine' (c_number) _ _ _ _ _ _ _ _ _ _ _ _ _ _ _ _ ?kA ?kF ?kK ?k1 ?k2 ?k3 ?k4 ?k5 ?kd ?ku  ?_; (case kA => assumption); (case kF => exact rfl); (case kK => exact rfl); (case k1 => k_asm); (case k2 => k_asm); (case k3 => k_asm); (case k4 => k_asm); (case k5 => k_asm);  (case kd => exact room (by assumption) (by decide)); (case ku => exact room (by assumption) (by decide)); refine ⟨fun hno => absurd ew (hno _ _), ?_⟩; intro a16 k16 t16 b16 n16 lt16 hw16 h16 tk16 F16 N16)
            · refine hide_goal (fun Hq => ?_)
              obtain ⟨rfl, rfl⟩ := word_inj hw16 ew
              (try dsimp only)
              (repeat' (first | (k_unfold; (try dsimp only)) | ((first | (with_reducible refine Then.next ?_) | (with_reducible refine Then.ret ?_) | (with_reducible refine Joined.next ?_) | (with_reducible refine Joined.ret ?_) | (with_reducible refine HidV.get (by with_reducible assumption) _ _ ?_) | (with_reducible refine Hdn.get (by with_reducible assumption) ?_) | (with_reducible refine TurnEnd.toRet ?_)); (try dsimp only)) | (k_end; wrow_close) | ((with_reducible refine hide_turn ?_); intro Q1 H1) | (with_reducible refine exec_hid ?_) | (with_reducible (first | refine sp1 ?_ | refine sp2 ?_ | refine sp3 ?_ | refine sp4 ?_ | refine sp5 ?_ | refine sp6 ?_ | refine sp7 ?_ | refine sp8 ?_ | refine sp9 ?_ | refine sp10 ?_ | refine sp11 ?_ | refine sp12 ?_ | refine sp13 ?_ | refine sp14 ?_ | refine sp15 ?_ | refine sp16 ?_ | refine sp17 ?_ | refine sp18 ?_ | refine sp19 ?_ | refine sp22 ?_ | refine sp23 ?_ | refine sp24 ?_)) | ((with_reducible show wpAny _ _ (exec (Stmt.For (Expr.Name _ _) _ _ [] _) _) _ _ _); (with_unfolding_all refine' for_at ?F ?k1 ?k2 ?_ ?k3 ?k4; (case F => k_asm); (case k1 => exact rfl); (case k2 => exact rfl); (case k3 => intro _; rfl); (case k4 => assumption); k_whole)) | walk1 | (dsimp only; walk1) | (leave1; walk_say "STEP leave1"; try dsimp only) | fail "no step"))
              refine Stop.go ?_
              rename News g' _ _ _ => N17
              have x1 := N17 _ (.head _)
              have x2 := N17 _ (.tail _ (.head _))
              refine ne_pair_self ⟨_, x2.1, rfl, _, rfl⟩ ⟨_, x1.1, rfl, _, rfl⟩ (by exact room (by assumption) (by decide)) ?_
              (try dsimp only)
              (repeat' (first | (k_unfold; (try dsimp only)) | ((first | (with_reducible refine Then.next ?_) | (with_reducible refine Then.ret ?_) | (with_reducible refine Joined.next ?_) | (with_reducible refine Joined.ret ?_) | (with_reducible refine HidV.get (by with_reducible assumption) _ _ ?_) | (with_reducible refine Hdn.get (by with_reducible assumption) ?_) | (with_reducible refine TurnEnd.toRet ?_)); (try dsimp only)) | (k_end; wrow_close) | ((with_reducible refine hide_turn ?_); intro Q1 H1) | (with_reducible refine exec_hid ?_) | (with_reducible (first | refine sp1 ?_ | refine sp2 ?_ | refine sp3 ?_ | refine sp4 ?_ | refine sp5 ?_ | refine sp6 ?_ | refine sp7 ?_ | refine sp8 ?_ | refine sp9 ?_ | refine sp10 ?_ | refine sp11 ?_ | refine sp12 ?_ | refine sp13 ?_ | refine sp14 ?_ | refine sp15 ?_ | refine sp16 ?_ | refine sp17 ?_ | refine sp18 ?_ | refine sp19 ?_ | refine sp22 ?_ | refine sp23 ?_ | refine sp24 ?_)) | ((with_reducible show wpAny _ _ (exec (Stmt.For (Expr.Name _ _) _ _ [] _) _) _ _ _); (with_unfolding_all refine' for_at ?F ?k1 ?k2 ?_ ?k3 ?k4; (case F => k_asm); (case k1 => exact rfl); (case k2 => exact rfl); (case k3 => intro _; rfl); (case k4 => assumption); k_whole)) | walk1 | (dsimp only; walk1) | (leave1; walk_say "STEP leave1"; try dsimp only) | fail "no step"))
              rename Fr g' _ _ _ => F15
              rename News g' _ _ _ => N15
              exact TurnEnd.intro (news' := [(dd, oD5), (l, oL5)]) F15 (news_sub N15 (fun q hq => .tail _ (.tail _ hq))) (List.forall_mem_cons.mpr ⟨hIdd, List.forall_mem_cons.mpr ⟨hIl, fun _ h => nomatch h⟩⟩) ⟨rfl, oD5, oL5, rfl, hdk5⟩
  · intro m₁ news₁ h3 tk3 hJ F4 N4
    refine hide_goal (fun Hq => ?_)
    obtain ⟨em, oD3, oL3, rfl, hdk3⟩ := hJ
    (try dsimp only)
    (repeat' (first | (k_unfold; (try dsimp only)) | ((first | (with_reducible refine Then.next ?_) | (with_reducible refine Then.ret ?_) | (with_reducible refine Joined.next ?_) | (with_reducible refine Joined.ret ?_) | (with_reducible refine HidV.get (by with_reducible assumption) _ _ ?_) | (with_reducible refine Hdn.get (by with_reducible assumption) ?_) | (with_reducible refine TurnEnd.toRet ?_)); (try dsimp only)) | (k_end; wrow_close) | ((with_reducible refine hide_turn ?_); intro Q1 H1) | (with_reducible refine exec_hid ?_) | (with_reducible (first | refine sp1 ?_ | refine sp2 ?_ | refine sp3 ?_ | refine sp4 ?_ | refine sp5 ?_ | refine sp6 ?_ | refine sp7 ?_ | refine sp8 ?_ | refine sp9 ?_ | refine sp10 ?_ | refine sp11 ?_ | refine sp12 ?_ | refine sp13 ?_ | refine sp14 ?_ | refine sp15 ?_ | refine sp16 ?_ | refine sp17 ?_ | refine sp18 ?_ | refine sp19 ?_ | refine sp22 ?_ | refine sp23 ?_ | refine sp24 ?_)) | ((with_reducible show wpAny _ _ (exec (Stmt.For (Expr.Name _ _) _ _ [] _) _) _ _ _); (with_unfolding_all refine' for_at ?F ?k1 ?k2 ?_ ?k3 ?k4; (case F => k_asm); (case k1 => exact rfl); (case k2 => exact rfl); (case k3 => intro _; rfl); (case k4 => assumption); k_whole)) | walk1 | (dsimp only; walk1) | (leave1; walk_say "STEP leave1"; try dsimp only) | fail "no step"))
    refine Stop.go ?_
    k_dflt (refine' (c_number) _ _ _ _ _ _ _ _ _ _ _ _ _ _ _ _ ?kA ?kF ?kK ?k1 ?k2 ?k3 ?k4 ?k5 ?kd ?ku  ?_; (case kA => assumption); (case kF => exact rfl); (case kK => exact rfl); (case k1 => k_asm); (case k2 => k_asm); (case k3 => k_asm); (case k4 => k_asm); (case k5 => k_asm);  (case kd => exact room (by assumption) (by decide)); (case ku => exact room (by assumption) (by decide)); refine ⟨fun hno => ?_, fun a16 k16 t16 b16 n16 lt16 hw16 => absurd hw16 (eight_none _ _)⟩; intro h16 tk16 F16 N16)
    · (try dsimp only)
      (repeat' (first | (k_unfold; (try dsimp only)) | ((first | (with_reducible refine Then.next ?_) | (with_reducible refine Then.ret ?_) | (with_reducible refine Joined.next ?_) | (with_reducible refine Joined.ret ?_) | (with_reducible refine HidV.get (by with_reducible assumption) _ _ ?_) | (with_reducible refine Hdn.get (by with_reducible assumption) ?_) | (with_reducible refine TurnEnd.toRet ?_)); (try dsimp only)) | (k_end; wrow_close) | ((with_reducible refine hide_turn ?_); intro Q1 H1) | (with_reducible refine exec_hid ?_) | (with_reducible (first | refine sp1 ?_ | refine sp2 ?_ | refine sp3 ?_ | refine sp4 ?_ | refine sp5 ?_ | refine sp6 ?_ | refine sp7 ?_ | refine sp8 ?_ | refine sp9 ?_ | refine sp10 ?_ | refine sp11 ?_ | refine sp12 ?_ | refine sp13 ?_ | refine sp14 ?_ | refine sp15 ?_ | refine sp16 ?_ | refine sp17 ?_ | refine sp18 ?_ | refine sp19 ?_ | refine sp22 ?_ | refine sp23 ?_ | refine sp24 ?_)) | ((with_reducible show wpAny _ _ (exec (Stmt.For (Expr.Name _ _) _ _ [] _) _) _ _ _); (with_unfolding_all refine' for_at ?F ?k1 ?k2 ?_ ?k3 ?k4; (case F => k_asm); (case k1 => exact rfl); (case k2 => exact rfl); (case k3 => intro _; rfl); (case k4 => assumption); k_whole)) | walk1 | (dsimp only; walk1) | (leave1; walk_say "STEP leave1"; try dsimp only) | fail "no step"))
      refine Stop.go ?_
      k_dflt (refine' (c_new) _ _ _ _ _ _ _ _ _ _ _ _ _ _ _ _ ?kA ?kF ?kK ?k1 ?k2 ?k3 ?k4 ?k5 ?kd ?ku  ?_; (case kA => assumption); (case kF => exact rfl); (case kK => exact rfl); (case k1 => k_asm); (case k2 => k_asm); (case k3 => k_asm); (case k4 => k_asm); (case k5 => k_asm);  (case kd => exact room (by assumption) (by decide)); (case ku => exact room (by assumption) (by decide)); intro x' dx' dS' dK' t1' t2' oS' oK' l1 l2 l3 l4 lo1 lo2 hS1 hK1 h17 tk17 F17 N17)
      (try dsimp only)
      (repeat' (first | (k_unfold; (try dsimp only)) | ((first | (with_reducible refine Then.next ?_) | (with_reducible refine Then.ret ?_) | (with_reducible refine Joined.next ?_) | (with_reducible refine Joined.ret ?_) | (with_reducible refine HidV.get (by with_reducible assumption) _ _ ?_) | (with_reducible refine Hdn.get (by with_reducible assumption) ?_) | (with_reducible refine TurnEnd.toRet ?_)); (try dsimp only)) | (k_end; wrow_close) | ((with_reducible refine hide_turn ?_); intro Q1 H1) | (with_reducible refine exec_hid ?_) | (with_reducible (first | refine sp1 ?_ | refine sp2 ?_ | refine sp3 ?_ | refine sp4 ?_ | refine sp5 ?_ | refine sp6 ?_ | refine sp7 ?_ | refine sp8 ?_ | refine sp9 ?_ | refine sp10 ?_ | refine sp11 ?_ | refine sp12 ?_ | refine sp13 ?_ | refine sp14 ?_ | refine sp15 ?_ | refine sp16 ?_ | refine sp17 ?_ | refine sp18 ?_ | refine sp19 ?_ | refine sp22 ?_ | refine sp23 ?_ | refine sp24 ?_)) | ((with_reducible show wpAny _ _ (exec (Stmt.For (Expr.Name _ _) _ _ [] _) _) _ _ _); (with_unfolding_all refine' for_at ?F ?k1 ?k2 ?_ ?k3 ?k4; (case F => k_asm); (case k1 => exact rfl); (case k2 => exact rfl); (case k3 => intro _; rfl); (case k4 => assumption); k_whole)) | walk1 | (dsimp only; walk1) | (leave1; walk_say "STEP leave1"; try dsimp only) | fail "no step"))
      refine Stop.go ?_
      k_dflt (refine' (c_report (S := S0)) _ _ _ _ _ _ _ _ _ _ _ _ _ _ _ _ ?kA ?kF ?kK ?k1 ?k2 ?k3 ?k4 ?k5 ?kd ?ku ?p0 ?p1 ?p2 ?p3 ?p4 ?_; (case kA => assumption); (case kF => exact rfl); (case kK => exact rfl); (case k1 => k_asm); (case k2 => k_asm); (case k3 => k_asm); (case k4 => k_asm); (case k5 => k_asm); (case p0 => k_mem); (case p1 => k_mem); (case p2 => k_mem); (case p3 => exact hS1); (case p4 => exact lo1); (case kd => exact room (by assumption) (by decide)); (case ku => exact room (by assumption) (by decide)); intro t18 h18 tk18 F18 N18)
      rw [rep_3000]
      (try dsimp only)
      (repeat' (first | (k_unfold; (try dsimp only)) | ((first | (with_reducible refine Then.next ?_) | (with_reducible refine Then.ret ?_) | (with_reducible refine Joined.next ?_) | (with_reducible refine Joined.ret ?_) | (with_reducible refine HidV.get (by with_reducible assumption) _ _ ?_) | (with_reducible refine Hdn.get (by with_reducible assumption) ?_) | (with_reducible refine TurnEnd.toRet ?_)); (try dsimp only)) | (k_end; wrow_close) | ((with_reducible refine hide_turn ?_); intro Q1 H1) | (with_reducible refine exec_hid ?_) | (with_reducible (first | refine sp1 ?_ | refine sp2 ?_ | refine sp3 ?_ | refine sp4 ?_ | refine sp5 ?_ | refine sp6 ?_ | refine sp7 ?_ | refine sp8 ?_ | refine sp9 ?_ | refine sp10 ?_ | refine sp11 ?_ | refine sp12 ?_ | refine sp13 ?_ | refine sp14 ?_ | refine sp15 ?_ | refine sp16 ?_ | refine sp17 ?_ | refine sp18 ?_ | refine sp19 ?_ | refine sp22 ?_ | refine sp23 ?_ | refine sp24 ?_)) | ((with_reducible show wpAny _ _ (exec (Stmt.For (Expr.Name _ _) _ _ [] _) _) _ _ _); (with_unfolding_all refine' for_at ?F ?k1 ?k2 ?_ ?k3 ?k4; (case F => k_asm); (case k1 => exact rfl); (case k2 => exact rfl); (case k3 => intro _; rfl); (case k4 => assumption); k_whole)) | walk1 | (dsimp only; walk1) | (leave1; walk_say "STEP leave1"; try dsimp only) | fail "no step"))
      exact hret _ _ _ (by k_asm) (by k_asm)
end
end
section
section
variable {prog : Program} {w : World} {A : Around} {E : Value → Shared → Prop} {s : Shared} {h₀ : Heap} {L d : Addr} {m : Str → Option Value} {news : List (Addr × Obj)} {kvs : List (Int × Value)} {l : List (Int × Str)}
theorem base_values_method {pl : Sem Bool} {Q : Value × List Value → Shared → Prop} (hD : s.heap.DictOf (PySem.intKind prog w) d kvs) (h : Q (.builtin "dict.values", [.ref d]) s) : wpAny (model prog w) A (getMethod (.ref d) "values" pl) Q E s :=
  getMethod_builtin hD.typeIs PySem.F.plainAttrs_dict PySem.F.slot_dict_values PySem.F.type_dict_values hD.mapOf.noDict h
theorem base_values_call {Q : Value → Shared → Prop} (F : Fr h₀ L s.heap m) (N : News h₀ L s.heap news) (hD : s.heap.DictOf (PySem.intKind prog w) d kvs) (lo : (d == sysModules) = false)
    (h : ∀ (D : Addr) h', Fr h₀ L h' m → News h₀ L h' ((D, { cls := .type "dict_values", data := .fields #[.ref d] }) :: news) → (∀ q ∈ news, q.1 < D) → Q (.ref D) { s with heap := h' }) :
    wpAny (model prog w) A (call (.builtin "dict.values") [.ref d]) Q E s :=
  call_meetsIn PySem.F.slot_dict_values hD.typeIs PySem.F.entry_dict_values (PySem.F.args_dict_values_1 _) (meets_dict_values (PySem.intKind prog w) d lo) ⟨⟨kvs, hD⟩, h _ _ (F.push _) (News.push F N _) fun q hq => Heap.lt_size (N q hq).1⟩
theorem sv_strs : ∀ {kvs : List (Int × Value)} {l : List (Int × Str)}, SV kvs l → StrsAre (kvs.map (·.2)) (l.map (·.2))
  | [], [], _ => .nil
  | (k, v) :: kvs, (j, x) :: l, h => by
    obtain ⟨⟨_, t, e⟩, h2⟩ := h
    have e' : v = .str x t := e
    subst e'
    exact .cons x t (sv_strs h2)
  | [], _ :: _, h => h.elim
  | _ :: _, [], h => h.elim
theorem base_values_list {v : Addr} {Q : Value → Shared → Prop} (hh : A.handled = none) (F : Fr h₀ L s.heap m) (N : News h₀ L s.heap news) (hv : (v, ({ cls := .type "dict_values", data := .fields #[.ref d] } : Obj)) ∈ news) (hD : s.heap.DictOf (PySem.intKind prog w) d kvs) (hS : SV kvs l) (hn : kvs.length ≤ 1000)
    (h : ∀ (B : Addr) c h' tk vs, Fr h₀ L h' m → News h₀ L h' ((B, listOf vs.toArray c) :: news) → (∀ q ∈ news, q.1 < B) → StrsAre vs (l.map (·.2)) → Q (.ref B) { s with heap := h', toks := tk }) :
    wpAny (model prog w) A (call (.type "list") [.ref v]) Q E s := by
  obtain ⟨ep, hat⟩ := hD.dictAt
  refine kdl_N (kdl_values (knd := PySem.intKind prog w) (kvs := kvs) (ep := ep)) hh F N ⟨⟨_, (N _ hv).1, rfl, rfl⟩, hat⟩ (kdl_size (by (first | lia | omega))) fun B c h' tk vs F' N' l1 hl hv => ?_
  rw [kdl_vals_eq vs hl hv] at N'
  exact h B c h' tk _ F' N' l1 (sv_strs hS)
theorem add_listsD {l b : Addr} {vs ws : List Value} {n k : Nat} {Q : Value → Shared → Prop} (F : Fr h₀ L s.heap m) (N : News h₀ L s.heap news) (hl : (l, listOf vs.toArray n) ∈ news) (hb : (b, listOf ws.toArray k) ∈ news) (hz : vs.length + ws.length ≤ 1000)
    (h : ∀ (D : Addr) h', Fr h₀ L h' m → News h₀ L h' ((D, listOf (vs ++ ws).toArray 0) :: news) → (∀ q ∈ news, q.1 < D) → Q (.ref D) { s with heap := h' }) :
    wpAny (model prog w) A (binaryOp .Add (.ref l) (.ref b)) Q E s :=
  add_lists F N ⟨_, (N _ hl).1, rfl, _, rfl⟩ ⟨_, (N _ hb).1, rfl, _, rfl⟩ (fun h' F' N' => h _ h' F' N' fun q hq => Heap.lt_size (N q hq).1) (by rw [sizeLine_eq]; (first | lia | omega))
end
noncomputable def LL (C1 C2 x dx dS dK dT dKK dd l : Addr) (c1 c2 oX oS oK oT oKK oD oL : Obj) : List (Addr × Obj) :=
  [(C1, c1), (C2, c2), (x, instObj 77 dx), (dx, oX), (dS, oS), (dK, oK), (dT, oT), (dKK, oKK), (dd, oD), (l, oL)]
noncomputable def LKeys (C1 C2 x dx dS dK dT dKK dd l : Addr) : List Addr := [C1, C2, x, dx, dS, dK, dT, dKK, dd, l]
section
variable {C1 C2 x dx dS dK dT dKK dd l : Addr} {c1 c2 oX oS oK oT oKK oD oL : Obj}
theorem updL_nodup {a b : List (Addr × Obj)} {d : Addr} {o o' : Obj} (h : ((a ++ (d, o) :: b).map (·.1)).Nodup) : updL (a ++ (d, o) :: b) d o' = a ++ (d, o') :: b := by
  rw [List.map_append, List.map_cons, List.nodup_append] at h
  have hb := (List.nodup_cons.mp h.2.1).1
  rw [updL_append, updL_off (fun p hp e => h.2.2 _ (List.mem_map_of_mem (f := (·.1)) hp) d (.head _) e)]
  congr 1
  unfold updL
  rw [List.map_cons, if_pos rfl]
  congr 1
  exact updL_off fun p hp e => hb (by rw [← e]; exact List.mem_map_of_mem (f := (·.1)) hp)
theorem LL_S (hn : (LKeys C1 C2 x dx dS dK dT dKK dd l).Nodup) (o : Obj) : updL (LL C1 C2 x dx dS dK dT dKK dd l c1 c2 oX oS oK oT oKK oD oL) dS o = LL C1 C2 x dx dS dK dT dKK dd l c1 c2 oX o oK oT oKK oD oL := updL_nodup (a := [(C1, c1), (C2, c2), (x, instObj 77 dx), (dx, oX)]) (b := [(dK, oK), (dT, oT), (dKK, oKK), (dd, oD), (l, oL)]) hn
theorem LL_K (hn : (LKeys C1 C2 x dx dS dK dT dKK dd l).Nodup) (o : Obj) : updL (LL C1 C2 x dx dS dK dT dKK dd l c1 c2 oX oS oK oT oKK oD oL) dK o = LL C1 C2 x dx dS dK dT dKK dd l c1 c2 oX oS o oT oKK oD oL := updL_nodup (a := [(C1, c1), (C2, c2), (x, instObj 77 dx), (dx, oX), (dS, oS)]) (b := [(dT, oT), (dKK, oKK), (dd, oD), (l, oL)]) hn
theorem LL_T (hn : (LKeys C1 C2 x dx dS dK dT dKK dd l).Nodup) (o : Obj) : updL (LL C1 C2 x dx dS dK dT dKK dd l c1 c2 oX oS oK oT oKK oD oL) dT o = LL C1 C2 x dx dS dK dT dKK dd l c1 c2 oX oS oK o oKK oD oL := updL_nodup (a := [(C1, c1), (C2, c2), (x, instObj 77 dx), (dx, oX), (dS, oS), (dK, oK)]) (b := [(dKK, oKK), (dd, oD), (l, oL)]) hn
theorem LL_KK (hn : (LKeys C1 C2 x dx dS dK dT dKK dd l).Nodup) (o : Obj) : updL (LL C1 C2 x dx dS dK dT dKK dd l c1 c2 oX oS oK oT oKK oD oL) dKK o = LL C1 C2 x dx dS dK dT dKK dd l c1 c2 oX oS oK oT o oD oL := updL_nodup (a := [(C1, c1), (C2, c2), (x, instObj 77 dx), (dx, oX), (dS, oS), (dK, oK), (dT, oT)]) (b := [(dd, oD), (l, oL)]) hn
theorem LL_D (hn : (LKeys C1 C2 x dx dS dK dT dKK dd l).Nodup) (o : Obj) : updL (LL C1 C2 x dx dS dK dT dKK dd l c1 c2 oX oS oK oT oKK oD oL) dd o = LL C1 C2 x dx dS dK dT dKK dd l c1 c2 oX oS oK oT oKK o oL := updL_nodup (a := [(C1, c1), (C2, c2), (x, instObj 77 dx), (dx, oX), (dS, oS), (dK, oK), (dT, oT), (dKK, oKK)]) (b := [(l, oL)]) hn
theorem LL_L (hn : (LKeys C1 C2 x dx dS dK dT dKK dd l).Nodup) (o : Obj) : updL (LL C1 C2 x dx dS dK dT dKK dd l c1 c2 oX oS oK oT oKK oD oL) l o = LL C1 C2 x dx dS dK dT dKK dd l c1 c2 oX oS oK oT oKK oD o := updL_nodup (a := [(C1, c1), (C2, c2), (x, instObj 77 dx), (dx, oX), (dS, oS), (dK, oK), (dT, oT), (dKK, oKK), (dd, oD)]) (b := []) hn
end
end
section
theorem wordB_true (k : Int) : wordB k true = getB privL k := by unfold wordB; rw [if_pos rfl]
theorem nodup_storeB {K V : Type} [DecidableEq K] {S : List (K × V)} (h : (S.map (·.1)).Nodup) (k : K) (v : V) : ((storeB S k v).map (·.1)).Nodup := by
  by_cases hk : k ∈ S.map (·.1)
  · rw [keys_storeB_old S k v hk]; exact h
  · have hA : ¬ (S.any fun p => decide (p.1 = k)) = true := by
      intro e
      obtain ⟨p, hp, e⟩ := List.any_eq_true.mp e
      exact hk (List.mem_map.mpr ⟨p, hp, by simpa using e⟩)
    unfold storeB
    rw [if_neg hA, List.map_append, List.nodup_append]
    refine ⟨h, by simp, fun a ha b hb e => ?_⟩
    simp only [List.map_cons, List.map_nil, List.mem_singleton] at hb
    exact hk (by rw [← hb, ← e]; exact ha)
theorem nodup_foldl_false : ∀ (g : List Str) (S : List (Str × Bool)), (S.map (·.1)).Nodup → ((g.foldl (fun S o => storeB S o false) S).map (·.1)).Nodup
  | [], _, h => h
  | o :: g, S, h => by rw [List.foldl_cons]; exact nodup_foldl_false g _ (nodup_storeB h o false)
theorem nodup_setB {S : List (Str × Bool)} (h : (S.map (·.1)).Nodup) (w : Str) (b : Bool) : ((setB S w b).map (·.1)).Nodup := by
  unfold setB
  refine nodup_storeB ?_ _ _
  cases b with
  | false => simpa using h
  | true => simp only [if_true]; exact nodup_foldl_false _ _ h
theorem groupOf_words {w k : Str} (h : k ∈ groupOf w) : k ∈ words41 := by
  unfold groupOf at h
  split at h
  · exact group_words (.head _) h
  · split at h
    · exact group_words (.tail _ (.head _)) h
    · cases h
theorem Okay.set {S : List (Str × Bool)} (h : Okay S) {w : Str} (hw : w ∈ words41) (b : Bool) : Okay (setB S w b) := by
  refine ⟨nodup_setB h.1 w b, fun k hk => ?_⟩
  rw [keys_setB] at hk
  rcases hk with rfl | ⟨_, hg⟩ | hk
  · exact hw
  · exact groupOf_words hg
  · exact h.2 k hk
theorem Agree.set {S T : List (Str × Bool)} (h : Agree S T) {w : Str} (hw : w ∈ words41) (b : Bool) : Agree (setB S w b) (setB T w b) := by
  refine ⟨h.1.set hw b, h.2.1.set hw b, fun k hk => ?_⟩
  unfold onB
  rw [getB_setB, getB_setB]
  by_cases e : k = w
  · simp [e]
  · rw [if_neg e, if_neg e]
    by_cases e2 : b = true ∧ k ∈ groupOf w
    · rw [if_pos e2, if_pos e2]; rfl
    · rw [if_neg e2, if_neg e2]
      exact h.2.2 k hk
theorem Agree.at {S T : List (Str × Bool)} (h : Agree S T) {k : Str} (hk : k ∈ words41) : getB T k = some (onB S k) := h.2.2 k hk
def KeptOk (K : List (Str × Bool)) (KK : List (Int × Bool)) : Prop :=
  (K.map (·.1)).Nodup ∧ (KK.map (·.1)).Nodup ∧ (∀ k ∈ KK.map (·.1), k ∈ numsL) ∧ (∀ n w, wordB n true = some w → getB K w = getB KK n) ∧ K.length ≤ 41
theorem KeptOk.nil : KeptOk [] [] := ⟨List.nodup_nil, List.nodup_nil, fun _ h => (by cases h), fun _ _ _ => rfl, Nat.zero_le _⟩
theorem KeptOk.save {K : List (Str × Bool)} {KK : List (Int × Bool)} (h : KeptOk K KK) (hK : Okay K) {n : Int} {w : Str} (hn : n ∈ numsL) (hw : getB privL n = some w) (b : Bool) : KeptOk (storeB K w b) (storeB KK n b) ∧ Okay (storeB K w b) := by
  have hO : Okay (storeB K w b) := ⟨nodup_storeB hK.1 _ _, fun k hk => by
    rw [keys_storeB] at hk
    rcases hk with rfl | hk
    · have := List.mem_map_of_mem (f := (·.2)) (getB_some_mem hw)
      exact List.mem_append_left _ (List.mem_append_left _ this)
    · exact hK.2 k hk⟩
  refine ⟨⟨hO.1, nodup_storeB h.2.1 _ _, fun k hk => ?_, fun n' w' hw' => ?_, hO.length⟩, hO⟩
  · rw [keys_storeB] at hk
    rcases hk with rfl | hk
    · exact hn
    · exact h.2.2.1 k hk
  · rw [getB_storeB, getB_storeB]
    have hwn : wordB n true = some w := by rw [wordB_true]; exact hw
    by_cases e : n' = n
    · subst e
      have : w' = w := by rw [hwn] at hw'; cases hw'; rfl
      rw [if_pos this, if_pos rfl]
    · rw [if_neg e, if_neg (fun ew => e (by subst ew; exact (word_inj hw' hwn).1))]
      exact h.2.2.2.1 n' w' hw'
theorem saveB_num {S K : List (Str × Bool)} {n : Int} {w : Str} (hw : getB privL n = some w) : saveB S K n = storeB K w (onB S w) := by
  unfold saveB
  rw [wordB_true, hw]
theorem no_3000 : wordB 3000 true = none := by rw [wordB_true]; decide +kernel
theorem saveB_3000 {S K : List (Str × Bool)} : saveB S K 3000 = K := by
  unfold saveB
  rw [no_3000]
theorem KeptOk.kept {K : List (Str × Bool)} {KK : List (Int × Bool)} (h : KeptOk K KK) {n : Int} {w : Str} (hw : getB privL n = some w) : getB K w = getB KK n := h.2.2.2.1 n w (by rw [wordB_true]; exact hw)
theorem savedB_one {K : List (Str × Bool)} {KK : List (Int × Bool)} (h : KeptOk K KK) {n : Int} {w : Str} (hw : getB privL n = some w) : savedB K [n] = match getB KK n with | none => [] | some b => [(w, b)] := by
  unfold savedB savedRow
  rw [List.filterMap_cons, wordB_true, hw]
  simp only [List.filterMap_nil]
  rw [h.kept hw]
  cases getB KK n <;> rfl
noncomputable def wd (n : Int) : Str := (getB privL n).getD (Str.ofString "")
noncomputable def rowsB (KK : List (Int × Bool)) : List (Str × Bool) := KK.map fun p => (wd p.1, p.2)
theorem wd_of {n : Int} {w : Str} (h : getB privL n = some w) : wd n = w := by unfold wd; rw [h]; rfl
theorem wd_some {n : Int} (h : n ∈ numsL) : getB privL n = some (wd n) := by
  obtain ⟨s, h1, _⟩ := nums_words h
  rw [wd_of h1, h1]
theorem wd_inj {n k : Int} (h : n ∈ numsL) (h' : k ∈ numsL) (e : wd n = wd k) : n = k := by
  have h1 := wd_some h
  have h2 := wd_some h'
  rw [← e] at h2
  exact (word_inj (b := true) (b' := true) (by rw [wordB_true]; exact h1) (by rw [wordB_true]; exact h2)).1
theorem nums_nodup : numsL.Nodup := by decide +kernel
theorem rows_nodup {K : List (Str × Bool)} {KK : List (Int × Bool)} (h : KeptOk K KK) : ((rowsB KK).map (·.1)).Nodup := by
  unfold rowsB
  rw [List.map_map]
  have h2 : KK.Pairwise (fun p q => p.1 ≠ q.1) := List.pairwise_map.mp h.2.1
  refine List.pairwise_map.mpr (h2.imp_of_mem fun {p q} hp hq hne e => hne ?_)
  exact wd_inj (h.2.2.1 _ (List.mem_map_of_mem hp)) (h.2.2.1 _ (List.mem_map_of_mem hq)) e
theorem savedRow_num {K : List (Str × Bool)} {KK : List (Int × Bool)} (h : KeptOk K KK) {n : Int} (hn : n ∈ numsL) : savedRow K n = (getB KK n).map fun b => (wd n, b) := by
  unfold savedRow
  rw [wordB_true, wd_some hn]
  show (getB K (wd n)).map _ = _
  rw [h.kept (wd_some hn)]
theorem fm_congr {α β : Type} {f g : α → Option β} : ∀ {l : List α}, (∀ x ∈ l, f x = g x) → l.filterMap f = l.filterMap g
  | [], _ => rfl
  | x :: l, h => by rw [List.filterMap_cons, List.filterMap_cons, h x (.head _), fm_congr fun y hy => h y (.tail _ hy)]
theorem saved_all {K : List (Str × Bool)} {KK : List (Int × Bool)} (h : KeptOk K KK) : savedB K (3000 :: numsL) = numsL.filterMap fun n => (getB KK n).map fun b => (wd n, b) := by
  unfold savedB
  have e : savedRow K 3000 = none := by unfold savedRow; rw [no_3000]
  rw [List.filterMap_cons, e]
  exact fm_congr fun n hn => savedRow_num h hn
theorem saved_nodup {K : List (Str × Bool)} {KK : List (Int × Bool)} (h : KeptOk K KK) : ((savedB K (3000 :: numsL)).map (·.1)).Nodup := by
  rw [saved_all h]
  refine List.pairwise_map.mpr (List.pairwise_filterMap.mpr (nums_nodup.imp_of_mem fun {n k} hn hk hne => ?_))
  intro p hp q hq e
  cases e1 : getB KK n with
  | none => rw [e1] at hp; cases hp
  | some b =>
    cases e2 : getB KK k with
    | none => rw [e2] at hq; cases hq
    | some c =>
      rw [e1] at hp; rw [e2] at hq
      cases hp; cases hq
      exact hne (wd_inj hn hk e)
theorem nodup_of_keys {α β : Type} {l : List (α × β)} (h : (l.map (·.1)).Nodup) : l.Nodup :=
  (List.pairwise_map.mp h).imp fun hne e => hne (by rw [e])
theorem saved_perm {K : List (Str × Bool)} {KK : List (Int × Bool)} (h : KeptOk K KK) : (savedB K (3000 :: numsL)).Perm (rowsB KK) := by
  refine (List.perm_ext_iff_of_nodup (nodup_of_keys (saved_nodup h)) (nodup_of_keys (rows_nodup h))).mpr fun p => ?_
  rw [saved_all h, List.mem_filterMap]
  unfold rowsB
  rw [List.mem_map]
  constructor
  · rintro ⟨n, hn, e⟩
    cases e1 : getB KK n with
    | none => rw [e1] at e; cases e
    | some b =>
      rw [e1] at e
      cases e
      exact ⟨(n, b), getB_some_mem e1, rfl⟩
  · rintro ⟨⟨n, b⟩, hm, rfl⟩
    refine ⟨n, h.2.2.1 n (List.mem_map_of_mem (f := (·.1)) hm), ?_⟩
    rw [getB_mem h.2.1 hm]; rfl
theorem KeptOk.length {K : List (Str × Bool)} {KK : List (Int × Bool)} (h : KeptOk K KK) : KK.length ≤ 18 := by
  have := nodup_sub_length h.2.1 h.2.2.1
  rw [List.length_map, nums_length] at this; exact this
theorem wd_words {n : Int} (h : n ∈ numsL) : wd n ∈ words41 := by
  obtain ⟨s, h1, h2⟩ := nums_words h
  rw [wd_of h1]; exact h2
theorem rows_strOk {K : List (Str × Bool)} {KK : List (Int × Bool)} (h : KeptOk K KK) : ∀ p ∈ rowsB KK, PyData.strOk p.1 = true := fun p hp => by
  unfold rowsB at hp
  obtain ⟨q, hq, rfl⟩ := List.mem_map.mp hp
  exact words_ok _ (wd_words (h.2.2.1 _ (List.mem_map_of_mem hq)))
theorem repB_word {S : List (Str × Bool)} {n : Int} {w : Str} (h : getB privL n = some w) : repB S n true = if onB S w = true then 1 else 2 := by
  unfold repB
  rw [wordB_true, h]
theorem late_group {n : Int} {w : Str} (h : n ∈ numsL.drop 8) (hw : getB privL n = some w) : groupOf w = [] := by
  have h1 : (numsL.drop 8).all (fun n => (getB privL n).all fun w => (groupOf w).isEmpty) = true := by decide +kernel
  have h2 := List.all_eq_true.mp h1 n h
  rw [hw] at h2
  simpa using h2
theorem onB_setB_late {S : List (Str × Bool)} {w : Str} (hg : groupOf w = []) (b : Bool) (k : Str) : onB (setB S w b) k = if k = w then b else onB S k := by
  unfold onB
  rw [getB_setB, hg]
  by_cases h : k = w
  · simp [h]
  · simp [h]
theorem late_differs {S : List (Str × Bool)} {w : Str} (hg : groupOf w = []) : ¬ ∀ k, onB (setB S w (!onB S w)) k = onB S k := by
  intro h
  have := h w
  rw [onB_setB_late hg, if_pos rfl] at this
  cases e : onB S w <;> rw [e] at this <;> cases this
theorem late_back {S : List (Str × Bool)} {w : Str} (hg : groupOf w = []) (b : Bool) : ∀ k, onB (setB (setB S w b) w (onB S w)) k = onB S k := fun k => by
  rw [onB_setB_late hg]
  by_cases h : k = w
  · rw [if_pos h, h]
  · rw [if_neg h, onB_setB_late hg, if_neg h]
theorem S0_okay : Okay S0 := by
  have h1 : (S0.map (·.1)).Nodup := by decide +kernel
  have h2 : (S0.map (·.1)).all (fun k => words41.any (· == k)) = true := by decide +kernel
  refine ⟨h1, fun k hk => ?_⟩
  obtain ⟨y, hy, e⟩ := List.any_eq_true.mp (List.all_eq_true.mp h2 k hk)
  have : y = k := by simpa using e
  rw [← this]; exact hy
noncomputable def T0 : List (Str × Bool) := words41.map fun k => (k, onB S0 k)
theorem T0_keys : T0.map (·.1) = words41 := by unfold T0; rw [List.map_map]; exact List.map_id _
theorem agree0 : Agree S0 T0 := by
  refine ⟨S0_okay, ⟨by rw [T0_keys]; exact words_nodup, fun k hk => by rw [T0_keys] at hk; exact hk⟩, fun k hk => ?_⟩
  have hm : (k, onB S0 k) ∈ T0 := List.mem_map_of_mem (f := fun k => (k, onB S0 k)) hk
  exact getB_mem (p := (k, onB S0 k)) (by rw [T0_keys]; exact words_nodup) hm
end
section
theorem lt_cons {news : List (Addr × Obj)} {D D' : Addr} {o : Obj} (h : ∀ q ∈ news, q.1 < D) (h' : @LT.lt Nat _ D D') : ∀ q ∈ (D, o) :: news, q.1 < D' := fun q hq => by
  rcases List.mem_cons.mp hq with rfl | hq
  · exact h'
  · exact Nat.lt_trans (h q hq) h'
theorem off_ne {news : List (Addr × Obj)} {D d : Addr} {o : Obj} (h : ∀ q ∈ news, q.1 < D) (hm : (d, o) ∈ news) : D ≠ d := Nat.ne_of_gt (h _ hm)
section
variable {w : World} {p : Program} {loose : List Str} {mean : ExcName → Option Value} {mg mb : Str → Option Value}
variable {A : Around} {env : Env} {outer : List Env} {A₀ : Around} {base h₀ : Heap} {L : Addr} {m : Str → Option Value} {hp0 : Heap} {G0 : Array GenState} {Dr0 : Drawn} {tk0 : Nat} {O0 : OsState} {Q E : Value → Shared → Prop}
variable {x dx dS dK dT dd l : Addr} {t1 t2 : Tok} {n : Nat} {oS oK oT oD oL : Obj} {S T K : List (Str × Bool)} {news : List (Addr × Obj)}
structure MdAt (w : World) (news : List (Addr × Obj)) (x dx dS dK : Addr) (t1 t2 : Tok) (n : Nat) (oS : Obj) (S : List (Str × Bool)) : Prop where
  hx : (x, instObj 77 dx) ∈ news
  hdx : (dx, mdDict w t1 t2 n dS dK) ∈ news
  hdS : (dS, oS) ∈ news
  hS : oS.IsDictOf (strKind PG w) (vals S)
  lo : (dS == sysModules) = false
theorem u_new (hAf : A.frames = some (env :: outer)) (hf : env.frame = some L) (hke : env.scope.kind = .function) (B : Below A₀ base outer h₀) (F : Fr h₀ L hp0 m) (X : (hd.heap_39 w.params).In h₀) (N : News h₀ L hp0 news) (TT : Top p loose mean mg mb h₀) (hdp : A.depth + 2 < recursionLimit) (hun : A.units + 8 * 2 < cLine)
    (k : ∀ x dx dS dK t1 t2 oS oK h' tk', Fr h₀ L h' m → News h₀ L h' ((dS, oS) :: (dK, oK) :: (x, instObj 77 dx) :: (dx, mdDict w t1 t2 2 dS dK) :: news) → (∀ q ∈ news, q.1 < dx) → (∀ q ∈ (dx, mdDict w t1 t2 2 dS dK) :: news, q.1 < x) → (∀ q ∈ (x, instObj 77 dx) :: (dx, mdDict w t1 t2 2 dS dK) :: news, q.1 < dS) → (∀ q ∈ (dS, oS) :: (x, instObj 77 dx) :: (dx, mdDict w t1 t2 2 dS dK) :: news, q.1 < dK) →
      (dS == sysModules) = false → (dK == sysModules) = false → oS.IsDictOf (strKind PG w) (vals S0) → oK.IsDictOf (strKind PG w) (vals ([] : List (Str × Bool))) → Q (.ref x) ⟨h', G0, Dr0, tk', O0⟩) :
    wpAny (model PG w) (Clm A) (call (.ref 77) []) Q E ⟨hp0, G0, Dr0, tk0, O0⟩ :=
  c_new A env outer A₀ base h₀ L m _ hp0 G0 Dr0 tk0 O0 Q E hAf hf hke B F X N TT hdp hun  fun x dx dS dK t1 t2 oS oK a1 a2 a3 a4 a5 a6 a7 a8 h' tk' F' N' => k x dx dS dK t1 t2 oS oK h' tk' F' N' a1 (lt_cons a1 a2) (lt_cons (lt_cons a1 a2) a3) (lt_cons (lt_cons (lt_cons a1 a2) a3) a4) a5 a6 a7 a8
theorem u_isOn {t : Tok} {word : Str} (hAf : A.frames = some (env :: outer)) (hf : env.frame = some L) (hke : env.scope.kind = .function) (B : Below A₀ base outer h₀) (F : Fr h₀ L hp0 m) (X : (hd.heap_39 w.params).In h₀) (N : News h₀ L hp0 news) (TT : Top p loose mean mg mb h₀) (md : MdAt w news x dx dS dK t1 t2 n oS S) (hdp : A.depth + 1 < recursionLimit) (hun : A.units + 8 * 1 < cLine)
    (k : ∀ h' tk', Fr h₀ L h' m → News h₀ L h' news → Q (.bool (onB S word)) ⟨h', G0, Dr0, tk', O0⟩) :
    wpAny (model PG w) (Clm A) (call (.ref 67) [.ref x, .str word t]) Q E ⟨hp0, G0, Dr0, tk0, O0⟩ :=
  c_isOn A env outer A₀ base h₀ L m _ hp0 G0 Dr0 tk0 O0 Q E hAf hf hke B F X N TT hdp hun md.hx md.hdx md.hdS md.hS md.lo fun h' tk' F' N' => k h' tk' F' N'
theorem u_copy (hS0 : S.length ≤ 1000) (hK0 : K.length ≤ 1000) (hAf : A.frames = some (env :: outer)) (hf : env.frame = some L) (hke : env.scope.kind = .function) (B : Below A₀ base outer h₀) (F : Fr h₀ L hp0 m) (X : (hd.heap_39 w.params).In h₀) (N : News h₀ L hp0 news) (TT : Top p loose mean mg mb h₀) (md : MdAt w news x dx dS dK t1 t2 n oS S)
    (hdK : (dK, oK) ∈ news) (hK : oK.IsDictOf (strKind PG w) (vals K)) (loK : (dK == sysModules) = false) (hdp : A.depth + 4 < recursionLimit) (hun : A.units + 8 * 4 < cLine)
    (k : ∀ x' dx' dS' dK' t1' t2' oS' oK' h' tk', Fr h₀ L h' m → News h₀ L h' ((dK', oK') :: (dS', oS') :: (x', instObj 77 dx') :: (dx', mdDict w t1' t2' 2 dS' dK') :: news) → (∀ q ∈ news, q.1 < dx') → (∀ q ∈ (dx', mdDict w t1' t2' 2 dS' dK') :: news, q.1 < x') → (∀ q ∈ (x', instObj 77 dx') :: (dx', mdDict w t1' t2' 2 dS' dK') :: news, q.1 < dS') → (∀ q ∈ (dS', oS') :: (x', instObj 77 dx') :: (dx', mdDict w t1' t2' 2 dS' dK') :: news, q.1 < dK') →
      (dS' == sysModules) = false → oS'.IsDictOf (strKind PG w) (vals S) → Q (.ref x') ⟨h', G0, Dr0, tk', O0⟩) :
    wpAny (model PG w) (Clm A) (call (.ref 121) [.ref x]) Q E ⟨hp0, G0, Dr0, tk0, O0⟩ :=
  c_copy hS0 hK0 A env outer A₀ base h₀ L m _ hp0 G0 Dr0 tk0 O0 Q E hAf hf hke B F X N TT hdp hun md.hx md.hdx md.hdS md.hS md.lo hdK hK loK fun x' dx' dS' dK' t1' t2' oS' oK' a1 a2 a3 a4 a5 a6 a7 a8 h' tk' F' N' => k x' dx' dS' dK' t1' t2' oS' oK' h' tk' F' N' a1 (lt_cons a1 a2) (lt_cons (lt_cons a1 a2) a3) (lt_cons (lt_cons (lt_cons a1 a2) a3) a4) a5 a7
theorem u_same {x' dx' dS' dK' : Addr} {t1' t2' : Tok} {n' : Nat} {oS' : Obj} {S' : List (Str × Bool)} (hS0 : Okay S) (hS0' : Okay S') (hAf : A.frames = some (env :: outer)) (hf : env.frame = some L) (hke : env.scope.kind = .function) (B : Below A₀ base outer h₀) (F : Fr h₀ L hp0 m) (X : (hd.heap_39 w.params).In h₀) (N : News h₀ L hp0 news) (TT : Top p loose mean mg mb h₀)
    (md : MdAt w news x dx dS dK t1 t2 n oS S) (md' : MdAt w news x' dx' dS' dK' t1' t2' n' oS' S') (b : Bool) (hb : b = true ↔ ∀ k, onB S k = onB S' k) (hdp : A.depth + 12 < recursionLimit) (hun : A.units + 8 * 12 < cLine)
    (k : ∀ h' tk', Fr h₀ L h' m → News h₀ L h' news → Q (.bool b) ⟨h', G0, Dr0, tk', O0⟩) :
    wpAny (model PG w) (Clm A) (call (.ref 114) [.ref x, .ref x']) Q E ⟨hp0, G0, Dr0, tk0, O0⟩ :=
  c_same hS0 hS0' A env outer A₀ base h₀ L m _ hp0 G0 Dr0 tk0 O0 Q E hAf hf hke B F X N TT hdp hun md.hx md.hdx md.hdS md.hS md.lo md'.hx md'.hdx md'.hdS md'.hS md'.lo fun c h2 h' tk' F' N' => by
    have e : c = b := Bool.eq_iff_iff.mpr (h2.trans hb.symm)
    exact e ▸ k h' tk' F' N'
theorem u_number {t : Tok} {word : Str} {i : Int} (hw : getB privL i = some word) (hAf : A.frames = some (env :: outer)) (hf : env.frame = some L) (hke : env.scope.kind = .function) (B : Below A₀ base outer h₀) (F : Fr h₀ L hp0 m) (X : (hd.heap_39 w.params).In h₀) (N : News h₀ L hp0 news) (TT : Top p loose mean mg mb h₀) (hdp : A.depth + 2 < recursionLimit) (hun : A.units + 8 * 2 < cLine)
    (k : ∀ D u c h' tk', Fr h₀ L h' m → News h₀ L h' ((D, tupO [.int i u, .bool true] c) :: news) → Q (.ref D) ⟨h', G0, Dr0, tk', O0⟩) :
    wpAny (model PG w) (Clm A) (call (.ref 39) [.str word t]) Q E ⟨hp0, G0, Dr0, tk0, O0⟩ :=
  c_number A env outer A₀ base h₀ L m _ hp0 G0 Dr0 tk0 O0 Q E hAf hf hke B F X N TT hdp hun ⟨fun h3 => absurd ((wordB_true _).trans hw) (h3 true i), fun D j u b c _ h3 h' tk' F' N' => by
    obtain ⟨rfl, rfl⟩ := word_inj h3 ((wordB_true _).trans hw)
    exact k D u c h' tk' F' N'⟩
end
theorem updL_pre {pre : List (Addr × Obj)} {d : Addr} {o : Obj} (h : ∀ p ∈ pre, p.1 ≠ d) (LS : List (Addr × Obj)) : updL (pre ++ LS) d o = pre ++ updL LS d o := by
  unfold updL
  rw [List.map_append]
  congr 1
  refine (List.map_congr_left fun p hp => ?_).trans (List.map_id _)
  simp [h p hp]
structure LawI (w : World) (dS dK dT dKK dd l : Addr) (oS oK oT oKK oD oL : Obj) (S T K : List (Str × Bool)) (KK : List (Int × Bool)) : Prop where
  hS : oS.IsDictOf (strKind PG w) (vals S)
  hK : oK.IsDictOf (strKind PG w) (vals K)
  hT : oT.IsDictOf (strKind PG w) (vals T)
  hKK : oKK.IsDictOf (intKind PG w) (vals KK)
  dk : DeckO w oD oL l
  ag : Agree S T
  kp : KeptOk K KK
  ok : Okay K
structure LawA (C1 C2 x dx dS dK dT dKK dd l : Addr) (c1 c2 : Obj) : Prop where
  nd : (LKeys C1 C2 x dx dS dK dT dKK dd l).Nodup
  loS : (dS == sysModules) = false
  loK : (dK == sysModules) = false
  loT : (dT == sysModules) = false
  loKK : (dKK == sysModules) = false
  loD : (dd == sysModules) = false
  hc1 : c1.data = .cell (some (.ref x))
  hc2 : c2.data = .cell (some (.ref dKK))
section
variable {C1 C2 x dx dS dK dT dKK dd l : Addr} {c1 c2 oX oS oK oT oKK oD oL : Obj} {pre : List (Addr × Obj)} {ks : List Addr}
theorem LK_at (i : Nat) (h : i < 10) : (LKeys C1 C2 x dx dS dK dT dKK dd l)[i]'h ∈ LKeys C1 C2 x dx dS dK dT dKK dd l := List.getElem_mem _
theorem LL_at (i : Nat) (h : i < 10) : (LL C1 C2 x dx dS dK dT dKK dd l c1 c2 oX oS oK oT oKK oD oL)[i]'h ∈ pre ++ LL C1 C2 x dx dS dK dT dKK dd l c1 c2 oX oS oK oT oKK oD oL := List.mem_append_right _ (List.getElem_mem _)
theorem LawA.ne (LA : LawA C1 C2 x dx dS dK dT dKK dd l c1 c2) (i j : Nat) (hij : i < j) (hj : j < 10) : (LKeys C1 C2 x dx dS dK dT dKK dd l)[i]'(Nat.lt_trans hij hj) ≠ (LKeys C1 C2 x dx dS dK dT dKK dd l)[j]'hj := List.pairwise_iff_getElem.mp LA.nd i j _ _ hij
theorem pre_ne (h : ∀ p ∈ pre, ∀ k ∈ LKeys C1 C2 x dx dS dK dT dKK dd l, p.1 ≠ k) {d : Addr} (hd : d ∈ LKeys C1 C2 x dx dS dK dT dKK dd l) : ∀ p ∈ pre, p.1 ≠ d := fun p hp => h p hp d hd
theorem LL_draw (hn : (LKeys C1 C2 x dx dS dK dT dKK dd l).Nodup) (h : ∀ p ∈ pre, ∀ k ∈ LKeys C1 C2 x dx dS dK dT dKK dd l, p.1 ≠ k) (o o' : Obj) :
    updL (updL (pre ++ LL C1 C2 x dx dS dK dT dKK dd l c1 c2 oX oS oK oT oKK oD oL) l o) dd o' = pre ++ LL C1 C2 x dx dS dK dT dKK dd l c1 c2 oX oS oK oT oKK o' o := by
  rw [updL_pre (pre_ne (d := l) h (LK_at 9 (by decide))), LL_L hn, updL_pre (pre_ne (d := dd) h (LK_at 8 (by decide))), LL_D hn]
theorem LL_S' (hn : (LKeys C1 C2 x dx dS dK dT dKK dd l).Nodup) (h : ∀ p ∈ pre, ∀ k ∈ LKeys C1 C2 x dx dS dK dT dKK dd l, p.1 ≠ k) (o : Obj) : updL (pre ++ LL C1 C2 x dx dS dK dT dKK dd l c1 c2 oX oS oK oT oKK oD oL) dS o = pre ++ LL C1 C2 x dx dS dK dT dKK dd l c1 c2 oX o oK oT oKK oD oL := by
  rw [updL_pre (pre_ne (d := dS) h (LK_at 4 (by decide))), LL_S hn]
theorem LL_K' (hn : (LKeys C1 C2 x dx dS dK dT dKK dd l).Nodup) (h : ∀ p ∈ pre, ∀ k ∈ LKeys C1 C2 x dx dS dK dT dKK dd l, p.1 ≠ k) (o : Obj) : updL (pre ++ LL C1 C2 x dx dS dK dT dKK dd l c1 c2 oX oS oK oT oKK oD oL) dK o = pre ++ LL C1 C2 x dx dS dK dT dKK dd l c1 c2 oX oS o oT oKK oD oL := by
  rw [updL_pre (pre_ne (d := dK) h (LK_at 5 (by decide))), LL_K hn]
theorem LL_T' (hn : (LKeys C1 C2 x dx dS dK dT dKK dd l).Nodup) (h : ∀ p ∈ pre, ∀ k ∈ LKeys C1 C2 x dx dS dK dT dKK dd l, p.1 ≠ k) (o : Obj) : updL (pre ++ LL C1 C2 x dx dS dK dT dKK dd l c1 c2 oX oS oK oT oKK oD oL) dT o = pre ++ LL C1 C2 x dx dS dK dT dKK dd l c1 c2 oX oS oK o oKK oD oL := by
  rw [updL_pre (pre_ne (d := dT) h (LK_at 6 (by decide))), LL_T hn]
theorem LL_KK' (hn : (LKeys C1 C2 x dx dS dK dT dKK dd l).Nodup) (h : ∀ p ∈ pre, ∀ k ∈ LKeys C1 C2 x dx dS dK dT dKK dd l, p.1 ≠ k) (o : Obj) : updL (pre ++ LL C1 C2 x dx dS dK dT dKK dd l c1 c2 oX oS oK oT oKK oD oL) dKK o = pre ++ LL C1 C2 x dx dS dK dT dKK dd l c1 c2 oX oS oK oT o oD oL := by
  rw [updL_pre (pre_ne (d := dKK) h (LK_at 7 (by decide))), LL_KK hn]
theorem pre_cons {D : Addr} {o : Obj} (h : ∀ p ∈ pre, ∀ k ∈ ks, p.1 ≠ k) (hD : ∀ k ∈ ks, k < D) : ∀ p ∈ (D, o) :: pre, ∀ k ∈ ks, p.1 ≠ k := fun p hp k hk => by
  rcases List.mem_cons.mp hp with rfl | hp
  · exact Nat.ne_of_gt (hD k hk)
  · exact h p hp k hk
theorem keys_lt {D : Addr} (h : ∀ q ∈ pre ++ LL C1 C2 x dx dS dK dT dKK dd l c1 c2 oX oS oK oT oKK oD oL, q.1 < D) : ∀ k ∈ LKeys C1 C2 x dx dS dK dT dKK dd l, k < D := fun k hk => by
  have : k ∈ (LL C1 C2 x dx dS dK dT dKK dd l c1 c2 oX oS oK oT oKK oD oL).map (·.1) := hk
  obtain ⟨q, hq, rfl⟩ := List.mem_map.mp this
  exact h q (List.mem_append_right _ hq)
end
theorem News.drop1 {h₀ h : Heap} {L : Addr} {t : Addr × Obj} {news : List (Addr × Obj)} (N : News h₀ L h (t :: news)) : News h₀ L h news := fun q hq => N q (.tail _ hq)
theorem off3_cons {I C D T : Addr} {o oI oC oD : Obj} {nw : List (Addr × Obj)} (lt : ∀ p ∈ (I, oI) :: (C, oC) :: (D, oD) :: nw, p.1 < T) (off : LCg.Off3 I C D nw) : LCg.Off3 I C D ((T, o) :: nw) :=
  ⟨⟨Nat.ne_of_gt (lt _ (.head _)), Nat.ne_of_gt (lt _ (.tail _ (.head _))), Nat.ne_of_gt (lt _ (.tail _ (.tail _ (.head _))))⟩, off⟩
theorem move_head {α : Type} {a b c d : α} {l : List α} : ∀ p ∈ b :: c :: d :: a :: l, p ∈ a :: b :: c :: d :: l := fun p hp => by
  rcases List.mem_cons.mp hp with rfl | hp
  · exact .tail _ (.head _)
  rcases List.mem_cons.mp hp with rfl | hp
  · exact .tail _ (.tail _ (.head _))
  rcases List.mem_cons.mp hp with rfl | hp
  · exact .tail _ (.tail _ (.tail _ (.head _)))
  rcases List.mem_cons.mp hp with rfl | hp
  · exact .head _
  · exact .tail _ (.tail _ (.tail _ (.tail _ hp)))
theorem Rows.cons_mono {nw : List (Addr × Obj)} {q : Addr × Obj} {vs : List Value} {ps : List (Str × Bool)} (h : Rows nw vs ps) : Rows (q :: nw) vs ps := Rows.mono h fun _ _ _ h => .tail _ h
theorem Rows.left {nw nw' : List (Addr × Obj)} {vs : List Value} {ps : List (Str × Bool)} (h : Rows nw vs ps) : Rows (nw ++ nw') vs ps := Rows.mono h fun _ _ _ h => List.mem_append_left _ h
theorem rows_take {ex : List (Addr × Obj)} {ys : List Value} {l : List Str} {S : List (Str × Bool)} {i : Nat} {sw : Str} {a : Addr} {t : Tok} {n : Nat} (h : Rows ex ys ((l.take i).map fun k => (k, onB S k))) (hs : l[i]? = some sw) :
    Rows ((a, tupO [.str sw t, .bool (onB S sw)] n) :: ex) (ys ++ [.ref a]) ((l.take (i + 1)).map fun k => (k, onB S k)) := by
  rw [List.take_add_one, hs, List.map_append]
  exact Rows.app (Rows.cons_mono h) ⟨⟨a, t, n, rfl, .head _⟩, trivial⟩
def LawW (w : World) (C1 C2 x dx dS dK dT dKK dd l : Addr) (c1 c2 oX : Obj) (nw : List (Addr × Obj)) : Prop :=
  ∀ P : List (Addr × Obj) → Prop, (∀ oS oK oT oKK oD oL S T K KK, LawI w dS dK dT dKK dd l oS oK oT oKK oD oL S T K KK → P (LL C1 C2 x dx dS dK dT dKK dd l c1 c2 oX oS oK oT oKK oD oL)) → P nw
theorem LawW.keys {w : World} {C1 C2 x dx dS dK dT dKK dd l : Addr} {c1 c2 oX : Obj} {nw : List (Addr × Obj)} (Z : LawW w C1 C2 x dx dS dK dT dKK dd l c1 c2 oX nw) : nw.map (·.1) = LKeys C1 C2 x dx dS dK dT dKK dd l :=
  Z (fun nw => nw.map (·.1) = LKeys C1 C2 x dx dS dK dT dKK dd l) fun _ _ _ _ _ _ _ _ _ _ _ => rfl
structure LawS (w : World) (h₀ : Heap) (L C1 C2 x dx dS dK dT dKK dd l : Addr) (c1 c2 oX : Obj) (pre : List (Addr × Obj)) (h : Heap) (m : Str → Option Value) : Prop where
  ex : ∃ nw, LawW w C1 C2 x dx dS dK dT dKK dd l c1 c2 oX nw ∧ News h₀ L h (pre ++ nw)
  F : Fr h₀ L h m
  hd : m (Str.ofString "deck") = some (.ref dd)
  hs : m (Str.ofString "states") = some (.ref dT)
noncomputable abbrev mapL (dd dT : Addr) (m : Str → Option Value) : Str → Option Value := fun y => if y = Str.ofString "deck" then some (.ref dd) else if y = Str.ofString "states" then some (.ref dT) else m y
theorem mapL_eq {dd dT : Addr} {m : Str → Option Value} (hd : m (Str.ofString "deck") = some (.ref dd)) (hs : m (Str.ofString "states") = some (.ref dT)) : m = mapL dd dT m := by
  funext y
  show m y = if y = Str.ofString "deck" then some (.ref dd) else if y = Str.ofString "states" then some (.ref dT) else m y
  by_cases h : y = Str.ofString "deck"
  · rw [if_pos h, h, hd]
  · rw [if_neg h]
    by_cases h2 : y = Str.ofString "states"
    · rw [if_pos h2, h2, hs]
    · rw [if_neg h2]
theorem LawS.elim {w : World} {h₀ : Heap} {L C1 C2 x dx dS dK dT dKK dd l : Addr} {c1 c2 oX : Obj} {pre : List (Addr × Obj)} {h : Heap} {m : Str → Option Value} {P : Prop} (Z : LawS w h₀ L C1 C2 x dx dS dK dT dKK dd l c1 c2 oX pre h m)
    (k : ∀ oS oK oT oKK oD oL S T K KK, LawI w dS dK dT dKK dd l oS oK oT oKK oD oL S T K KK → Fr h₀ L h (mapL dd dT m) → News h₀ L h (pre ++ LL C1 C2 x dx dS dK dT dKK dd l c1 c2 oX oS oK oT oKK oD oL) → P) : P := by
  obtain ⟨⟨nw, hW, N⟩, F, hd, hs⟩ := Z
  exact hW (fun nw => News h₀ L h (pre ++ nw) → P) (fun oS oK oT oKK oD oL S T K KK I N => k oS oK oT oKK oD oL S T K KK I (mapL_eq hd hs ▸ F) N) N
def LawEnd (w : World) (h₀ : Heap) (L C1 C2 x dx dS dK dT dKK dd l : Addr) (c1 c2 oX : Obj) (pre : List (Addr × Obj)) (Q : Flow → Shared → Prop) (s : Shared) (f : Flow) (s₂ : Shared) : Prop :=
  match f with
  | .ret v => Q (.ret v) s₂
  | .brk => Q .next s₂
  | _ => ∃ h' tk m', s₂ = { s with heap := h', toks := tk } ∧ LawS w h₀ L C1 C2 x dx dS dK dT dKK dd l c1 c2 oX pre h' m'
section
variable {prog : Program} {w : World} {A : Around} {E : Value → Shared → Prop} {s : Shared} {env : Env} {h₀ : Heap} {nx : Str} {body : List Stmt} {Q : Flow → Shared → Prop} {C1 C2 x dx dS dK dT dKK dd l : Addr} {c1 c2 oX : Obj}
theorem law_loop {r : Addr} {a b : Int} {t u v : Tok} {n : Nat} {m₀ : Str → Option Value}
    (hh : A.handled = none) (hr : IsRange s.heap r a b 1 t u v) (hsm : Builtin.Range.small a b 1 = true) (hn : Builtin.Range.rangeSize a b 1 = ((n : Nat) : Int)) (Z : LawS w h₀ env.locals C1 C2 x dx dS dK dT dKK dd l c1 c2 oX [] s.heap m₀)
    (nx1 : nx ≠ Str.ofString "deck") (nx2 : nx ≠ Str.ofString "states")
    (turn : ∀ (i : Nat) t m₁ own h tk oS oK oT oKK oD oL S T K KK, LawI w dS dK dT dKK dd l oS oK oT oKK oD oL S T K KK → (∀ p ∈ own, ∀ k ∈ LKeys C1 C2 x dx dS dK dT dKK dd l, p.1 ≠ k) →
      Fr h₀ env.locals h (fun y => if y = nx then some (.int (a + (i : Int)) t) else mapL dd dT m₁ y) → News h₀ env.locals h (own ++ LL C1 C2 x dx dS dK dT dKK dd l c1 c2 oX oS oK oT oKK oD oL) →
      wpAny (model prog w) A (execs body env) (LawEnd w h₀ env.locals C1 C2 x dx dS dK dT dKK dd l c1 c2 oX own Q { s with heap := h, toks := tk }) E { s with heap := h, toks := tk })
    (done : ∀ m₁ h tk, LawS w h₀ env.locals C1 C2 x dx dS dK dT dKK dd l c1 c2 oX [] h m₁ → Q .next { s with heap := h, toks := tk }) :
    ForAt prog w A h₀ env nx body Q E (.ref r) s := by
  obtain ⟨⟨nw, hW, N⟩, F, hd, hs⟩ := Z
  refine loop_range (fun _ m₁ nw => m₁ (Str.ofString "deck") = some (.ref dd) ∧ m₁ (Str.ofString "states") = some (.ref dT) ∧ LawW w C1 C2 x dx dS dK dT dKK dd l c1 c2 oX nw) hh hr hsm hn F N ⟨hd, hs, hW⟩ (fun I i t m₁ news₁ own h tk hi hlt hIo hown hJ hoff F1 N1 => ?_) fun m₁ news₁ h tk hJ F1 N1 => done m₁ h tk ⟨⟨news₁, hJ.2.2, N1⟩, F1, hJ.1, hJ.2.1⟩
  have hk : ∀ k ∈ LKeys C1 C2 x dx dS dK dT dKK dd l, k ≠ I := fun k hk => by
    rw [← hJ.2.2.keys] at hk
    obtain ⟨q, hq, rfl⟩ := List.mem_map.mp hk
    exact hoff q hq
  refine wpAny_mono (hJ.2.2 (fun nw => News h₀ env.locals h (own ++ nw) → wpAny (model prog w) A (execs body env) (LawEnd w h₀ env.locals C1 C2 x dx dS dK dT dKK dd l c1 c2 oX own Q { s with heap := h, toks := tk }) E { s with heap := h, toks := tk })
    (fun oS oK oT oKK oD oL S T K KK hI N1 => turn i t m₁ own h tk oS oK oT oKK oD oL S T K KK hI (fun p hp k hk' e => hk k hk' (by rw [← e]; exact hown p hp)) (mapL_eq hJ.1 hJ.2.1 ▸ F1) N1) N1) (fun f s₂ p => ?_) fun _ _ e => e
  have fin : LawEnd w h₀ env.locals C1 C2 x dx dS dK dT dKK dd l c1 c2 oX own Q { s with heap := h, toks := tk } .next s₂ → TurnEnd h₀ env.locals I own (fun m₁ nw => m₁ (Str.ofString "deck") = some (.ref dd) ∧ m₁ (Str.ofString "states") = some (.ref dT) ∧ LawW w C1 C2 x dx dS dK dT dKK dd l c1 c2 oX nw) { s with heap := h, toks := tk } Q .next s₂ := by
    rintro ⟨h', tk', m', e, ⟨nw, hW, N2⟩, F', hd', hs'⟩
    exact ⟨h', tk', m', nw, e, F', N2, fun p hp => hk p.1 (hW.keys ▸ List.mem_map_of_mem (f := (·.1)) hp), hd', hs', hW⟩
  cases f with
  | ret v => exact p
  | brk => exact p
  | next => exact fin p
  | cont => exact fin p
end
theorem lt_pw {a b : Nat} {l : List Nat} (h : a < b) (hl : (b :: l).Pairwise (· < ·)) : (a :: b :: l).Pairwise (· < ·) :=
  List.pairwise_cons.mpr ⟨fun _ hc => (List.mem_cons.mp hc).elim (fun e => e ▸ h) fun hc => Nat.lt_trans h ((List.pairwise_cons.mp hl).1 _ hc), hl⟩
theorem nd_front {a b : Nat} {l r : List Nat} (h : a < b) (hl : (b :: l).Pairwise (· < ·)) (hr : (r ++ b :: l).Nodup) (ha : a ∉ r) : (a :: (r ++ b :: l)).Nodup :=
  List.nodup_cons.mpr ⟨fun hm => (List.mem_append.mp hm).elim ha fun hm => Nat.lt_irrefl a ((List.pairwise_cons.mp (lt_pw h hl)).1 a hm), hr⟩
theorem law_nodup {C1 C2 x dx dS dK dT dKK dd l : Nat} (a1 : C1 ≠ C2) (a2 : C1 ≠ l) (a3 : C2 ≠ l) (a4 : C1 ≠ dd) (a5 : C2 ≠ dd) (a6 : dd ≠ l) (b1 : C1 < dx) (b2 : C2 < dx) (b3 : dd < dx) (b4 : l < dx) (b5 : dx < x) (b6 : x < dS) (b7 : dS < dK) (b8 : dK < dKK) (b9 : dKK < dT) :
    (LKeys C1 C2 x dx dS dK dT dKK dd l).Nodup := by
  have P := lt_pw b5 (lt_pw b6 (lt_pw b7 (lt_pw b8 (lt_pw b9 (List.pairwise_singleton _ _)))))
  have D := nd_front (r := [C2, dd, l]) b1 P (nd_front (r := [dd, l]) b2 P (nd_front (r := [l]) b3 P (nd_front (r := []) b4 P (P.imp Nat.ne_of_lt) List.not_mem_nil) (by simpa using a6)) (by simpa using ⟨a5, a3⟩)) (by simpa using ⟨a1, a4, a2⟩)
  exact ((((List.perm_append_comm (l₁ := [dd, l]) (l₂ := [dx, x, dS, dK, dKK, dT])).trans (.append_right [dd, l] ((List.Perm.swap x dx _).trans (.cons _ (.cons _ (.cons _ (.cons _ (.swap dT dKK []))))))) ).cons C2).cons C1).nodup_iff.mp D
theorem okay_nil : Okay ([] : List (Str × Bool)) := ⟨List.nodup_nil, fun _ h => (by cases h)⟩
end
section
section
variable {prog : Program} {w : World} {A : Around} {E : Value → Shared → Prop} {s : Shared} {h₀ : Heap} {L : Addr} {m : Str → Option Value} {news : List (Addr × Obj)}
theorem list_no_keys : typeLookup (.type "list") (Str.ofString "keys") = pure none := by rw [typeLookup_type, builtinLookup_eq_fast]; kernel_rfl
theorem list_keys_miss {a : Addr} {xs : Array Value} {k : Nat} {Q : Option Value → Shared → Prop} (hx : s.heap.get? a = some (listOf xs k)) (hA : A.handled = none)
    (h : ∀ h' tk, (∀ b ob, s.heap.get? b = some ob → h'.get? b = some ob) → Q none { s with heap := h', toks := tk }) :
    wpAny (model prog w) A (getAttr? (.ref a) (Str.ofString "keys")) Q E s := by
  rcases s with ⟨hp, g, d, tk, os⟩
  have typ : ∀ tk', (⟨hp, g, d, tk', os⟩ : Shared).TypeIs (.ref a) "list" := fun _ => ⟨_, hx, rfl⟩
  have facts := And.intro sub_AttributeError (And.intro PySem.F.slot_list_getattribute.lookup (And.intro (PySem.F.slot_list_getattribute.bind (.ref a)) am_list_getattr_none))
  obtain ⟨_, _, _, _⟩ := facts
  have miss := fun (u : Tok) => meets_getattribute_miss_list a xs k #[] (Str.ofString "keys") u list_no_keys (by decide +kernel) (by size_fits)
  unfold getAttr? getAttrBy? getAttrBy
  repeat (any_goals (first | assumption | exact typ _ | ((with_reducible show wpAny _ _ (call (Value.builtin "list.__getattribute__") _ _) _ _ _); refine call_meets PySem.F.slot_list_getattribute (typ _) am_entry_list_getattribute (PySem.F.args_list_getattribute_2 _ _) (miss _) ⟨hx, hA, fun h' tk' e new => ?_⟩) | wp_step))
  obtain ⟨_, _, there⟩ := new.there
  show wpAny _ _ (getattributeRaised _ _ _ _ _ _ _) _ _ _
  unfold getattributeRaised
  repeat (any_goals (first | assumption | wp_step))
  exact h _ _ new.keeps
theorem plain_upd : plainId "dict.update.loop" = true := by decide +kernel
theorem entry_upd : entryFor table "dict.update.loop" = some Builtin.«dict.update.loop» := entryFor_of_fast (by kernel_rfl)
theorem dict_same {K : Type} [DecidableEq K] {knd : KeyKind prog w K} {h h' : Heap} {d I : Addr} {kvs : List (K × Value)} (hd : h.DictOf knd d kvs) (hs : Heap.SameBut I h h') (hne : d ≠ I) : h'.DictOf knd d kvs := by
  obtain ⟨o, ho, h2⟩ := Heap.dictOf_iff.mp hd
  exact Heap.dictOf_iff.mpr ⟨o, (hs.2 d hne).trans ho, h2⟩
theorem news_off {h h' : Heap} {I : Addr} (N : News h₀ L h news) (hs : Heap.SameBut I h h') (o : ∀ q ∈ news, q.1 ≠ I) : News h₀ L h' news := fun q hq => ⟨(hs.2 q.1 (o q hq)).trans (N q hq).1, (N q hq).2⟩
theorem take_vals {ps : List (Str × Bool)} (hnd : (ps.map (·.1)).Nodup) {i : Nat} {p : Str × Bool} (h : ps[i]? = some p) : stored (vals (ps.take i)) p.1 (.bool p.2) = vals (ps.take (i + 1)) := by
  rw [stored_new, List.take_add_one, h]
  · unfold vals; rw [List.map_append]; rfl
  · rw [vals_keys]
    intro hm
    have hi : i < ps.length := (List.getElem?_eq_some_iff.mp h).1
    have e : ps = ps.take i ++ ps.drop i := (List.take_append_drop i ps).symm
    rw [e, List.map_append, List.nodup_append] at hnd
    refine hnd.2.2 _ hm p.1 ?_ rfl
    refine List.mem_map_of_mem (f := Prod.fst) (a := p) ?_
    have h2 : (ps.drop i)[0]? = some p := by rw [List.getElem?_drop]; exact h
    exact List.mem_of_getElem? h2
theorem upd_loop {I d l : Addr} {vs : List Value} {nl : Nat} {ps : List (Str × Bool)} (hh : A.handled = none) (hl : (l, listOf vs.toArray nl) ∈ news) (hR : Rows news vs ps) (hnd : (ps.map (·.1)).Nodup) (hz : ps.length ≤ 1000)
    (hdI : d ≠ I) (hdL : d ≠ L) (hIL : I ≠ L) (hd0 : h₀.get? d = none) (hI0 : h₀.get? I = none) (od : ∀ q ∈ news, q.1 ≠ d) (oI : ∀ q ∈ news, q.1 ≠ I) {R : Result → Shared → Prop} :
    ∀ (k i : Nat) (s : Shared), i + k = ps.length → Fr h₀ L s.heap m → News h₀ L s.heap news → s.heap.IsListIter I l i → s.heap.DictOf (strKind prog w) d (vals (ps.take i)) →
    (∀ h' tk, Fr h₀ L h' m → News h₀ L h' news → h'.DictOf (strKind prog w) d (vals ps) → R (.ok (.ret .none)) { s with heap := h', toks := tk }) →
    codeAny (model prog w) A (.builtin "dict.update.loop" ⟨[.ref d, .ref I, rawInt i, .none], []⟩) R s := by
  have hlen := hR.length
  intro k
  induction k with
  | zero =>
    intro i s hi F N hit hd hq
    have z := N _ hl
    have hil : s.heap.IsList l vs.toArray := ⟨_, z.1, rfl, _, rfl⟩
    refine codeAny_builtin entry_upd ?_
    rw [Around.under_plainId plain_upd _]
    show wpAny _ A.in1 (pyNext (.ref I) >>= _) _ _ s
    refine wpAny_bind (wpAny_pyNext_list_end (show A.in1.handled = none from hh) hit hil (by rw [List.getElem?_toArray]; exact List.getElem?_eq_none (by (first | lia | omega))) fun h' hs => ?_)
    have e : ps.take i = ps := List.take_of_length_le (by (first | lia | omega))
    rw [e] at hd
    have Fx : Fr h₀ L h' m := ⟨F.ns.at' fun o e => hs L o hIL.symm e, fun b o e => hs b o (fun q => by rw [q, hI0] at e; cases e) (F.keep b o e), F.above⟩
    have Nx : News h₀ L h' news := fun q hq => ⟨hs _ _ (oI q hq) (N q hq).1, (N q hq).2⟩
    have hdx : h'.DictOf (strKind prog w) d (vals ps) := by
      obtain ⟨o, ho, h2⟩ := Heap.dictOf_iff.mp hd
      exact Heap.dictOf_iff.mpr ⟨o, hs _ _ hdI ho, h2⟩
    exact wpAny_bind (wpAny_pure (wpAny_pure (hq h' s.toks Fx Nx hdx)))
  | succ k ih =>
    intro i s hi F N hit hd hq
    have z := N _ hl
    have hil : s.heap.IsList l vs.toArray := ⟨_, z.1, rfl, _, rfl⟩
    have hi2 : i < ps.length := by (first | lia | omega)
    obtain ⟨a, t, n, hv, hm⟩ := Rows.at hR i ps[i] (List.getElem?_eq_getElem hi2)
    refine codeAny_builtin entry_upd ?_
    rw [Around.under_plainId plain_upd _]
    show wpAny _ A.in1 (pyNext (.ref I) >>= _) _ _ s
    refine wpAny_bind (wpAny_pyNext_list_item hit hil (x := .ref a) (by rw [List.getElem?_toArray]; exact hv) fun h1 hit1 hs1 => ?_)
    have F1 := F.change hs1 hIL.symm.symm hI0
    have N1 := news_off N hs1 oI
    have hd1 := dict_same hd hs1 hdI
    have za := N1 _ hm
    refine wpAny_bind (wpAny_holding (wpAny_bind (wpAny_tryCatch ?_)))
    unfold Builtin.Dict.pairItems
    refine wpAny_bind (wpAny_typeOf ⟨_, za.1, rfl⟩ ?_)
    rw [if_pos (by decide)]
    refine wpAny_bind (wpAny_seqItems za.1 rfl (wpAny_pure ?_))
    show wpAny _ _ (holding [Value.str ps[i].1 t, Value.bool ps[i].2] (dictSet d (Value.str ps[i].1 t) (Value.bool ps[i].2))) _ _ _
    refine wpAny_holding (wpAny_dictSet_pairs (strKind_is _ _ _ _) hd1 (fun h2 hd2 hs2 => ?_) (size_vals (by rw [List.length_take]; (first | lia | omega))))
    rw [take_vals hnd (List.getElem?_eq_getElem hi2)] at hd2
    have F2 := F1.change hs2 hdL hd0
    have N2 := news_off N1 hs2 od
    have hit2 : h2.IsListIter I l (i + 1) := by
      obtain ⟨o, ho, h3⟩ := hit1
      exact ⟨o, (hs2.2 I hdI.symm).trans ho, h3⟩
    refine wpAny_pure ⟨plainId_quiet plain_upd _, ?_⟩
    exact ih (i + 1) { s with heap := h2, toks := s.toks + 1 } (by (first | lia | omega)) F2 N2 hit2 hd2 fun h' tk F' N' hd' => hq h' tk F' N' hd'
theorem dict_rows {l : Addr} {vs : List Value} {nl : Nat} {ps : List (Str × Bool)} {Q : Value → Shared → Prop} (hh : A.handled = none) (hbig : h₀.NoLimit) (F : Fr h₀ L s.heap m) (N : News h₀ L s.heap news) (hl : (l, listOf vs.toArray nl) ∈ news) (hR : Rows news vs ps) (hnd : (ps.map (·.1)).Nodup) (hz : ps.length ≤ 1000)
    (k : ∀ D h' tk o, Fr h₀ L h' m → News h₀ L h' ((D, o) :: news) → (∀ q ∈ news, q.1 < D) → (D == sysModules) = false → o.IsDictOf (strKind prog w) (vals ps) → Q (.ref D) { s with heap := h', toks := tk }) :
    wpAny (model prog w) A (call (.type "dict") [.ref l]) Q E s := by
  refine callType_codes (Q₁ := fun obj s₁ => obj = .ref s.heap.objs.size ∧ s₁ = { s with heap := s.heap.push { cls := .type "dict", data := .dict #[] } }) PySem.F.kt_called_dict (PySem.F.kt_typeCall_dict_1 _) PySem.F.entry_dict_init (kt_code_dict_new _ ⟨rfl, rfl⟩) ?_
  rintro obj s₁ ⟨rfl, rfl⟩
  have hnew : (s.heap.push { cls := .type "dict", data := .dict #[] }).DictOf (strKind prog w) s.heap.objs.size [] := Heap.DictOf.new s.heap
  have F1 := F.push { cls := .type "dict", data := .dict #[] }
  have N1 := News.push F N { cls := .type "dict", data := .dict #[] }
  have zl := N1 _ (.tail _ hl)
  have hsz : ∀ q ∈ news, q.1 < s.heap.objs.size := fun q hq => Heap.lt_size (N q hq).1
  have hL := F.ns.lt
  refine ⟨hnew.typeIs, PySem.F.args_dict_init_2 _ _, ?_⟩
  unfold Builtin.«dict.__init__»
  refine wpAny_bind ?_
  unfold Builtin.Dict.selfAndRest
  refine wpAny_bind (wpAny_notOrdered_dict hnew.typeIs ?_)
  show wpAny _ _ (pure (s.heap.objs.size, [Value.ref l])) _ _ _
  refine wpAny_pure ?_
  show wpAny _ _ (Builtin.Dict.updateFrom "dict.__init__" s.heap.objs.size (.ref l) [] .none) _ _ _
  unfold Builtin.Dict.updateFrom
  refine wpAny_bind (wpAny_typeOf ⟨_, zl.1, rfl⟩ ?_)
  rw [if_pos (by decide)]
  refine wpAny_bind (list_keys_miss zl.1 hh fun h2 tk2 k2 => ?_)
  rw [if_pos (by rfl)]
  refine wpAny_bind (wpAny_rule ?_)
  have F2 := F1.kept k2
  have N2 : News h₀ L h2 _ := N1.grown k2
  have hil : h2.IsList l vs.toArray := ⟨_, (N2 _ (.tail _ hl)).1, rfl, _, rfl⟩
  refine wpAny_bind (wpAny_pyIter_list hil ?_)
  have F3 := F2.push { cls := .type "list_iterator", data := .fields #[.ref l, .int 0 0] }
  have N3 := News.push F2 N2 { cls := .type "list_iterator", data := .fields #[.ref l, .int 0 0] }
  have hlt2 : ∀ q ∈ (s.heap.objs.size, ({ cls := .type "dict", data := .dict #[] } : Obj)) :: news, q.1 < h2.objs.size := fun q hq => Heap.lt_size (N2 q hq).1
  have hd0 := N3 _ (.tail _ (.head _))
  have hI0 := N3 _ (.head _)
  have N3' : News h₀ L (h2.push { cls := .type "list_iterator", data := .fields #[.ref l, .int 0 0] }) news := fun q hq => N3 q (.tail _ (.tail _ hq))
  refine wpAny_bind (wpAny_pure (wpAny_pure ⟨plainId_quiet plain_upd _, upd_loop (A := A.in1) (ps := ps) (vs := vs) (nl := nl) (l := l) hh hl hR hnd hz (Nat.ne_of_lt (hlt2 _ (.head _))) hd0.2.1 hI0.2.1 hd0.2.2 hI0.2.2 (fun q hq => Nat.ne_of_lt (hsz q hq)) (fun q hq => Nat.ne_of_lt (hlt2 q (.tail _ hq))) ps.length 0 _ (Nat.zero_add _) F3 N3' ⟨_, hI0.1, rfl, rfl⟩ ?_ fun h' tk F' N' hd' => ?_⟩))
  · refine Heap.dictOf_iff.mpr ⟨_, hd0.1, ?_⟩
    obtain ⟨o, ho, h4⟩ := Heap.dictOf_iff.mp hnew
    have e : o = { cls := .type "dict", data := .dict #[] } := by
      rw [(N1 _ (.head _)).1] at ho; exact (Option.some.inj ho).symm
    rw [e] at h4
    exact h4
  · obtain ⟨o, ho, h4⟩ := Heap.dictOf_iff.mp hd'
    refine ⟨rfl, k _ h' tk o F' (fun q hq => ?_) hsz (F.notModules (modules_low hbig)) h4⟩
    rcases List.mem_cons.mp hq with rfl | hq
    · exact ⟨ho, hd0.2⟩
    · exact N' q hq
end
end
section
section
variable {w : World} {p : Program} {loose : List Str} {mean : ExcName → Option Value} {mg mb : Str → Option Value}
variable {A : Around} {env : Env} {outer : List Env} {A₀ : Around} {base h₀ : Heap} {L : Addr} {m : Str → Option Value} {hp0 : Heap} {G0 : Array GenState} {Dr0 : Drawn} {tk0 : Nat} {O0 : OsState} {Q E : Value → Shared → Prop}
variable {C1 C2 x dx dS dK dT dKK dd l : Addr} {c1 c2 oX oS oK oT oKK oD oL : Obj} {pre : List (Addr × Obj)} {S T K : List (Str × Bool)} {KK : List (Int × Bool)} {t1 t2 : Tok}
theorem LawI.deck (I : LawI w dS dK dT dKK dd l oS oK oT oKK oD oL S T K KK) {oD' oL' : Obj} (h : DeckO w oD' oL' l) : LawI w dS dK dT dKK dd l oS oK oT oKK oD' oL' S T K KK := ⟨I.hS, I.hK, I.hT, I.hKK, h, I.ag, I.kp, I.ok⟩
theorem u_drawL {many : Int} {t : Tok} (h0 : 0 < many) (h1 : many ≤ 1000) (LA : LawA C1 C2 x dx dS dK dT dKK dd l c1 c2) (hp : ∀ p ∈ pre, ∀ k ∈ LKeys C1 C2 x dx dS dK dT dKK dd l, p.1 ≠ k) (I : LawI w dS dK dT dKK dd l oS oK oT oKK oD oL S T K KK)
    (hAf : A.frames = some (env :: outer)) (hf : env.frame = some L) (hke : env.scope.kind = .function) (B : Below A₀ base outer h₀) (F : Fr h₀ L hp0 m) (X : (hd.heap_39 w.params).In h₀) (N : News h₀ L hp0 (pre ++ LL C1 C2 x dx dS dK dT dKK dd l c1 c2 oX oS oK oT oKK oD oL)) (TT : Top p loose mean mg mb h₀) (hdp : A.depth + 12 < recursionLimit) (hun : A.units + 8 * 12 < cLine)
    (k : ∀ v t' oD' oL' h' tk', 0 ≤ v → v < many → Fr h₀ L h' m → News h₀ L h' (pre ++ LL C1 C2 x dx dS dK dT dKK dd l c1 c2 oX oS oK oT oKK oD' oL') → LawI w dS dK dT dKK dd l oS oK oT oKK oD' oL' S T K KK → Q (.int v t') ⟨h', G0, Dr0, tk', O0⟩) :
    wpAny (model PG w) (Clm A) (call (.ref 156) [.ref dd, .int many t]) Q E ⟨hp0, G0, Dr0, tk0, O0⟩ :=
  c_draw h0 h1 A env outer A₀ base h₀ L m _ hp0 G0 Dr0 tk0 O0 Q E hAf hf hke B F X N TT hdp hun (LL_at 8 (by decide)) (LL_at 9 (by decide)) LA.loD (LA.ne 8 9 (by decide) (by decide)) I.dk
    fun v t' oD' oL' a1 a2 dk h' tk' F' N' => k v t' oD' oL' h' tk' a1 a2 F' (LL_draw LA.nd hp oL' oD' ▸ N') (I.deck dk)
theorem LawA.md (LA : LawA C1 C2 x dx dS dK dT dKK dd l c1 c2) (I : LawI w dS dK dT dKK dd l oS oK oT oKK oD oL S T K KK) : MdAt w (pre ++ LL C1 C2 x dx dS dK dT dKK dd l c1 c2 (mdDict w t1 t2 2 dS dK) oS oK oT oKK oD oL) x dx dS dK t1 t2 2 oS S :=
  ⟨LL_at 2 (by decide), LL_at 3 (by decide), LL_at 4 (by decide), I.hS, LA.loS⟩
theorem u_shownL (LA : LawA C1 C2 x dx dS dK dT dKK dd l c1 c2) (I : LawI w dS dK dT dKK dd l oS oK oT oKK oD oL S T K KK)
    (hAf : A.frames = some (env :: outer)) (hf : env.frame = some L) (hke : env.scope.kind = .function) (B : Below A₀ base outer h₀) (F : Fr h₀ L hp0 m) (X : (hd.heap_39 w.params).In h₀) (N : News h₀ L hp0 (pre ++ LL C1 C2 x dx dS dK dT dKK dd l c1 c2 (mdDict w t1 t2 2 dS dK) oS oK oT oKK oD oL)) (TT : Top p loose mean mg mb h₀) (hdp : A.depth + 14 < recursionLimit) (hun : A.units + 8 * 14 < cLine)
    (k : ∀ h' tk', Fr h₀ L h' m → News h₀ L h' (pre ++ LL C1 C2 x dx dS dK dT dKK dd l c1 c2 (mdDict w t1 t2 2 dS dK) oS oK oT oKK oD oL) → Q (.bool true) ⟨h', G0, Dr0, tk', O0⟩) :
    wpAny (model PG w) (Clm A) (call (.ref 168) [.ref x, .ref dT]) Q E ⟨hp0, G0, Dr0, tk0, O0⟩ :=
  c_shown I.ag A env outer A₀ base h₀ L m _ hp0 G0 Dr0 tk0 O0 Q E hAf hf hke B F X N TT hdp hun (LL_at 2 (by decide)) (LL_at 3 (by decide)) (LL_at 4 (by decide)) I.hS LA.loS (LL_at 6 (by decide)) I.hT LA.loT k
theorem Agree.len {S T : List (Str × Bool)} (h : Agree S T) : S.length ≤ 1000 ∧ T.length ≤ 1000 := by
  have h1 := h.1.length
  have h2 := h.2.1.length
  (first | lia | omega)
theorem u_setL {t : Tok} {word : Str} {b : Bool} (hw : word ∈ words41) (LA : LawA C1 C2 x dx dS dK dT dKK dd l c1 c2) (hp : ∀ p ∈ pre, ∀ k ∈ LKeys C1 C2 x dx dS dK dT dKK dd l, p.1 ≠ k) (I : LawI w dS dK dT dKK dd l oS oK oT oKK oD oL S T K KK)
    (hAf : A.frames = some (env :: outer)) (hf : env.frame = some L) (hke : env.scope.kind = .function) (B : Below A₀ base outer h₀) (F : Fr h₀ L hp0 m) (X : (hd.heap_39 w.params).In h₀) (N : News h₀ L hp0 (pre ++ LL C1 C2 x dx dS dK dT dKK dd l c1 c2 (mdDict w t1 t2 2 dS dK) oS oK oT oKK oD oL)) (TT : Top p loose mean mg mb h₀) (hdp : A.depth + 2 < recursionLimit) (hun : A.units + 8 * 2 < cLine)
    (k : ∀ oS' h' tk', Fr h₀ L h' m → News h₀ L h' (pre ++ LL C1 C2 x dx dS dK dT dKK dd l c1 c2 (mdDict w t1 t2 2 dS dK) oS' oK oT oKK oD oL) → oS'.IsDictOf (strKind PG w) (vals (setB S word b)) → Q .none ⟨h', G0, Dr0, tk', O0⟩) :
    wpAny (model PG w) (Clm A) (call (.ref 74) [.ref x, .str word t, .bool b]) Q E ⟨hp0, G0, Dr0, tk0, O0⟩ :=
  c_set A env outer A₀ base h₀ L m _ hp0 G0 Dr0 tk0 O0 Q E hAf hf hke B F X N TT hdp hun (LL_at 2 (by decide)) (LL_at 3 (by decide)) (LL_at 4 (by decide)) I.hS I.ag.len.1 (LA.ne 3 4 (by decide) (by decide)) (LA.ne 2 4 (by decide) (by decide))
    fun oS' hS' h' tk' F' N' => k oS' h' tk' F' (LL_S' LA.nd hp oS' ▸ N') hS'
theorem u_lsetL {t : Tok} {word : Str} {b : Bool} (hw : word ∈ words41) (LA : LawA C1 C2 x dx dS dK dT dKK dd l c1 c2) (hp : ∀ p ∈ pre, ∀ k ∈ LKeys C1 C2 x dx dS dK dT dKK dd l, p.1 ≠ k) {oS' : Obj} (I : LawI w dS dK dT dKK dd l oS oK oT oKK oD oL S T K KK) (hS' : oS'.IsDictOf (strKind PG w) (vals (setB S word b)))
    (hAf : A.frames = some (env :: outer)) (hf : env.frame = some L) (hke : env.scope.kind = .function) (B : Below A₀ base outer h₀) (F : Fr h₀ L hp0 m) (X : (hd.heap_39 w.params).In h₀) (N : News h₀ L hp0 (pre ++ LL C1 C2 x dx dS dK dT dKK dd l c1 c2 oX oS' oK oT oKK oD oL)) (TT : Top p loose mean mg mb h₀) (hdp : A.depth + 2 < recursionLimit) (hun : A.units + 8 * 2 < cLine)
    (k : ∀ oT' h' tk', Fr h₀ L h' m → News h₀ L h' (pre ++ LL C1 C2 x dx dS dK dT dKK dd l c1 c2 oX oS' oK oT' oKK oD oL) → LawI w dS dK dT dKK dd l oS' oK oT' oKK oD oL (setB S word b) (setB T word b) K KK → Q .none ⟨h', G0, Dr0, tk', O0⟩) :
    wpAny (model PG w) (Clm A) (call (.ref 163) [.ref dT, .str word t, .bool b]) Q E ⟨hp0, G0, Dr0, tk0, O0⟩ :=
  c_lset A env outer A₀ base h₀ L m _ hp0 G0 Dr0 tk0 O0 Q E hAf hf hke B F X N TT hdp hun (LL_at 6 (by decide)) I.hT I.ag.len.2
    fun oT' hT' h' tk' F' N' => k oT' h' tk' F' (LL_T' LA.nd hp oT' ▸ N') ⟨hS', I.hK, hT', I.hKK, I.dk, I.ag.set hw b, I.kp, I.ok⟩
theorem u_newL (hAf : A.frames = some (env :: outer)) (hf : env.frame = some L) (hke : env.scope.kind = .function) (B : Below A₀ base outer h₀) (F : Fr h₀ L hp0 m) (X : (hd.heap_39 w.params).In h₀) {news : List (Addr × Obj)} (N : News h₀ L hp0 news) (TT : Top p loose mean mg mb h₀) (hdp : A.depth + 2 < recursionLimit) (hun : A.units + 8 * 2 < cLine)
    (k : ∀ x dx dS dK t1 t2 oS nw h' tk', Fr h₀ L h' m → News h₀ L h' (nw ++ news) → MdAt w (nw ++ news) x dx dS dK t1 t2 2 oS S0 → Q (.ref x) ⟨h', G0, Dr0, tk', O0⟩) :
    wpAny (model PG w) (Clm A) (call (.ref 77) []) Q E ⟨hp0, G0, Dr0, tk0, O0⟩ :=
  u_new hAf hf hke B F X N TT hdp hun fun x dx dS dK t1 t2 oS oK h' tk' F' N' _ _ _ _ lo _ hS _ =>
    k x dx dS dK t1 t2 oS [(dS, oS), (dK, oK), (x, instObj 77 dx), (dx, mdDict w t1 t2 2 dS dK)] h' tk' F' N' ⟨.tail _ (.tail _ (.head _)), .tail _ (.tail _ (.tail _ (.head _))), .head _, hS, lo⟩
end
theorem News.dropL {h₀ h : Heap} {L : Addr} {nw news : List (Addr × Obj)} (N : News h₀ L h (nw ++ news)) : News h₀ L h news := fun q hq => N q (List.mem_append_right _ hq)
theorem hide2 {M : Model} {A : Around} {E : Value → Shared → Prop} {s : Shared} {env : Env} {Q : Flow → Shared → Prop} {a b : Stmt} {tl : List Stmt} (h : ∀ R : List Stmt, R = tl → wpAny M A (execs (a :: b :: R) env) Q E s) : wpAny M A (execs (a :: b :: tl) env) Q E s := h tl rfl
theorem idx18 {k : Int} (h0 : 0 ≤ k) (h1 : k < 18) : PySem.seqIndex? k 18 = some k.toNat := by
  have h : ∀ n : Fin 18, PySem.seqIndex? (n.val : Int) 18 = some n.val := by decide
  have h2 := h ⟨k.toNat, by (first | lia | omega)⟩
  have e : ((k.toNat : Nat) : Int) = k := Int.toNat_of_nonneg h0
  simp only [e] at h2
  exact h2
theorem nums_item {w : World} {A : Around} {E : Value → Shared → Prop} {s : Shared} {h₀ : Heap} {L : Addr} {m : Str → Option Value} {value slice : PySem.Expr} {k : Int} {u : Tok} {Q : Value → Shared → Prop}
    (F : Fr h₀ L s.heap m) (X : (hd.heap_39 w.params).In h₀) (h0 : 0 ≤ k) (h1 : k < 18) (h : ∀ n t, numsL[k.toNat]? = some n → Q (.int n t) s)
    (hs : subscripted slice false (.ref 144) (.int k u) = operate [.ref 144, .int k u] (getItem (.ref 144) (.int k u))) :
    wpAny (model PG w) A (subscriptTail value slice (.ref 144) (.int k u)) Q E s := by
  obtain ⟨items, ht, hi⟩ := nums_tup (X.keeps F.keep)
  have hl : items.length = 18 := by rw [hi.length, nums_length]
  obtain ⟨v, hv⟩ : ∃ v, items[k.toNat]? = some v := ⟨_, List.getElem?_eq_getElem (by (first | lia | omega))⟩
  obtain ⟨n, t, rfl, hn⟩ := IntsAre.at hi _ _ hv
  exact item_tupleT ht (by (first | lia | omega)) (by (first | lia | omega)) (by rw [hl]; exact idx18 h0 h1) hv (h n t hn) hs
section
variable {w : World} {p : Program} {loose : List Str} {mean : ExcName → Option Value} {mg mb : Str → Option Value}
variable {A : Around} {env : Env} {outer : List Env} {A₀ : Around} {base h₀ : Heap} {L : Addr} {m : Str → Option Value} {hp0 : Heap} {G0 : Array GenState} {Dr0 : Drawn} {tk0 : Nat} {O0 : OsState} {Q E : Value → Shared → Prop} {news : List (Addr × Obj)}
theorem u_reportP {x dx dS dK : Addr} {t1 t2 t : Tok} {n : Nat} {oS : Obj} {S : List (Str × Bool)} {i : Int} {word : Str} (hw : getB privL i = some word) (hAf : A.frames = some (env :: outer)) (hf : env.frame = some L) (hke : env.scope.kind = .function) (B : Below A₀ base outer h₀) (F : Fr h₀ L hp0 m) (X : (hd.heap_39 w.params).In h₀) (N : News h₀ L hp0 news) (TT : Top p loose mean mg mb h₀) (md : MdAt w news x dx dS dK t1 t2 n oS S) (hdp : A.depth + 3 < recursionLimit) (hun : A.units + 8 * 3 < cLine)
    (k : ∀ r t' h' tk', r = 1 ∨ r = 2 → Fr h₀ L h' m → News h₀ L h' news → Q (.int r t') ⟨h', G0, Dr0, tk', O0⟩) :
    wpAny (model PG w) (Clm A) (call (.ref 88) [.ref x, .int i t, .bool true]) Q E ⟨hp0, G0, Dr0, tk0, O0⟩ :=
  c_report A env outer A₀ base h₀ L m _ hp0 G0 Dr0 tk0 O0 Q E hAf hf hke B F X N TT hdp hun md.hx md.hdx md.hdS md.hS md.lo fun t' h' tk' F' N' => k _ t' h' tk' (by
    rw [repB_word hw]
    by_cases h : onB S word = true
    · rw [if_pos h]; exact .inl rfl
    · rw [if_neg h]; exact .inr rfl) F' N'
end
def LawMid (w : World) (h₀ : Heap) (L C1 C2 x dx dS dK dT dKK dd l : Addr) (c1 c2 oX : Obj) (pre : List (Addr × Obj)) (G0 : Array GenState) (Dr0 : Drawn) (O0 : OsState) (s' : Shared) : Prop := ∃ h tk m', s' = ⟨h, G0, Dr0, tk, O0⟩ ∧ LawS w h₀ L C1 C2 x dx dS dK dT dKK dd l c1 c2 oX pre h m'
theorem LawMid.intro {w : World} {h₀ h : Heap} {L C1 C2 x dx dS dK dT dKK dd l : Addr} {c1 c2 oX oS oK oT oKK oD oL : Obj} {S T K : List (Str × Bool)} {KK : List (Int × Bool)} {pre : List (Addr × Obj)} {G0 : Array GenState} {Dr0 : Drawn} {O0 : OsState} {m : Str → Option Value} {tk : Nat} (I : LawI w dS dK dT dKK dd l oS oK oT oKK oD oL S T K KK)
    (F : Fr h₀ L h m) (N : News h₀ L h (pre ++ LL C1 C2 x dx dS dK dT dKK dd l c1 c2 oX oS oK oT oKK oD oL)) (hd : m (Str.ofString "deck") = some (.ref dd)) (hs : m (Str.ofString "states") = some (.ref dT)) : LawMid w h₀ L C1 C2 x dx dS dK dT dKK dd l c1 c2 oX pre G0 Dr0 O0 ⟨h, G0, Dr0, tk, O0⟩ :=
  ⟨h, tk, m, rfl, ⟨⟨_, fun _ k => k _ _ _ _ _ _ _ _ _ _ I, N⟩, F, hd, hs⟩⟩
theorem LawMid.elim {w : World} {h₀ : Heap} {L C1 C2 x dx dS dK dT dKK dd l : Addr} {c1 c2 oX : Obj} {pre : List (Addr × Obj)} {G0 : Array GenState} {Dr0 : Drawn} {O0 : OsState} {s' : Shared} {P : Shared → Prop} (Z : LawMid w h₀ L C1 C2 x dx dS dK dT dKK dd l c1 c2 oX pre G0 Dr0 O0 s')
    (k : ∀ oS oK oT oKK oD oL S T K KK h tk m, LawI w dS dK dT dKK dd l oS oK oT oKK oD oL S T K KK → Fr h₀ L h (mapL dd dT m) → News h₀ L h (pre ++ LL C1 C2 x dx dS dK dT dKK dd l c1 c2 oX oS oK oT oKK oD oL) → P ⟨h, G0, Dr0, tk, O0⟩) : P s' := by
  obtain ⟨h, tk, m', rfl, Z⟩ := Z
  exact Z.elim fun oS oK oT oKK oD oL S T K KK I F N => k oS oK oT oKK oD oL S T K KK h tk m' I F N
theorem LawEnd.next {w : World} {h₀ h : Heap} {L C1 C2 x dx dS dK dT dKK dd l : Addr} {c1 c2 oX oS oK oT oKK oD oL : Obj} {S T K : List (Str × Bool)} {KK : List (Int × Bool)} {pre : List (Addr × Obj)} {s : Shared} {m : Str → Option Value} {tk : Nat} {Q : Flow → Shared → Prop} (I : LawI w dS dK dT dKK dd l oS oK oT oKK oD oL S T K KK)
    (F : Fr h₀ L h m) (N : News h₀ L h (pre ++ LL C1 C2 x dx dS dK dT dKK dd l c1 c2 oX oS oK oT oKK oD oL)) (hd : m (Str.ofString "deck") = some (.ref dd)) (hs : m (Str.ofString "states") = some (.ref dT)) : LawEnd w h₀ L C1 C2 x dx dS dK dT dKK dd l c1 c2 oX pre Q s .next { s with heap := h, toks := tk } :=
  ⟨h, tk, m, rfl, ⟨⟨_, fun _ k => k _ _ _ _ _ _ _ _ _ _ I, N⟩, F, hd, hs⟩⟩
theorem in12 {r : Int} (h : r = 1 ∨ r = 2) : (([1, 2] : List Int).any (· == r)) = true := by
  rcases h with rfl | rfl <;> decide
noncomputable def keepB (S : List (Str × Bool)) (KK : List (Int × Bool)) (n : Int) : List (Int × Bool) := storeB KK n (onB S (wd n))
theorem kept2 {S K : List (Str × Bool)} {KK : List (Int × Bool)} {a b : Int} (h : KeptOk K KK) (hK : Okay K) (ha : a ∈ numsL) (hb : b ∈ numsL) : KeptOk ([a, b, 3000].foldl (saveB S) K) ([a, b].foldl (keepB S) KK) ∧ Okay ([a, b, 3000].foldl (saveB S) K) := by
  simp only [List.foldl_cons, List.foldl_nil]
  rw [saveB_3000, saveB_num (wd_some ha), saveB_num (wd_some hb)]
  obtain ⟨h1, h2⟩ := h.save hK ha (wd_some ha) (onB S (wd a))
  exact h1.save h2 hb (wd_some hb) (onB S (wd b))
section
variable {w : World} {p : Program} {loose : List Str} {mean : ExcName → Option Value} {mg mb : Str → Option Value}
variable {A : Around} {env : Env} {outer : List Env} {A₀ : Around} {base h₀ : Heap} {L : Addr} {m : Str → Option Value} {hp0 : Heap} {G0 : Array GenState} {Dr0 : Drawn} {tk0 : Nat} {O0 : OsState} {Q E : Value → Shared → Prop}
variable {C1 C2 x dx dS dK dT dKK dd l : Addr} {c1 c2 oX oS oK oT oKK oD oL : Obj} {pre : List (Addr × Obj)} {S T K : List (Str × Bool)} {KK : List (Int × Bool)} {t1 t2 : Tok}
theorem u_saveL {ln : Addr} {kn : Nat} {vs : List Value} {ns : List Int} (hia : IntsAre vs ns) (hln : (ln, listOf vs.toArray kn) ∈ pre) (hl2 : vs.length ≤ 60) (LA : LawA C1 C2 x dx dS dK dT dKK dd l c1 c2) (hp : ∀ p ∈ pre, ∀ k ∈ LKeys C1 C2 x dx dS dK dT dKK dd l, p.1 ≠ k) (I : LawI w dS dK dT dKK dd l oS oK oT oKK oD oL S T K KK)
    (hAf : A.frames = some (env :: outer)) (hf : env.frame = some L) (hke : env.scope.kind = .function) (B : Below A₀ base outer h₀) (F : Fr h₀ L hp0 m) (X : (hd.heap_39 w.params).In h₀) (N : News h₀ L hp0 (pre ++ LL C1 C2 x dx dS dK dT dKK dd l c1 c2 (mdDict w t1 t2 2 dS dK) oS oK oT oKK oD oL)) (TT : Top p loose mean mg mb h₀) (hdp : A.depth + 4 < recursionLimit) (hun : A.units + 8 * 4 < cLine)
    (k : ∀ oK' h' tk', Fr h₀ L h' m → News h₀ L h' (pre ++ LL C1 C2 x dx dS dK dT dKK dd l c1 c2 (mdDict w t1 t2 2 dS dK) oS oK' oT oKK oD oL) → oK'.IsDictOf (strKind PG w) (vals (ns.foldl (saveB S) K)) → Q .none ⟨h', G0, Dr0, tk', O0⟩) :
    wpAny (model PG w) (Clm A) (call (.ref 95) [.ref x, .ref ln]) Q E ⟨hp0, G0, Dr0, tk0, O0⟩ :=
  c_save hia A env outer A₀ base h₀ L m _ hp0 G0 Dr0 tk0 O0 Q E hAf hf hke B F X N TT hdp hun (LL_at 2 (by decide)) (LL_at 3 (by decide)) (LL_at 4 (by decide)) I.hS LA.loS (LL_at 5 (by decide)) I.hK (List.mem_append_left _ hln) (by have := I.ok.length; (first | lia | omega)) hl2
    (LA.ne 2 5 (by decide) (by decide)) (LA.ne 3 5 (by decide) (by decide)) (LA.ne 4 5 (by decide) (by decide)) (hp _ hln _ (LK_at 5 (by decide))).symm
    fun oK' hK' h' tk' F' N' => k oK' h' tk' F' (LL_K' LA.nd hp oK' ▸ N') hK'
end
def KeepEnd (w : World) (h₀ : Heap) (L C1 C2 x dx dS dK dT dKK dd l : Addr) (c1 c2 oX oS oK oT oD oL : Obj) (pre : List (Addr × Obj)) (KK : List (Int × Bool)) (Q : Flow → Shared → Prop) (s : Shared) (f : Flow) (s₂ : Shared) : Prop :=
  match f with
  | .ret v => Q (.ret v) s₂
  | .brk => Q .next s₂
  | _ => ∃ h' tk m' oKK, s₂ = { s with heap := h', toks := tk } ∧ Fr h₀ L h' m' ∧ News h₀ L h' (pre ++ LL C1 C2 x dx dS dK dT dKK dd l c1 c2 oX oS oK oT oKK oD oL) ∧ oKK.IsDictOf (intKind PG w) (vals KK) ∧ m' (Str.ofString "deck") = some (.ref dd) ∧ m' (Str.ofString "states") = some (.ref dT)
def KeepW (w : World) (C1 C2 x dx dS dK dT dKK dd l : Addr) (c1 c2 oX oS oK oT oD oL : Obj) (pre : List (Addr × Obj)) (KK : List (Int × Bool)) (nw : List (Addr × Obj)) : Prop :=
  ∀ P : List (Addr × Obj) → Prop, (∀ oKK, oKK.IsDictOf (intKind PG w) (vals KK) → P (pre ++ LL C1 C2 x dx dS dK dT dKK dd l c1 c2 oX oS oK oT oKK oD oL)) → P nw
theorem KeepEnd.next {w : World} {h₀ h : Heap} {L C1 C2 x dx dS dK dT dKK dd l : Addr} {c1 c2 oX oS oK oT oKK oD oL : Obj} {KK : List (Int × Bool)} {pre : List (Addr × Obj)} {s : Shared} {m : Str → Option Value} {tk : Nat} {Q : Flow → Shared → Prop}
    (F : Fr h₀ L h m) (N : News h₀ L h (pre ++ LL C1 C2 x dx dS dK dT dKK dd l c1 c2 oX oS oK oT oKK oD oL)) (hKK : oKK.IsDictOf (intKind PG w) (vals KK)) (hd : m (Str.ofString "deck") = some (.ref dd)) (hs : m (Str.ofString "states") = some (.ref dT)) :
    KeepEnd w h₀ L C1 C2 x dx dS dK dT dKK dd l c1 c2 oX oS oK oT oD oL pre KK Q s .next { s with heap := h, toks := tk } := ⟨h, tk, m, oKK, rfl, F, N, hKK, hd, hs⟩
section
variable {prog : Program} {w : World} {A : Around} {E : Value → Shared → Prop} {s : Shared} {env : Env} {h₀ : Heap} {nx : Str} {body : List Stmt} {Q : Flow → Shared → Prop} {C1 C2 x dx dS dK dT dKK dd l : Addr} {c1 c2 oX oS oK oT oKK oD oL : Obj} {pre : List (Addr × Obj)} {S : List (Str × Bool)} {KK : List (Int × Bool)}
theorem keep_len (S : List (Str × Bool)) : ∀ (ns : List Int) (KK : List (Int × Bool)), (ns.foldl (keepB S) KK).length ≤ KK.length + ns.length
  | [], KK => Nat.le_refl _
  | n :: ns, KK => by
    rw [List.foldl_cons, List.length_cons]
    have h1 := keep_len S ns (keepB S KK n)
    have h2 : (keepB S KK n).length ≤ KK.length + 1 := length_storeB _ _ _
    (first | lia | omega)
theorem keep_loop {lD : Addr} {kn : Nat} {vs : List Value} {ns : List Int} {m₀ : Str → Option Value} (hh : A.handled = none) (hia : IntsAre vs ns) (hns : ∀ n ∈ ns, n ∈ numsL) (hlen : KK.length + ns.length ≤ 100) (hl : (lD, listOf vs.toArray kn) ∈ pre)
    (hp : ∀ p ∈ pre, ∀ k ∈ LKeys C1 C2 x dx dS dK dT dKK dd l, p.1 ≠ k) (F : Fr h₀ env.locals s.heap m₀) (N : News h₀ env.locals s.heap (pre ++ LL C1 C2 x dx dS dK dT dKK dd l c1 c2 oX oS oK oT oKK oD oL)) (hKK : oKK.IsDictOf (intKind PG w) (vals KK))
    (hd : m₀ (Str.ofString "deck") = some (.ref dd)) (hs : m₀ (Str.ofString "states") = some (.ref dT))
    (turn : ∀ n t m₁ pre2 h tk oKK KK, n ∈ numsL → KK.length ≤ 100 → oKK.IsDictOf (intKind PG w) (vals KK) → (∀ p ∈ pre2, ∀ k ∈ LKeys C1 C2 x dx dS dK dT dKK dd l, p.1 ≠ k) →
      Fr h₀ env.locals h (fun y => if y = nx then some (.int n t) else mapL dd dT m₁ y) → News h₀ env.locals h (pre2 ++ LL C1 C2 x dx dS dK dT dKK dd l c1 c2 oX oS oK oT oKK oD oL) →
      wpAny (model prog w) A (execs body env) (KeepEnd w h₀ env.locals C1 C2 x dx dS dK dT dKK dd l c1 c2 oX oS oK oT oD oL pre2 (keepB S KK n) Q { s with heap := h, toks := tk }) E { s with heap := h, toks := tk })
    (done : ∀ m₁ h tk oKK, Fr h₀ env.locals h (mapL dd dT m₁) → News h₀ env.locals h (pre ++ LL C1 C2 x dx dS dK dT dKK dd l c1 c2 oX oS oK oT oKK oD oL) → oKK.IsDictOf (intKind PG w) (vals (ns.foldl (keepB S) KK)) → Q .next { s with heap := h, toks := tk }) :
    ForAt prog w A h₀ env nx body Q E (.ref lD) s := by
  have z := N _ (List.mem_append_left _ hl)
  refine loop_list (vs := vs) (fun i m₁ nw => m₁ (Str.ofString "deck") = some (.ref dd) ∧ m₁ (Str.ofString "states") = some (.ref dT) ∧ KeepW w C1 C2 x dx dS dK dT dKK dd l c1 c2 oX oS oK oT oD oL pre ((ns.take i).foldl (keepB S) KK) nw)
    hh ⟨_, z.1, rfl, _, rfl⟩ z.2.1 F N ⟨hd, hs, fun _ k => k _ hKK⟩ (fun I i v m₁ news₁ own h tk hv hlt hIo hown hJ hoff F1 N1 => ?_) fun m₁ news₁ h tk hJ F1 N1 => ?_
  · refine hide_goal (fun Hq => ?_)
    obtain ⟨n, t, rfl, hn⟩ := IntsAre.at hia i v hv
    refine Hq.get ?_
    have hkk : ∀ k ∈ LKeys C1 C2 x dx dS dK dT dKK dd l, k ≠ I := fun k hk => by
      obtain ⟨r, hr, rfl⟩ := List.mem_map.mp (hJ.2.2 (fun nw => k ∈ nw.map (·.1)) (fun oKK _ => by rw [List.map_append]; exact List.mem_append_right _ hk))
      exact hoff r hr
    have ht : (ns.take (i + 1)).foldl (keepB S) KK = keepB S ((ns.take i).foldl (keepB S) KK) n := by
      rw [List.take_add_one, hn, List.foldl_append]; rfl
    have hz : ((ns.take i).foldl (keepB S) KK).length ≤ 100 := Nat.le_trans (keep_len S _ KK) (Nat.le_trans (Nat.add_le_add_left (List.length_take_le' i ns) _) hlen)
    refine wpAny_mono (hJ.2.2 (fun nw => News h₀ env.locals h (own ++ nw) → wpAny (model prog w) A (execs body env) (KeepEnd w h₀ env.locals C1 C2 x dx dS dK dT dKK dd l c1 c2 oX oS oK oT oD oL (own ++ pre) (keepB S ((ns.take i).foldl (keepB S) KK) n) Q { s with heap := h, toks := tk }) E { s with heap := h, toks := tk })
      (fun oKK hKK1 N1 => turn n t m₁ (own ++ pre) h tk oKK _ (hns n (List.mem_of_getElem? hn)) hz hKK1 (fun p hp' k hk e => (List.mem_append.mp hp').elim (fun q => (hown p q).elim (fun e1 => hkk k hk (e.symm.trans e1)) (fun e1 => hp _ hl k hk (e1.symm.trans e))) (fun q => hp p q k hk e)) (mapL_eq hJ.1 hJ.2.1 ▸ F1) ((List.append_assoc own pre _).symm ▸ N1)) N1) (fun f s₂ p => ?_) fun _ _ e => e
    have fin : KeepEnd w h₀ env.locals C1 C2 x dx dS dK dT dKK dd l c1 c2 oX oS oK oT oD oL (own ++ pre) (keepB S ((ns.take i).foldl (keepB S) KK) n) Q { s with heap := h, toks := tk } .next s₂ → TurnEnd h₀ env.locals I own (fun m₁ nw => m₁ (Str.ofString "deck") = some (.ref dd) ∧ m₁ (Str.ofString "states") = some (.ref dT) ∧ KeepW w C1 C2 x dx dS dK dT dKK dd l c1 c2 oX oS oK oT oD oL pre ((ns.take (i + 1)).foldl (keepB S) KK) nw) { s with heap := h, toks := tk } Q .next s₂ := by
      rintro ⟨h', tk', m', oKK', e, F', N', hKK', hd', hs'⟩
      exact ⟨h', tk', m', _, e, F', (List.append_assoc own pre _) ▸ N', fun p hp' => (List.mem_append.mp hp').elim (fun q => hoff p (hJ.2.2 (fun nw => p ∈ nw) fun _ _ => List.mem_append_left _ q)) (fun q => hkk p.1 (List.mem_map_of_mem (f := (·.1)) q)), hd', hs', fun _ k => k _ (ht ▸ hKK')⟩
    cases f with
    | ret v => exact p
    | brk => exact p
    | next => exact fin p
    | cont => exact fin p
  · have h1 : ns.take vs.length = ns := by rw [hia.length, List.take_length]
    exact hJ.2.2 (fun nw => News h₀ env.locals h nw → Q .next { s with heap := h, toks := tk }) (fun oKK hKK1 N1 => done m₁ h tk oKK (mapL_eq hJ.1 hJ.2.1 ▸ F1) N1 (h1 ▸ hKK1)) N1
end
theorem LawI.valT {w : World} {dS dK dT dKK dd l : Addr} {oS oK oT oKK oD oL : Obj} {S T K : List (Str × Bool)} {KK : List (Int × Bool)} (I : LawI w dS dK dT dKK dd l oS oK oT oKK oD oL S T K KK) {k : Str} (hk : k ∈ words41) : valueAt (vals T) k = some (.bool (onB S k)) := by
  rw [valueAt_vals, I.ag.at hk]; rfl
theorem LL_memT {C1 C2 x dx dS dK dT dKK dd l : Addr} {c1 c2 oX oS oK oT oKK oD oL : Obj} {pre : List (Addr × Obj)} : (dT, oT) ∈ pre ++ LL C1 C2 x dx dS dK dT dKK dd l c1 c2 oX oS oK oT oKK oD oL := LL_at 6 (by decide)
theorem LL_memKK {C1 C2 x dx dS dK dT dKK dd l : Addr} {c1 c2 oX oS oK oT oKK oD oL : Obj} {pre : List (Addr × Obj)} : (dKK, oKK) ∈ pre ++ LL C1 C2 x dx dS dK dT dKK dd l c1 c2 oX oS oK oT oKK oD oL := LL_at 7 (by decide)
section
variable {w : World} {p : Program} {loose : List Str} {mean : ExcName → Option Value} {mg mb : Str → Option Value}
variable {A : Around} {env : Env} {outer : List Env} {A₀ : Around} {base h₀ : Heap} {L : Addr} {m : Str → Option Value} {hp0 : Heap} {G0 : Array GenState} {Dr0 : Drawn} {tk0 : Nat} {O0 : OsState} {Q E : Value → Shared → Prop}
variable {C1 C2 x dx dS dK dT dKK dd l : Addr} {c1 c2 oX oS oK oT oKK oD oL : Obj} {pre : List (Addr × Obj)} {S T K : List (Str × Bool)} {KK : List (Int × Bool)} {t1 t2 : Tok}
theorem u_savedL {ln : Addr} {kn : Nat} {vs : List Value} {ns : List Int} (hia : IntsAre vs ns) (hln : (ln, listOf vs.toArray kn) ∈ pre) (hl2 : vs.length ≤ 60) (LA : LawA C1 C2 x dx dS dK dT dKK dd l c1 c2) (I : LawI w dS dK dT dKK dd l oS oK oT oKK oD oL S T K KK)
    (hAf : A.frames = some (env :: outer)) (hf : env.frame = some L) (hke : env.scope.kind = .function) (B : Below A₀ base outer h₀) (F : Fr h₀ L hp0 m) (X : (hd.heap_39 w.params).In h₀) (N : News h₀ L hp0 (pre ++ LL C1 C2 x dx dS dK dT dKK dd l c1 c2 (mdDict w t1 t2 2 dS dK) oS oK oT oKK oD oL)) (TT : Top p loose mean mg mb h₀) (hdp : A.depth + 4 < recursionLimit) (hun : A.units + 8 * 4 < cLine)
    (k : ∀ D us kn' nw h' tk', Fr h₀ L h' m → News h₀ L h' (nw ++ (pre ++ LL C1 C2 x dx dS dK dT dKK dd l c1 c2 (mdDict w t1 t2 2 dS dK) oS oK oT oKK oD oL)) → (D, listOf us.toArray kn') ∈ nw → Rows nw us (savedB K ns) → Q (.ref D) ⟨h', G0, Dr0, tk', O0⟩) :
    wpAny (model PG w) (Clm A) (call (.ref 102) [.ref x, .ref ln]) Q E ⟨hp0, G0, Dr0, tk0, O0⟩ :=
  c_saved hia A env outer A₀ base h₀ L m _ hp0 G0 Dr0 tk0 O0 Q E hAf hf hke B F X N TT hdp hun (LL_at 2 (by decide)) (LL_at 3 (by decide)) (LL_at 5 (by decide)) I.hK LA.loK (List.mem_append_left _ hln) hl2
    fun D us kn' nw h1 h2 h3 _ h' tk' F' N' => k D us kn' nw h' tk' F' (N'.append (news_sub N' h3)) h1 h2
end
theorem saved_len (K : List (Str × Bool)) (ns : List Int) : (savedB K ns).length ≤ ns.length := by
  unfold savedB; exact List.length_filterMap_le _ _
theorem intsAre_take {vs : List Value} {ns : List Int} (h : IntsAre vs ns) : vs.length = ns.length := h.length
theorem rowsB_take {ex : List (Addr × Obj)} {ys : List Value} {KK : List (Int × Bool)} {i : Nat} {n : Int} {b : Bool} {a : Addr} {t : Tok} {k : Nat} (h : Rows ex ys (rowsB (KK.take i))) (hs : KK[i]? = some (n, b)) :
    Rows ((a, tupO [.str (wd n) t, .bool b] k) :: ex) (ys ++ [.ref a]) (rowsB (KK.take (i + 1))) := by
  unfold rowsB at h ⊢
  rw [List.take_add_one, hs, List.map_append]
  exact Rows.app (Rows.cons_mono h) ⟨⟨a, t, k, rfl, .head _⟩, trivial⟩
theorem ivals_at {prog : Program} {w : World} {o : Obj} {T : List (Int × Bool)} {i : Nat} {v : Value} (hT : o.IsDictOf (intKind prog w) (vals T)) (h : ∃ k x, (vals T)[i]? = some (k, x) ∧ (intKind prog w).is k v = true) :
    ∃ k b t, v = .int k t ∧ T[i]? = some (k, b) ∧ valueAt (vals T) k = some (.bool b) := by
  obtain ⟨k, x, e, hk⟩ := h
  have hv : ∃ t, v = .int k t := by
    cases v <;> simp [PySem.intKind, Value.isInt] at hk
    subst hk; exact ⟨_, rfl⟩
  obtain ⟨t, rfl⟩ := hv
  unfold vals at e
  rw [List.getElem?_map] at e
  cases q : T[i]? with
  | none => rw [q] at e; simp at e
  | some p =>
    rw [q] at e
    simp at e
    obtain ⟨rfl, rfl⟩ := e
    refine ⟨_, p.2, t, rfl, rfl, ?_⟩
    rw [valueAt_vals, getB_mem (nodup_of_dict hT) (List.mem_of_getElem? q)]
    rfl
def DueMid (w : World) (h₀ : Heap) (L : Addr) (dd dT : Addr) (LS : List (Addr × Obj)) (nb : Int) (tnb : Tok) (ps : List (Str × Bool)) (G0 : Array GenState) (Dr0 : Drawn) (O0 : OsState) (s' : Shared) : Prop :=
  ∃ h tk m D vs kn pre, s' = ⟨h, G0, Dr0, tk, O0⟩ ∧ Fr h₀ L h (fun y => if y = Str.ofString "due" then some (.ref D) else if y = Str.ofString "number" then some (.int nb tnb) else mapL dd dT m y) ∧ News h₀ L h (pre ++ LS) ∧ (D, listOf vs.toArray kn) ∈ pre ∧ Rows pre vs ps
theorem DueMid.intro {w : World} {h₀ h : Heap} {L dd dT D : Addr} {LS pre : List (Addr × Obj)} {nb : Int} {tnb : Tok} {ps : List (Str × Bool)} {vs : List Value} {kn : Nat} {G0 : Array GenState} {Dr0 : Drawn} {O0 : OsState} {m : Str → Option Value} {tk : Nat} (F : Fr h₀ L h m) (N : News h₀ L h (pre ++ LS)) (hD : (D, listOf vs.toArray kn) ∈ pre) (hR : Rows pre vs ps)
    (h1 : m (Str.ofString "due") = some (.ref D)) (h2 : m (Str.ofString "number") = some (.int nb tnb)) (h3 : m (Str.ofString "deck") = some (.ref dd)) (h4 : m (Str.ofString "states") = some (.ref dT)) : DueMid w h₀ L dd dT LS nb tnb ps G0 Dr0 O0 ⟨h, G0, Dr0, tk, O0⟩ := by
  refine ⟨h, tk, m, D, vs, kn, pre, rfl, ?_, N, hD, hR⟩
  have e : m = fun y => if y = Str.ofString "due" then some (.ref D) else if y = Str.ofString "number" then some (.int nb tnb) else mapL dd dT m y := by
    funext y
    by_cases q : y = Str.ofString "due"
    · rw [if_pos q, q, h1]
    · rw [if_neg q]
      by_cases q2 : y = Str.ofString "number"
      · rw [if_pos q2, q2, h2]
      · rw [if_neg q2, ← mapL_eq h3 h4]
  exact e ▸ F
theorem DueMid.elim {w : World} {h₀ : Heap} {L dd dT : Addr} {LS : List (Addr × Obj)} {nb : Int} {tnb : Tok} {ps : List (Str × Bool)} {G0 : Array GenState} {Dr0 : Drawn} {O0 : OsState} {s' : Shared} {P : Shared → Prop} (Z : DueMid w h₀ L dd dT LS nb tnb ps G0 Dr0 O0 s')
    (k : ∀ h tk m D vs kn pre, Fr h₀ L h (fun y => if y = Str.ofString "due" then some (.ref D) else if y = Str.ofString "number" then some (.int nb tnb) else mapL dd dT m y) → News h₀ L h (pre ++ LS) → (D, listOf vs.toArray kn) ∈ pre → Rows pre vs ps → P ⟨h, G0, Dr0, tk, O0⟩) : P s' := by
  obtain ⟨h, tk, m, D, vs, kn, pre, rfl, F, N, hD, hR⟩ := Z
  exact k h tk m D vs kn pre F N hD hR
theorem with_base {h₀ h : Heap} {L : Addr} {news : List (Addr × Obj)} {P : Prop} (N : News h₀ L h news) (k : ∀ B, B = news → News h₀ L h B → P) : P := k news rfl N
theorem take_snoc {vs : List Value} {i : Nat} {v : Value} (h : vs[i]? = some v) : vs.take (i + 1) = vs.take i ++ [v] := by rw [List.take_add_one, h]; rfl
theorem Rows.pt {nw : List (Addr × Obj)} {vs : List Value} {ps : List (Str × Bool)} (h : Rows nw vs ps) {i : Nat} {v : Value} (hv : vs[i]? = some v) : ∃ a o, v = .ref a ∧ (a, o) ∈ nw ∧ o.cls = .type "tuple" ∧ (∃ its n, o.data = .seq its n) := by
  have hi : i < ps.length := by rw [← h.length]; exact (List.getElem?_eq_some_iff.mp hv).1
  obtain ⟨a, t, n, h1, h2⟩ := Rows.at h i ps[i] (List.getElem?_eq_getElem hi)
  rw [h1] at hv
  cases hv
  exact ⟨a, _, rfl, h2, rfl, _, _, rfl⟩
theorem rowsB_len (KK : List (Int × Bool)) : (rowsB KK).length = KK.length := by unfold rowsB; rw [List.length_map]
theorem saved_one_ok {K : List (Str × Bool)} {KK : List (Int × Bool)} (h : KeptOk K KK) {n : Int} (hn : n ∈ numsL) : ∀ p ∈ savedB K [n], PyData.strOk p.1 = true := by
  rw [savedB_one h (wd_some hn)]
  cases getB KK n with
  | none => intro p hp; cases hp
  | some b =>
    intro p hp
    have e : p = (wd n, b) := List.mem_singleton.mp hp
    rw [e]; exact words_ok _ (wd_words hn)
theorem mem_mid {α : Type} {p a b : List α} {q : α} (h : q ∈ a ++ b) : q ∈ (p ++ a) ++ b := by rw [List.append_assoc]; exact List.mem_append_right _ h
noncomputable def pre4 (w : World) (dS dK x dx : Addr) (t1 t2 : Tok) (oS oK : Obj) : List (Addr × Obj) := [(dS, oS), (dK, oK), (x, instObj 77 dx), (dx, mdDict w t1 t2 2 dS dK)]
structure Mate (C1 C2 x dx dS dK dT dKK dd l x' dx' dS' dK' : Addr) : Prop where
  hp : ∀ k ∈ LKeys C1 C2 x dx dS dK dT dKK dd l, dS' ≠ k ∧ dK' ≠ k ∧ x' ≠ k ∧ dx' ≠ k
  n1 : dK' ≠ dS'
  n2 : x' ≠ dS'
  n3 : dx' ≠ dS'
  lo : (dS' == sysModules) = false
section
variable {w : World} {p : Program} {loose : List Str} {mean : ExcName → Option Value} {mg mb : Str → Option Value}
variable {A : Around} {env : Env} {outer : List Env} {A₀ : Around} {base h₀ : Heap} {L : Addr} {m : Str → Option Value} {hp0 : Heap} {G0 : Array GenState} {Dr0 : Drawn} {tk0 : Nat} {O0 : OsState} {Q E : Value → Shared → Prop}
variable {C1 C2 x dx dS dK dT dKK dd l x' dx' dS' dK' : Addr} {c1 c2 oX oS oK oT oKK oD oL oS' oK' : Obj} {S T K S' : List (Str × Bool)} {KK : List (Int × Bool)} {t1 t2 t1' t2' : Tok}
theorem Mate.off (M : Mate C1 C2 x dx dS dK dT dKK dd l x' dx' dS' dK') : ∀ p ∈ pre4 w dS' dK' x' dx' t1' t2' oS' oK', ∀ k ∈ LKeys C1 C2 x dx dS dK dT dKK dd l, p.1 ≠ k := fun p hp k hk => by
  have h := M.hp k hk
  unfold pre4 at hp
  rcases List.mem_cons.mp hp with rfl | hp
  · exact h.1
  rcases List.mem_cons.mp hp with rfl | hp
  · exact h.2.1
  rcases List.mem_cons.mp hp with rfl | hp
  · exact h.2.2.1
  · rw [List.mem_singleton.mp hp]; exact h.2.2.2
theorem Mate.upd (M : Mate C1 C2 x dx dS dK dT dKK dd l x' dx' dS' dK') (o : Obj) : updL (pre4 w dS' dK' x' dx' t1' t2' oS' oK' ++ LL C1 C2 x dx dS dK dT dKK dd l c1 c2 oX oS oK oT oKK oD oL) dS' o = pre4 w dS' dK' x' dx' t1' t2' o oK' ++ LL C1 C2 x dx dS dK dT dKK dd l c1 c2 oX oS oK oT oKK oD oL := by
  rw [updL_append, updL_off (a := LL C1 C2 x dx dS dK dT dKK dd l c1 c2 oX oS oK oT oKK oD oL)]
  · congr 1
    unfold updL pre4
    simp only [List.map_cons, List.map_nil, if_true, if_neg M.n1, if_neg M.n2, if_neg M.n3]
  · intro q hq e
    have hk : q.1 ∈ (LL C1 C2 x dx dS dK dT dKK dd l c1 c2 oX oS oK oT oKK oD oL).map (·.1) := List.mem_map_of_mem (f := (·.1)) hq
    exact (M.hp q.1 hk).1 e.symm
theorem Mate.md (M : Mate C1 C2 x dx dS dK dT dKK dd l x' dx' dS' dK') (h : oS'.IsDictOf (strKind PG w) (vals S')) {X : List (Addr × Obj)} : MdAt w (pre4 w dS' dK' x' dx' t1' t2' oS' oK' ++ X) x' dx' dS' dK' t1' t2' 2 oS' S' :=
  ⟨.tail _ (.tail _ (.head _)), .tail _ (.tail _ (.tail _ (.head _))), .head _, h, M.lo⟩
theorem u_copyL (LA : LawA C1 C2 x dx dS dK dT dKK dd l c1 c2) (I : LawI w dS dK dT dKK dd l oS oK oT oKK oD oL S T K KK)
    (hAf : A.frames = some (env :: outer)) (hf : env.frame = some L) (hke : env.scope.kind = .function) (B : Below A₀ base outer h₀) (F : Fr h₀ L hp0 m) (X : (hd.heap_39 w.params).In h₀) (N : News h₀ L hp0 ([] ++ LL C1 C2 x dx dS dK dT dKK dd l c1 c2 (mdDict w t1 t2 2 dS dK) oS oK oT oKK oD oL)) (TT : Top p loose mean mg mb h₀) (hdp : A.depth + 4 < recursionLimit) (hun : A.units + 8 * 4 < cLine)
    (k : ∀ x' dx' dS' dK' t1' t2' oS' oK' h' tk', Fr h₀ L h' m → News h₀ L h' (pre4 w dS' dK' x' dx' t1' t2' oS' oK' ++ LL C1 C2 x dx dS dK dT dKK dd l c1 c2 (mdDict w t1 t2 2 dS dK) oS oK oT oKK oD oL) → Mate C1 C2 x dx dS dK dT dKK dd l x' dx' dS' dK' → oS'.IsDictOf (strKind PG w) (vals S) → Q (.ref x') ⟨h', G0, Dr0, tk', O0⟩) :
    wpAny (model PG w) (Clm A) (call (.ref 121) [.ref x]) Q E ⟨hp0, G0, Dr0, tk0, O0⟩ :=
  u_copy I.ag.len.1 (by have := I.ok.length; (first | lia | omega)) hAf hf hke B F X N TT (LA.md (pre := []) I) (LL_at (pre := []) 5 (by decide)) I.hK LA.loK hdp hun fun x' dx' dS' dK' t1' t2' oS' oK' h' tk' F' N' a1 a2 a3 a4 lo hS' => by
    have sub : ∀ k ∈ LKeys C1 C2 x dx dS dK dT dKK dd l, k < dx' ∧ k < x' ∧ k < dS' ∧ k < dK' := fun k hk => by
      have hk' : k ∈ (LL C1 C2 x dx dS dK dT dKK dd l c1 c2 (mdDict w t1 t2 2 dS dK) oS oK oT oKK oD oL).map (·.1) := hk
      obtain ⟨q, hq, rfl⟩ := List.mem_map.mp hk'
      exact ⟨a1 q hq, a2 q (.tail _ hq), a3 q (.tail _ (.tail _ hq)), a4 q (.tail _ (.tail _ (.tail _ hq)))⟩
    refine k x' dx' dS' dK' t1' t2' oS' oK' h' tk' F' (news_sub N' fun q hq => ?_) ⟨fun k hk => ⟨Nat.ne_of_gt (sub k hk).2.2.1, Nat.ne_of_gt (sub k hk).2.2.2, Nat.ne_of_gt (sub k hk).2.1, Nat.ne_of_gt (sub k hk).1⟩, Nat.ne_of_gt (a4 _ (.head _)), Nat.ne_of_lt (a3 _ (.head _)), Nat.ne_of_lt (a3 _ (.tail _ (.head _))), lo⟩ hS'
    rcases List.mem_append.mp hq with hq | hq
    · unfold pre4 at hq
      rcases List.mem_cons.mp hq with rfl | hq
      · exact .tail _ (.head _)
      rcases List.mem_cons.mp hq with rfl | hq
      · exact .head _
      · exact .tail _ (.tail _ (List.mem_append_left _ hq))
    · exact .tail _ (.tail _ (.tail _ (.tail _ hq)))
theorem u_setM {t : Tok} {word : Str} {b : Bool} (M : Mate C1 C2 x dx dS dK dT dKK dd l x' dx' dS' dK') (hS' : oS'.IsDictOf (strKind PG w) (vals S')) (hlen : S'.length ≤ 1000)
    (hAf : A.frames = some (env :: outer)) (hf : env.frame = some L) (hke : env.scope.kind = .function) (B : Below A₀ base outer h₀) (F : Fr h₀ L hp0 m) (X : (hd.heap_39 w.params).In h₀) (N : News h₀ L hp0 (pre4 w dS' dK' x' dx' t1' t2' oS' oK' ++ LL C1 C2 x dx dS dK dT dKK dd l c1 c2 oX oS oK oT oKK oD oL)) (TT : Top p loose mean mg mb h₀) (hdp : A.depth + 2 < recursionLimit) (hun : A.units + 8 * 2 < cLine)
    (k : ∀ oS'' h' tk', Fr h₀ L h' m → News h₀ L h' (pre4 w dS' dK' x' dx' t1' t2' oS'' oK' ++ LL C1 C2 x dx dS dK dT dKK dd l c1 c2 oX oS oK oT oKK oD oL) → oS''.IsDictOf (strKind PG w) (vals (setB S' word b)) → Q .none ⟨h', G0, Dr0, tk', O0⟩) :
    wpAny (model PG w) (Clm A) (call (.ref 74) [.ref x', .str word t, .bool b]) Q E ⟨hp0, G0, Dr0, tk0, O0⟩ :=
  c_set A env outer A₀ base h₀ L m _ hp0 G0 Dr0 tk0 O0 Q E hAf hf hke B F X N TT hdp hun (.tail _ (.tail _ (.head _))) (.tail _ (.tail _ (.tail _ (.head _)))) (.head _) hS' hlen M.n3 M.n2 fun oS'' h2 h' tk' F' N' => k oS'' h' tk' F' (M.upd oS'' ▸ N') h2
theorem u_sameM (M : Mate C1 C2 x dx dS dK dT dKK dd l x' dx' dS' dK') (hS' : oS'.IsDictOf (strKind PG w) (vals S')) (ho : Okay S') (LA : LawA C1 C2 x dx dS dK dT dKK dd l c1 c2) (I : LawI w dS dK dT dKK dd l oS oK oT oKK oD oL S T K KK) (b : Bool) (hb : b = true ↔ ∀ k, onB S' k = onB S k)
    (hAf : A.frames = some (env :: outer)) (hf : env.frame = some L) (hke : env.scope.kind = .function) (B : Below A₀ base outer h₀) (F : Fr h₀ L hp0 m) (X : (hd.heap_39 w.params).In h₀) (N : News h₀ L hp0 (pre4 w dS' dK' x' dx' t1' t2' oS' oK' ++ LL C1 C2 x dx dS dK dT dKK dd l c1 c2 (mdDict w t1 t2 2 dS dK) oS oK oT oKK oD oL)) (TT : Top p loose mean mg mb h₀) (hdp : A.depth + 12 < recursionLimit) (hun : A.units + 8 * 12 < cLine)
    (k : ∀ h' tk', Fr h₀ L h' m → News h₀ L h' (pre4 w dS' dK' x' dx' t1' t2' oS' oK' ++ LL C1 C2 x dx dS dK dT dKK dd l c1 c2 (mdDict w t1 t2 2 dS dK) oS oK oT oKK oD oL) → Q (.bool b) ⟨h', G0, Dr0, tk', O0⟩) :
    wpAny (model PG w) (Clm A) (call (.ref 114) [.ref x', .ref x]) Q E ⟨hp0, G0, Dr0, tk0, O0⟩ :=
  u_same ho I.ag.1 hAf hf hke B F X N TT (M.md hS') (LA.md I) b hb hdp hun k
theorem u_shownM (M : Mate C1 C2 x dx dS dK dT dKK dd l x' dx' dS' dK') (hS' : oS'.IsDictOf (strKind PG w) (vals S)) (LA : LawA C1 C2 x dx dS dK dT dKK dd l c1 c2) (I : LawI w dS dK dT dKK dd l oS oK oT oKK oD oL S T K KK)
    (hAf : A.frames = some (env :: outer)) (hf : env.frame = some L) (hke : env.scope.kind = .function) (B : Below A₀ base outer h₀) (F : Fr h₀ L hp0 m) (X : (hd.heap_39 w.params).In h₀) (N : News h₀ L hp0 (pre4 w dS' dK' x' dx' t1' t2' oS' oK' ++ LL C1 C2 x dx dS dK dT dKK dd l c1 c2 oX oS oK oT oKK oD oL)) (TT : Top p loose mean mg mb h₀) (hdp : A.depth + 14 < recursionLimit) (hun : A.units + 8 * 14 < cLine)
    (k : ∀ h' tk', Fr h₀ L h' m → News h₀ L h' (pre4 w dS' dK' x' dx' t1' t2' oS' oK' ++ LL C1 C2 x dx dS dK dT dKK dd l c1 c2 oX oS oK oT oKK oD oL) → Q (.bool true) ⟨h', G0, Dr0, tk', O0⟩) :
    wpAny (model PG w) (Clm A) (call (.ref 168) [.ref x', .ref dT]) Q E ⟨hp0, G0, Dr0, tk0, O0⟩ :=
  c_shown I.ag A env outer A₀ base h₀ L m _ hp0 G0 Dr0 tk0 O0 Q E hAf hf hke B F X N TT hdp hun (.tail _ (.tail _ (.head _))) (.tail _ (.tail _ (.tail _ (.head _)))) (.head _) hS' M.lo LL_memT I.hT LA.loT k
theorem u_namesL (LA : LawA C1 C2 x dx dS dK dT dKK dd l c1 c2) (I : LawI w dS dK dT dKK dd l oS oK oT oKK oD oL S T K KK) {pre : List (Addr × Obj)}
    (hAf : A.frames = some (env :: outer)) (hf : env.frame = some L) (hke : env.scope.kind = .function) (B : Below A₀ base outer h₀) (F : Fr h₀ L hp0 m) (X : (hd.heap_39 w.params).In h₀) (N : News h₀ L hp0 (pre ++ LL C1 C2 x dx dS dK dT dKK dd l c1 c2 oX oS oK oT oKK oD oL)) (TT : Top p loose mean mg mb h₀) (hdp : A.depth + 16 < recursionLimit) (hun : A.units + 8 * 16 < cLine)
    (k : ∀ nw h' tk', Fr h₀ L h' m → News h₀ L h' nw → Q (.bool true) ⟨h', G0, Dr0, tk', O0⟩) :
    wpAny (model PG w) (Clm A) (call (.ref 175) [.ref dd]) Q E ⟨hp0, G0, Dr0, tk0, O0⟩ :=
  c_names A env outer A₀ base h₀ L m _ hp0 G0 Dr0 tk0 O0 Q E hAf hf hke B F X N TT hdp hun (LL_at 8 (by decide)) (LL_at 9 (by decide)) LA.loD (LA.ne 8 9 (by decide) (by decide)) I.dk k
end
theorem late_mem {k : Int} {n : Int} (h0 : 0 ≤ k) (h : numsL[(8 + k).toNat]? = some n) : n ∈ numsL ∧ n ∈ numsL.drop 8 := by
  refine ⟨List.mem_of_getElem? h, ?_⟩
  have e : (8 + k).toNat = 8 + k.toNat := by (first | lia | omega)
  rw [e, ← List.getElem?_drop] at h
  exact List.mem_of_getElem? h
theorem late_wd {n : Int} (h : n ∈ numsL ∧ n ∈ numsL.drop 8) : groupOf (wd n) = [] := late_group h.2 (wd_some h.1)
theorem MdAt.cons1 {w : World} {q : Addr × Obj} {news : List (Addr × Obj)} {x dx dS dK : Addr} {t1 t2 : Tok} {n : Nat} {oS : Obj} {S : List (Str × Bool)} (M : MdAt w news x dx dS dK t1 t2 n oS S) : MdAt w (q :: news) x dx dS dK t1 t2 n oS S := ⟨.tail _ M.hx, .tail _ M.hdx, .tail _ M.hdS, M.hS, M.lo⟩
end
local macro_rules | `(tactic| k_lt $_) => `(tactic| skip)
local macro_rules | `(tactic| k_ne) => `(tactic| ((try dsimp only); exact off_ne (by assumption) (by k_mem)))
local macro_rules | `(tactic| k_mem) => `(tactic| first | with_reducible assumption | exact List.Mem.head _ | (refine List.Mem.tail _ ?_; k_mem) | (refine List.mem_append_right _ ?_; k_mem))
section
theorem hide3 {M : Model} {A : Around} {E : Value → Shared → Prop} {s : Shared} {env : Env} {Q : Flow → Shared → Prop} {a b c : Stmt} {tl : List Stmt} (h : ∀ R : List Stmt, R = tl → wpAny M A (execs (a :: b :: c :: R) env) Q E s) : wpAny M A (execs (a :: b :: c :: tl) env) Q E s := h tl rfl
theorem le_eq {a b n : Nat} (h : a = b) (hn : b ≤ n) : a ≤ n := h ▸ hn
theorem law_in {M : Model} {env : Env} {Q : Flow → Shared → Prop} {E : Value → Shared → Prop} {t : Sem Flow} {s : Shared} (P : PassesOwn M (callerA.deeper env) env E)
    (h : ∀ A1 Q1 E1, A1.frames = some (env :: []) → A1.depth + 20 < recursionLimit → A1.units + (8 * 20 + 5) < cLine → HidV Q1 Q → PassesOwn M (Clm A1) env E1 → wpAny M (Clm A1) t Q1 E1 s) : wpAny M (callerA.deeper env) t Q E s :=
  h (callerA.deeper env) Q E rfl (by show 1 + claimMargin + 1 + 20 < recursionLimit; decide +kernel) (by show 4 + 3 + (8 * 20 + 5) < cLine; decide +kernel) ⟨fun _ _ h => h⟩ P
set_option maxHeartbeats 8000000 in
theorem xx : PySem.Challenge.rw_og0231_01.Holds := Mine.hd (by
  w_on
  k_go0
  (all_goals try k_fold)
  (try dsimp only)
  refine law_in (by passes_own) (fun A1 Q1 E1 hA1 hd1 hu1 H1 P1 => ?_)
  refine hide3 (fun R hR => ?_)
  (repeat' (first | (k_unfold; (try dsimp only)) | ((first | (with_reducible refine Then.next ?_) | (with_reducible refine Then.ret ?_) | (with_reducible refine Joined.next ?_) | (with_reducible refine Joined.ret ?_) | (with_reducible refine HidV.get (by with_reducible assumption) _ _ ?_) | (with_reducible refine Hdn.get (by with_reducible assumption) ?_) | (with_reducible refine TurnEnd.toRet ?_)); (try dsimp only)) | (k_end; wrow_close) | ((with_reducible refine hide_turn ?_); intro Q1 H1) | (with_reducible refine exec_hid ?_) | (with_reducible (first | refine sp1 ?_ | refine sp2 ?_ | refine sp3 ?_ | refine sp4 ?_ | refine sp5 ?_ | refine sp6 ?_ | refine sp7 ?_ | refine sp8 ?_ | refine sp9 ?_ | refine sp10 ?_ | refine sp11 ?_ | refine sp12 ?_ | refine sp13 ?_ | refine sp14 ?_ | refine sp15 ?_ | refine sp16 ?_ | refine sp17 ?_ | refine sp18 ?_ | refine sp19 ?_ | refine sp22 ?_ | refine sp23 ?_ | refine sp24 ?_)) | ((with_reducible show wpAny _ _ (exec (Stmt.For (Expr.Name _ _) _ _ [] _) _) _ _ _); (with_unfolding_all refine' for_at ?F ?k1 ?k2 ?_ ?k3 ?k4; (case F => k_asm); (case k1 => exact rfl); (case k2 => exact rfl); (case k3 => intro _; rfl); (case k4 => assumption); k_whole)) | walk1 | (dsimp only; walk1) | (leave1; walk_say "STEP leave1"; try dsimp only) | fail "no step"))
  refine Stop.go ?_
  rename_i w s0 s1 mg mb G Y fa o pm doc ho hg KX X V GL T B TE TW wa wo M w9 w8 hcd ns hs hlay0 hL1 hr1 hl2 w6 w5 sc vs w2 hL ra w1 r0 hI hr hc1 hc2 K0 hD h1 tk1 F o1 o2 d1 d2 N0 CA
  have hgen : s1.gens = #[] := by assumption
  clear hcd hD GL TE TW M G Y ho hg V B hs hlay0 hL1 hr1 hl2 ra w1 r0 hr hc2
  have F0 : Fr s1.heap s1.heap.objs.size h1 (fun y => if y = Str.ofString "script" then some (Value.ref sc) else none) := by with_unfolding_all exact F
  have d10 : o1.data = Data.cell none := by with_unfolding_all exact d1
  have d20 : o2.data = Data.cell none := by with_unfolding_all exact d2
  have K1 : Below callerA s1.heap [] s1.heap := K0
  clear F d1 d2 CA K0
  clear X
  obtain ⟨H0, G0, Dr0, tk0, O0⟩ := s1
  (try dsimp only at *)
  generalize hL1 : H0.objs.size = L1 at *
  clear hL1
  have hlen : vs.length ≤ 63 := by have := hI.length; omega
  refine c_deck hI hlen _ _ _ _ _ _ _ _ _ _ _ _ _ _ _ _ hA1 rfl rfl K1 F0 KX N0 T hL (room hd1 (by decide)) (room hu1 (by decide)) ?_
  intro dd l oD oL ne1 ne2 ne3 lo1 hdk h2 tk2 F2 N2
  rw [List.forall_mem_cons, List.forall_mem_cons] at ne2 ne3
  obtain ⟨n1, n2, _⟩ := ne2
  obtain ⟨n3, n4, _⟩ := ne3
  replace n1 := neN n1
  replace n2 := neN n2
  replace n3 := neN n3
  replace n4 := neN n4
  replace ne1 := neN ne1
  (try dsimp only at n1 n2 n3 n4)
  (try dsimp only)
  (repeat' (first | (k_unfold; (try dsimp only)) | ((first | (with_reducible refine Then.next ?_) | (with_reducible refine Then.ret ?_) | (with_reducible refine Joined.next ?_) | (with_reducible refine Joined.ret ?_) | (with_reducible refine HidV.get (by with_reducible assumption) _ _ ?_) | (with_reducible refine Hdn.get (by with_reducible assumption) ?_) | (with_reducible refine TurnEnd.toRet ?_)); (try dsimp only)) | (k_end; wrow_close) | ((with_reducible refine hide_turn ?_); intro Q1 H1) | (with_reducible refine exec_hid ?_) | (with_reducible (first | refine sp1 ?_ | refine sp2 ?_ | refine sp3 ?_ | refine sp4 ?_ | refine sp5 ?_ | refine sp6 ?_ | refine sp7 ?_ | refine sp8 ?_ | refine sp9 ?_ | refine sp10 ?_ | refine sp11 ?_ | refine sp12 ?_ | refine sp13 ?_ | refine sp14 ?_ | refine sp15 ?_ | refine sp16 ?_ | refine sp17 ?_ | refine sp18 ?_ | refine sp19 ?_ | refine sp22 ?_ | refine sp23 ?_ | refine sp24 ?_)) | ((with_reducible show wpAny _ _ (exec (Stmt.For (Expr.Name _ _) _ _ [] _) _) _ _ _); (with_unfolding_all refine' for_at ?F ?k1 ?k2 ?_ ?k3 ?k4; (case F => k_asm); (case k1 => exact rfl); (case k2 => exact rfl); (case k3 => intro _; rfl); (case k4 => assumption); k_whole)) | walk1 | (dsimp only; walk1) | (leave1; walk_say "STEP leave1"; try dsimp only) | fail "no step"))
  refine Stop.go ?_
  refine u_new (by assumption) (by exact rfl) (by exact rfl) (by k_asm) (by k_asm) (by k_asm) (by k_asm) (by k_asm) (by exact room (by assumption) (by decide)) (by exact room (by assumption) (by decide)) ?_
  intro x dx dS dK t1 t2 oS oK h3 tk3 F3 N3 m1 m2 m3 m4 lo2 lo3 hS1 hK1
  (try dsimp only)
  obtain ⟨kvP, hPD, hPS⟩ := priv_dict (prog := PG) KX
  obtain ⟨kvQ, hQD, hQS⟩ := plain_dict (prog := PG) KX
  have hPl : kvP.length = 36 := by have h9 := congrArg List.length hPS.keys; rw [List.length_map, List.length_map, privL_length] at h9; exact h9
  have hQl : kvQ.length = 4 := by have h9 := congrArg List.length hQS.keys; rw [List.length_map, List.length_map, plainL_length] at h9; exact h9
  (repeat' (first | (k_unfold; (try dsimp only)) | ((first | (with_reducible refine Then.next ?_) | (with_reducible refine Then.ret ?_) | (with_reducible refine Joined.next ?_) | (with_reducible refine Joined.ret ?_) | (with_reducible refine HidV.get (by with_reducible assumption) _ _ ?_) | (with_reducible refine Hdn.get (by with_reducible assumption) ?_) | (with_reducible refine TurnEnd.toRet ?_)); (try dsimp only)) | (k_end; wrow_close) | ((with_reducible refine hide_turn ?_); intro Q1 H1) | (with_reducible refine exec_hid ?_) | (with_reducible (first | refine sp1 ?_ | refine sp2 ?_ | refine sp3 ?_ | refine sp4 ?_ | refine sp5 ?_ | refine sp6 ?_ | refine sp7 ?_ | refine sp8 ?_ | refine sp9 ?_ | refine sp10 ?_ | refine sp11 ?_ | refine sp12 ?_ | refine sp13 ?_ | refine sp14 ?_ | refine sp15 ?_ | refine sp16 ?_ | refine sp17 ?_ | refine sp18 ?_ | refine sp19 ?_ | refine sp22 ?_ | refine sp23 ?_ | refine sp24 ?_)) | ((with_reducible show wpAny _ _ (exec (Stmt.For (Expr.Name _ _) _ _ [] _) _) _ _ _); (with_unfolding_all refine' for_at ?F ?k1 ?k2 ?_ ?k3 ?k4; (case F => k_asm); (case k1 => exact rfl); (case k2 => exact rfl); (case k3 => intro _; rfl); (case k4 => assumption); k_whole)) | walk1 | (dsimp only; walk1) | (leave1; walk_say "STEP leave1"; try dsimp only) | fail "no step"))
  rename_i dKK hA oKK lKK loK hsK fsK hiK fiK Dt hB lDt hC1 hC2 hC3 c1 hcc1 hC4 c2 F4 N4 hcc2
  refine Stop.go ?_
  clear hsK fsK fiK
  refine base_values_method (hPD.keep F4.keep) ?_
  (try dsimp only)
  (repeat' (first | (k_unfold; (try dsimp only)) | ((first | (with_reducible refine Then.next ?_) | (with_reducible refine Then.ret ?_) | (with_reducible refine Joined.next ?_) | (with_reducible refine Joined.ret ?_) | (with_reducible refine HidV.get (by with_reducible assumption) _ _ ?_) | (with_reducible refine Hdn.get (by with_reducible assumption) ?_) | (with_reducible refine TurnEnd.toRet ?_)); (try dsimp only)) | (k_end; wrow_close) | ((with_reducible refine hide_turn ?_); intro Q1 H1) | (with_reducible refine exec_hid ?_) | (with_reducible (first | refine sp1 ?_ | refine sp2 ?_ | refine sp3 ?_ | refine sp4 ?_ | refine sp5 ?_ | refine sp6 ?_ | refine sp7 ?_ | refine sp8 ?_ | refine sp9 ?_ | refine sp10 ?_ | refine sp11 ?_ | refine sp12 ?_ | refine sp13 ?_ | refine sp14 ?_ | refine sp15 ?_ | refine sp16 ?_ | refine sp17 ?_ | refine sp18 ?_ | refine sp19 ?_ | refine sp22 ?_ | refine sp23 ?_ | refine sp24 ?_)) | ((with_reducible show wpAny _ _ (exec (Stmt.For (Expr.Name _ _) _ _ [] _) _) _ _ _); (with_unfolding_all refine' for_at ?F ?k1 ?k2 ?_ ?k3 ?k4; (case F => k_asm); (case k1 => exact rfl); (case k2 => exact rfl); (case k3 => intro _; rfl); (case k4 => assumption); k_whole)) | walk1 | (dsimp only; walk1) | (leave1; walk_say "STEP leave1"; try dsimp only) | fail "no step"))
  refine Stop.go ?_
  refine base_values_call F4 N4 (hPD.keep F4.keep) low136 (fun D5 h5 F5 N5 lt5 => ?_)
  (try dsimp only)
  (repeat' (first | (k_unfold; (try dsimp only)) | ((first | (with_reducible refine Then.next ?_) | (with_reducible refine Then.ret ?_) | (with_reducible refine Joined.next ?_) | (with_reducible refine Joined.ret ?_) | (with_reducible refine HidV.get (by with_reducible assumption) _ _ ?_) | (with_reducible refine Hdn.get (by with_reducible assumption) ?_) | (with_reducible refine TurnEnd.toRet ?_)); (try dsimp only)) | (k_end; wrow_close) | ((with_reducible refine hide_turn ?_); intro Q1 H1) | (with_reducible refine exec_hid ?_) | (with_reducible (first | refine sp1 ?_ | refine sp2 ?_ | refine sp3 ?_ | refine sp4 ?_ | refine sp5 ?_ | refine sp6 ?_ | refine sp7 ?_ | refine sp8 ?_ | refine sp9 ?_ | refine sp10 ?_ | refine sp11 ?_ | refine sp12 ?_ | refine sp13 ?_ | refine sp14 ?_ | refine sp15 ?_ | refine sp16 ?_ | refine sp17 ?_ | refine sp18 ?_ | refine sp19 ?_ | refine sp22 ?_ | refine sp23 ?_ | refine sp24 ?_)) | ((with_reducible show wpAny _ _ (exec (Stmt.For (Expr.Name _ _) _ _ [] _) _) _ _ _); (with_unfolding_all refine' for_at ?F ?k1 ?k2 ?_ ?k3 ?k4; (case F => k_asm); (case k1 => exact rfl); (case k2 => exact rfl); (case k3 => intro _; rfl); (case k4 => assumption); k_whole)) | walk1 | (dsimp only; walk1) | (leave1; walk_say "STEP leave1"; try dsimp only) | fail "no step"))
  refine Stop.go ?_
  refine base_values_list rfl F5 N5 (.head _) (hPD.keep F5.keep) hPS (le_eq hPl (by decide)) (fun B6 c6 h6 tk6 vs6 F6 N6 lt6 hs6 => ?_)
  (try dsimp only)
  (repeat' (first | (k_unfold; (try dsimp only)) | ((first | (with_reducible refine Then.next ?_) | (with_reducible refine Then.ret ?_) | (with_reducible refine Joined.next ?_) | (with_reducible refine Joined.ret ?_) | (with_reducible refine HidV.get (by with_reducible assumption) _ _ ?_) | (with_reducible refine Hdn.get (by with_reducible assumption) ?_) | (with_reducible refine TurnEnd.toRet ?_)); (try dsimp only)) | (k_end; wrow_close) | ((with_reducible refine hide_turn ?_); intro Q1 H1) | (with_reducible refine exec_hid ?_) | (with_reducible (first | refine sp1 ?_ | refine sp2 ?_ | refine sp3 ?_ | refine sp4 ?_ | refine sp5 ?_ | refine sp6 ?_ | refine sp7 ?_ | refine sp8 ?_ | refine sp9 ?_ | refine sp10 ?_ | refine sp11 ?_ | refine sp12 ?_ | refine sp13 ?_ | refine sp14 ?_ | refine sp15 ?_ | refine sp16 ?_ | refine sp17 ?_ | refine sp18 ?_ | refine sp19 ?_ | refine sp22 ?_ | refine sp23 ?_ | refine sp24 ?_)) | ((with_reducible show wpAny _ _ (exec (Stmt.For (Expr.Name _ _) _ _ [] _) _) _ _ _); (with_unfolding_all refine' for_at ?F ?k1 ?k2 ?_ ?k3 ?k4; (case F => k_asm); (case k1 => exact rfl); (case k2 => exact rfl); (case k3 => intro _; rfl); (case k4 => assumption); k_whole)) | walk1 | (dsimp only; walk1) | (leave1; walk_say "STEP leave1"; try dsimp only) | fail "no step"))
  refine Stop.go ?_
  refine base_values_method (hQD.keep (Fr.keep (by k_asm))) ?_
  (try dsimp only)
  (repeat' (first | (k_unfold; (try dsimp only)) | ((first | (with_reducible refine Then.next ?_) | (with_reducible refine Then.ret ?_) | (with_reducible refine Joined.next ?_) | (with_reducible refine Joined.ret ?_) | (with_reducible refine HidV.get (by with_reducible assumption) _ _ ?_) | (with_reducible refine Hdn.get (by with_reducible assumption) ?_) | (with_reducible refine TurnEnd.toRet ?_)); (try dsimp only)) | (k_end; wrow_close) | ((with_reducible refine hide_turn ?_); intro Q1 H1) | (with_reducible refine exec_hid ?_) | (with_reducible (first | refine sp1 ?_ | refine sp2 ?_ | refine sp3 ?_ | refine sp4 ?_ | refine sp5 ?_ | refine sp6 ?_ | refine sp7 ?_ | refine sp8 ?_ | refine sp9 ?_ | refine sp10 ?_ | refine sp11 ?_ | refine sp12 ?_ | refine sp13 ?_ | refine sp14 ?_ | refine sp15 ?_ | refine sp16 ?_ | refine sp17 ?_ | refine sp18 ?_ | refine sp19 ?_ | refine sp22 ?_ | refine sp23 ?_ | refine sp24 ?_)) | ((with_reducible show wpAny _ _ (exec (Stmt.For (Expr.Name _ _) _ _ [] _) _) _ _ _); (with_unfolding_all refine' for_at ?F ?k1 ?k2 ?_ ?k3 ?k4; (case F => k_asm); (case k1 => exact rfl); (case k2 => exact rfl); (case k3 => intro _; rfl); (case k4 => assumption); k_whole)) | walk1 | (dsimp only; walk1) | (leave1; walk_say "STEP leave1"; try dsimp only) | fail "no step"))
  refine Stop.go ?_
  refine base_values_call (by k_asm) (by k_asm) (hQD.keep (Fr.keep (by k_asm))) low139 (fun D7 h7 F7 N7 lt7 => ?_)
  (try dsimp only)
  (repeat' (first | (k_unfold; (try dsimp only)) | ((first | (with_reducible refine Then.next ?_) | (with_reducible refine Then.ret ?_) | (with_reducible refine Joined.next ?_) | (with_reducible refine Joined.ret ?_) | (with_reducible refine HidV.get (by with_reducible assumption) _ _ ?_) | (with_reducible refine Hdn.get (by with_reducible assumption) ?_) | (with_reducible refine TurnEnd.toRet ?_)); (try dsimp only)) | (k_end; wrow_close) | ((with_reducible refine hide_turn ?_); intro Q1 H1) | (with_reducible refine exec_hid ?_) | (with_reducible (first | refine sp1 ?_ | refine sp2 ?_ | refine sp3 ?_ | refine sp4 ?_ | refine sp5 ?_ | refine sp6 ?_ | refine sp7 ?_ | refine sp8 ?_ | refine sp9 ?_ | refine sp10 ?_ | refine sp11 ?_ | refine sp12 ?_ | refine sp13 ?_ | refine sp14 ?_ | refine sp15 ?_ | refine sp16 ?_ | refine sp17 ?_ | refine sp18 ?_ | refine sp19 ?_ | refine sp22 ?_ | refine sp23 ?_ | refine sp24 ?_)) | ((with_reducible show wpAny _ _ (exec (Stmt.For (Expr.Name _ _) _ _ [] _) _) _ _ _); (with_unfolding_all refine' for_at ?F ?k1 ?k2 ?_ ?k3 ?k4; (case F => k_asm); (case k1 => exact rfl); (case k2 => exact rfl); (case k3 => intro _; rfl); (case k4 => assumption); k_whole)) | walk1 | (dsimp only; walk1) | (leave1; walk_say "STEP leave1"; try dsimp only) | fail "no step"))
  refine Stop.go ?_
  refine base_values_list rfl F7 N7 (.head _) (hQD.keep F7.keep) hQS (le_eq hQl (by decide)) (fun B8 c8 h8 tk8 vs8 F8 N8 lt8 hs8 => ?_)
  (try dsimp only)
  (repeat' (first | (k_unfold; (try dsimp only)) | ((first | (with_reducible refine Then.next ?_) | (with_reducible refine Then.ret ?_) | (with_reducible refine Joined.next ?_) | (with_reducible refine Joined.ret ?_) | (with_reducible refine HidV.get (by with_reducible assumption) _ _ ?_) | (with_reducible refine Hdn.get (by with_reducible assumption) ?_) | (with_reducible refine TurnEnd.toRet ?_)); (try dsimp only)) | (k_end; wrow_close) | ((with_reducible refine hide_turn ?_); intro Q1 H1) | (with_reducible refine exec_hid ?_) | (with_reducible (first | refine sp1 ?_ | refine sp2 ?_ | refine sp3 ?_ | refine sp4 ?_ | refine sp5 ?_ | refine sp6 ?_ | refine sp7 ?_ | refine sp8 ?_ | refine sp9 ?_ | refine sp10 ?_ | refine sp11 ?_ | refine sp12 ?_ | refine sp13 ?_ | refine sp14 ?_ | refine sp15 ?_ | refine sp16 ?_ | refine sp17 ?_ | refine sp18 ?_ | refine sp19 ?_ | refine sp22 ?_ | refine sp23 ?_ | refine sp24 ?_)) | ((with_reducible show wpAny _ _ (exec (Stmt.For (Expr.Name _ _) _ _ [] _) _) _ _ _); (with_unfolding_all refine' for_at ?F ?k1 ?k2 ?_ ?k3 ?k4; (case F => k_asm); (case k1 => exact rfl); (case k2 => exact rfl); (case k3 => intro _; rfl); (case k4 => assumption); k_whole)) | walk1 | (dsimp only; walk1) | (leave1; walk_say "STEP leave1"; try dsimp only) | fail "no step"))
  refine Stop.go ?_
  have v6l : vs6.length = 36 := by have := hs6.length; rw [List.length_map, privL_length] at this; exact this
  have v8l : vs8.length = 4 := by have := hs8.length; rw [List.length_map, plainL_length] at this; exact this
  refine add_listsD F8 N8 (.tail _ (.tail _ (.head _))) (.head _) (by rw [v6l, v8l]; decide) (fun B9 h9 F9 N9 lt9 => ?_)
  have N9' := news_sub N9 (news' := [(B9, listOf (vs6 ++ vs8).toArray 0), (dKK, oKK), (dS, oS), (dK, oK), (x, instObj 77 dx), (dx, mdDict w t1 t2 2 dS dK), (dd, oD), (l, oL), (L1 + 1 + 1, c2), (L1 + 1, c1)]) (by (repeat' (first | exact List.forall_mem_nil _ | (refine List.forall_mem_cons.mpr ⟨by k_mem, ?_⟩))))
  clear N9 N8 N7 N6 N5 N4 F4 F5 F6 F7 F8
  (try dsimp only)
  (repeat' (first | (k_unfold; (try dsimp only)) | ((first | (with_reducible refine Then.next ?_) | (with_reducible refine Then.ret ?_) | (with_reducible refine Joined.next ?_) | (with_reducible refine Joined.ret ?_) | (with_reducible refine HidV.get (by with_reducible assumption) _ _ ?_) | (with_reducible refine Hdn.get (by with_reducible assumption) ?_) | (with_reducible refine TurnEnd.toRet ?_)); (try dsimp only)) | (k_end; wrow_close) | ((with_reducible refine hide_turn ?_); intro Q1 H1) | (with_reducible refine exec_hid ?_) | (with_reducible (first | refine sp1 ?_ | refine sp2 ?_ | refine sp3 ?_ | refine sp4 ?_ | refine sp5 ?_ | refine sp6 ?_ | refine sp7 ?_ | refine sp8 ?_ | refine sp9 ?_ | refine sp10 ?_ | refine sp11 ?_ | refine sp12 ?_ | refine sp13 ?_ | refine sp14 ?_ | refine sp15 ?_ | refine sp16 ?_ | refine sp17 ?_ | refine sp18 ?_ | refine sp19 ?_ | refine sp22 ?_ | refine sp23 ?_ | refine sp24 ?_)) | ((with_reducible show wpAny _ _ (exec (Stmt.For (Expr.Name _ _) _ _ [] _) _) _ _ _); (with_unfolding_all refine' for_at ?F ?k1 ?k2 ?_ ?k3 ?k4; (case F => k_asm); (case k1 => exact rfl); (case k2 => exact rfl); (case k3 => intro _; rfl); (case k4 => assumption); k_whole)) | walk1 | (dsimp only; walk1) | (leave1; walk_say "STEP leave1"; try dsimp only) | fail "no step"))
  refine Stop.go ?_
  refine add_listsD (by k_asm) (by k_asm) (.tail _ (.head _)) (.head _) (by rw [List.length_append, v6l, v8l]; exact (by decide : 36 + 4 + 1 ≤ 1000)) (fun B10 h10 F10 N10 lt10 => ?_)
  rename_i tE _ _ _ _
  have hws := strsAre_app (strsAre_app hs6 hs8) (.cons (Str.ofString "eight_bits") tk8 .nil)
  generalize hvw : vs6 ++ vs8 ++ [Value.str (Str.ofString "eight_bits") tk8] = vw at N10 hws
  have N11 := news_sub N10 (news' := [(B10, listOf vw.toArray 0), (dKK, oKK), (dS, oS), (dK, oK), (x, instObj 77 dx), (dx, mdDict w t1 t2 2 dS dK), (dd, oD), (l, oL), (L1 + 1 + 1, c2), (L1 + 1, c1)]) (by (repeat' (first | exact List.forall_mem_nil _ | (refine List.forall_mem_cons.mpr ⟨by k_mem, ?_⟩))))
  clear N10
  (try dsimp only)
  (repeat' (first | (k_unfold; (try dsimp only)) | ((first | (with_reducible refine Then.next ?_) | (with_reducible refine Then.ret ?_) | (with_reducible refine Joined.next ?_) | (with_reducible refine Joined.ret ?_) | (with_reducible refine HidV.get (by with_reducible assumption) _ _ ?_) | (with_reducible refine Hdn.get (by with_reducible assumption) ?_) | (with_reducible refine TurnEnd.toRet ?_)); (try dsimp only)) | (k_end; wrow_close) | ((with_reducible refine hide_turn ?_); intro Q1 H1) | (with_reducible refine exec_hid ?_) | (with_reducible (first | refine sp1 ?_ | refine sp2 ?_ | refine sp3 ?_ | refine sp4 ?_ | refine sp5 ?_ | refine sp6 ?_ | refine sp7 ?_ | refine sp8 ?_ | refine sp9 ?_ | refine sp10 ?_ | refine sp11 ?_ | refine sp12 ?_ | refine sp13 ?_ | refine sp14 ?_ | refine sp15 ?_ | refine sp16 ?_ | refine sp17 ?_ | refine sp18 ?_ | refine sp19 ?_ | refine sp22 ?_ | refine sp23 ?_ | refine sp24 ?_)) | ((with_reducible show wpAny _ _ (exec (Stmt.For (Expr.Name _ _) _ _ [] _) _) _ _ _); (with_unfolding_all refine' for_at ?F ?k1 ?k2 ?_ ?k3 ?k4; (case F => k_asm); (case k1 => exact rfl); (case k2 => exact rfl); (case k3 => intro _; rfl); (case k4 => assumption); k_whole)) | walk1 | (dsimp only; walk1) | (leave1; walk_say "STEP leave1"; try dsimp only) | fail "no step"))
  refine Stop.go ?_
  (k_dflt (first | ((with_reducible refine' comp_TW ?kF ?k1 ?k2 ?k3 ?k4 ?k5 ?_ ?k6); (case kF => k_asm); (case k1 => with_unfolding_all rfl); (case k2 => decide); (case k3 => rfl); (case k4 => decide); (case k5 => rfl); (case k6 => intro _; rfl)) | ((with_reducible refine' comp_UW ?kF ?k1 ?k2 ?k3 ?k4 ?k5 ?_ ?k6); (case kF => k_asm); (case k1 => with_unfolding_all rfl); (case k2 => decide); (case k3 => rfl); (case k4 => decide); (case k5 => rfl); (case k6 => intro _; rfl))))
  (repeat' (first | (k_unfold; (try dsimp only)) | ((first | (with_reducible refine Then.next ?_) | (with_reducible refine Then.ret ?_) | (with_reducible refine Joined.next ?_) | (with_reducible refine Joined.ret ?_) | (with_reducible refine HidV.get (by with_reducible assumption) _ _ ?_) | (with_reducible refine Hdn.get (by with_reducible assumption) ?_) | (with_reducible refine TurnEnd.toRet ?_)); (try dsimp only)) | (k_end; wrow_close) | ((with_reducible refine hide_turn ?_); intro Q1 H1) | (with_reducible refine exec_hid ?_) | (with_reducible (first | refine sp1 ?_ | refine sp2 ?_ | refine sp3 ?_ | refine sp4 ?_ | refine sp5 ?_ | refine sp6 ?_ | refine sp7 ?_ | refine sp8 ?_ | refine sp9 ?_ | refine sp10 ?_ | refine sp11 ?_ | refine sp12 ?_ | refine sp13 ?_ | refine sp14 ?_ | refine sp15 ?_ | refine sp16 ?_ | refine sp17 ?_ | refine sp18 ?_ | refine sp19 ?_ | refine sp22 ?_ | refine sp23 ?_ | refine sp24 ?_)) | ((with_reducible show wpAny _ _ (exec (Stmt.For (Expr.Name _ _) _ _ [] _) _) _ _ _); (with_unfolding_all refine' for_at ?F ?k1 ?k2 ?_ ?k3 ?k4; (case F => k_asm); (case k1 => exact rfl); (case k2 => exact rfl); (case k3 => intro _; rfl); (case k4 => assumption); k_whole)) | walk1 | (dsimp only; walk1) | (leave1; walk_say "STEP leave1"; try dsimp only) | fail "no step"))
  rename Fr H0 _ _ _ => F12
  rename News H0 _ _ _ => N12
  have hwl : vw.length = 41 := by
    rw [← hvw, List.length_append, List.length_append, v6l, v8l]
    rfl
  clear hvw lt10 lt9 lt8 lt7 lt6 lt5 hs8 hs6 v8l v6l
  have nd0 : ∀ dT : Addr, @LT.lt Nat _ dKK dT → (LKeys (L1 + 1) (L1 + 1 + 1) x dx dS dK dT dKK dd l).Nodup := fun dT hT => law_nodup (Nat.ne_of_lt (Nat.lt_succ_self _)) n2 n1 n4 n3 ne1 (m1 _ (.tail _ (.tail _ (.tail _ (.head _))))) (m1 _ (.tail _ (.tail _ (.head _)))) (m1 _ (.head _)) (m1 _ (.tail _ (.head _))) (m2 _ (.head _)) (m3 _ (.head _)) (m4 _ (.head _)) (lKK _ (.tail _ (.head _))) hT
  refine src_list rfl F12 N12 (.inr ⟨_, .head _, rfl, _, rfl⟩) (by rw [List.size_toArray, hwl, sizeLine_eq]; decide) ?_
  intro g12
  refine rest_inv (fun i ys nw => ∃ ex, nw = ex ++ [(B10, listOf vw.toArray 0), (dKK, oKK), (dS, oS), (dK, oK), (x, instObj 77 dx), (dx, mdDict w t1 t2 2 dS dK), (dd, oD), (l, oL), (L1 + 1 + 1, c2), (L1 + 1, c1)] ∧ Rows ex ys ((words41.take i).map fun k => (k, onB S0 k))) ?_ ?_ _ 0 [] _ (Nat.zero_add _) ⟨[], rfl, trivial⟩
  · intro i ys nw v I oI C oC D5 m₂ h tk E' hi hJ hP hC hxv F13 N13 off ne
    refine hide_goal (fun Hq => ?_)
    obtain ⟨ex, rfl, hex⟩ := hJ
    obtain ⟨sw, st, rfl, hs⟩ := strsAt_get hws (by simpa using hP)
    (repeat' (first | (k_unfold; (try dsimp only)) | ((first | (with_reducible refine Then.next ?_) | (with_reducible refine Then.ret ?_) | (with_reducible refine Joined.next ?_) | (with_reducible refine Joined.ret ?_) | (with_reducible refine HidV.get (by with_reducible assumption) _ _ ?_) | (with_reducible refine Hdn.get (by with_reducible assumption) ?_) | (with_reducible refine TurnEnd.toRet ?_)); (try dsimp only)) | (k_end; wrow_close) | ((with_reducible refine hide_turn ?_); intro Q1 H1) | (with_reducible refine exec_hid ?_) | (with_reducible (first | refine sp1 ?_ | refine sp2 ?_ | refine sp3 ?_ | refine sp4 ?_ | refine sp5 ?_ | refine sp6 ?_ | refine sp7 ?_ | refine sp8 ?_ | refine sp9 ?_ | refine sp10 ?_ | refine sp11 ?_ | refine sp12 ?_ | refine sp13 ?_ | refine sp14 ?_ | refine sp15 ?_ | refine sp16 ?_ | refine sp17 ?_ | refine sp18 ?_ | refine sp19 ?_ | refine sp22 ?_ | refine sp23 ?_ | refine sp24 ?_)) | ((with_reducible show wpAny _ _ (exec (Stmt.For (Expr.Name _ _) _ _ [] _) _) _ _ _); (with_unfolding_all refine' for_at ?F ?k1 ?k2 ?_ ?k3 ?k4; (case F => k_asm); (case k1 => exact rfl); (case k2 => exact rfl); (case k3 => intro _; rfl); (case k4 => assumption); k_whole)) | walk1 | (dsimp only; walk1) | (leave1; walk_say "STEP leave1"; try dsimp only) | fail "no step"))
    refine Stop.go ?_
    refine u_isOn (S := S0) (by assumption) (by exact rfl) (by exact rfl) (by k_asm) (by k_asm) (by k_asm) (by k_asm) (by k_asm) ⟨by k_mem, by k_mem, by k_mem, hS1, lo2⟩ (by exact room (by assumption) (by decide)) (by exact room (by assumption) (by decide)) ?_
    intro h14 tk14 F14 N14
    (try dsimp only)
    (repeat' (first | (k_unfold; (try dsimp only)) | ((first | (with_reducible refine Then.next ?_) | (with_reducible refine Then.ret ?_) | (with_reducible refine Joined.next ?_) | (with_reducible refine Joined.ret ?_) | (with_reducible refine HidV.get (by with_reducible assumption) _ _ ?_) | (with_reducible refine Hdn.get (by with_reducible assumption) ?_) | (with_reducible refine TurnEnd.toRet ?_)); (try dsimp only)) | (k_end; wrow_close) | ((with_reducible refine hide_turn ?_); intro Q1 H1) | (with_reducible refine exec_hid ?_) | (with_reducible (first | refine sp1 ?_ | refine sp2 ?_ | refine sp3 ?_ | refine sp4 ?_ | refine sp5 ?_ | refine sp6 ?_ | refine sp7 ?_ | refine sp8 ?_ | refine sp9 ?_ | refine sp10 ?_ | refine sp11 ?_ | refine sp12 ?_ | refine sp13 ?_ | refine sp14 ?_ | refine sp15 ?_ | refine sp16 ?_ | refine sp17 ?_ | refine sp18 ?_ | refine sp19 ?_ | refine sp22 ?_ | refine sp23 ?_ | refine sp24 ?_)) | ((with_reducible show wpAny _ _ (exec (Stmt.For (Expr.Name _ _) _ _ [] _) _) _ _ _); (with_unfolding_all refine' for_at ?F ?k1 ?k2 ?_ ?k3 ?k4; (case F => k_asm); (case k1 => exact rfl); (case k2 => exact rfl); (case k3 => intro _; rfl); (case k4 => assumption); k_whole)) | walk1 | (dsimp only; walk1) | (leave1; walk_say "STEP leave1"; try dsimp only) | fail "no step"))
    rename News H0 _ _ _ => N15
    rename_i T15 _ _ l15
    exact LCg.CompEnd.intro (by k_asm) N15 _ move_head (off3_cons l15 off) (.inr ⟨_, by k_mem, rfl, _, rfl⟩) ⟨_, rfl, rows_take hex hs⟩
  · intro ys nw hJ
    refine hide_goal (fun Hq => ?_)
    obtain ⟨ex, rfl, hex⟩ := hJ
    (try ((first | (with_reducible refine Then.next ?_) | (with_reducible refine Then.ret ?_) | (with_reducible refine Joined.next ?_) | (with_reducible refine Joined.ret ?_) | (with_reducible refine HidV.get (by with_reducible assumption) _ _ ?_) | (with_reducible refine Hdn.get (by with_reducible assumption) ?_) | (with_reducible refine TurnEnd.toRet ?_)); (try dsimp only)))
    intro D9 h9 tk9 F9 N9 off9
    rw [List.size_toArray, List.take_of_length_le (show words41.length ≤ vw.length by rw [hwl, words_length]; exact Nat.le_refl _)] at hex
    (try dsimp only)
    (repeat' (first | (k_unfold; (try dsimp only)) | ((first | (with_reducible refine Then.next ?_) | (with_reducible refine Then.ret ?_) | (with_reducible refine Joined.next ?_) | (with_reducible refine Joined.ret ?_) | (with_reducible refine HidV.get (by with_reducible assumption) _ _ ?_) | (with_reducible refine Hdn.get (by with_reducible assumption) ?_) | (with_reducible refine TurnEnd.toRet ?_)); (try dsimp only)) | (k_end; wrow_close) | ((with_reducible refine hide_turn ?_); intro Q1 H1) | (with_reducible refine exec_hid ?_) | (with_reducible (first | refine sp1 ?_ | refine sp2 ?_ | refine sp3 ?_ | refine sp4 ?_ | refine sp5 ?_ | refine sp6 ?_ | refine sp7 ?_ | refine sp8 ?_ | refine sp9 ?_ | refine sp10 ?_ | refine sp11 ?_ | refine sp12 ?_ | refine sp13 ?_ | refine sp14 ?_ | refine sp15 ?_ | refine sp16 ?_ | refine sp17 ?_ | refine sp18 ?_ | refine sp19 ?_ | refine sp22 ?_ | refine sp23 ?_ | refine sp24 ?_)) | ((with_reducible show wpAny _ _ (exec (Stmt.For (Expr.Name _ _) _ _ [] _) _) _ _ _); (with_unfolding_all refine' for_at ?F ?k1 ?k2 ?_ ?k3 ?k4; (case F => k_asm); (case k1 => exact rfl); (case k2 => exact rfl); (case k3 => intro _; rfl); (case k4 => assumption); k_whole)) | walk1 | (dsimp only; walk1) | (leave1; walk_say "STEP leave1"; try dsimp only) | fail "no step"))
    refine Stop.go ?_
    rename Fr H0 _ _ _ => F16
    rename News H0 _ _ _ => N16
    refine dict_rows rfl (Top.nolimit (by k_asm)) F16 N16 (.head _) (Rows.cons_mono (Rows.left hex)) (by rw [show (words41.map fun k => (k, onB S0 k)) = T0 from rfl, T0_keys]; exact words_nodup) (by rw [List.length_map, words_length]; decide) ?_
    rw [show (words41.map fun k => (k, onB S0 k)) = T0 from rfl]
    intro dT h17 tk17 oT F17 N17 lt17 lo17 hT1
    have N18 := news_sub N17 (news' := LL (L1 + 1) (L1 + 1 + 1) x dx dS dK dT dKK dd l c1 c2 (mdDict w t1 t2 2 dS dK) oS oK oT oKK oD oL) (by unfold LL; (repeat' (first | exact List.forall_mem_nil _ | (refine List.forall_mem_cons.mpr ⟨by k_mem, ?_⟩))))
    clear N17 N16 F16 off9
    (try dsimp only)
    have nd := nd0 dT (lt17 (dKK, oKK) (by k_mem))
    have I0 : LawI w dS dK dT dKK dd l oS oK oT oKK oD oL S0 T0 [] [] := ⟨hS1, hK1, hT1, hiK, hdk, agree0, KeptOk.nil, okay_nil⟩
    have LA : LawA (L1 + 1) (L1 + 1 + 1) x dx dS dK dT dKK dd l c1 c2 := ⟨nd, lo2, lo3, lo17, loK, lo1, by assumption, by assumption⟩
    clear lt17 nd0 lKK m1 m2 m3 m4 n1 n2 n3 n4 ne1 hS1 hK1 hT1 hiK hdk hex hws
    (repeat' (first | (k_unfold; (try dsimp only)) | ((first | (with_reducible refine Then.next ?_) | (with_reducible refine Then.ret ?_) | (with_reducible refine Joined.next ?_) | (with_reducible refine Joined.ret ?_) | (with_reducible refine HidV.get (by with_reducible assumption) _ _ ?_) | (with_reducible refine Hdn.get (by with_reducible assumption) ?_) | (with_reducible refine TurnEnd.toRet ?_)); (try dsimp only)) | (k_end; wrow_close) | ((with_reducible refine hide_turn ?_); intro Q1 H1) | (with_reducible refine exec_hid ?_) | (with_reducible (first | refine sp1 ?_ | refine sp2 ?_ | refine sp3 ?_ | refine sp4 ?_ | refine sp5 ?_ | refine sp6 ?_ | refine sp7 ?_ | refine sp8 ?_ | refine sp9 ?_ | refine sp10 ?_ | refine sp11 ?_ | refine sp12 ?_ | refine sp13 ?_ | refine sp14 ?_ | refine sp15 ?_ | refine sp16 ?_ | refine sp17 ?_ | refine sp18 ?_ | refine sp19 ?_ | refine sp22 ?_ | refine sp23 ?_ | refine sp24 ?_)) | ((with_reducible show wpAny _ _ (exec (Stmt.For (Expr.Name _ _) _ _ [] _) _) _ _ _); (with_unfolding_all refine' for_at ?F ?k1 ?k2 ?_ ?k3 ?k4; (case F => k_asm); (case k1 => exact rfl); (case k2 => exact rfl); (case k3 => intro _; rfl); (case k4 => assumption); k_whole)) | walk1 | (dsimp only; walk1) | (leave1; walk_say "STEP leave1"; try dsimp only) | fail "no step"))
    subst hR
    refine hide1 (fun R2 hR2 => ?_)
    (repeat' (first | (k_unfold; (try dsimp only)) | ((first | (with_reducible refine Then.next ?_) | (with_reducible refine Then.ret ?_) | (with_reducible refine Joined.next ?_) | (with_reducible refine Joined.ret ?_) | (with_reducible refine HidV.get (by with_reducible assumption) _ _ ?_) | (with_reducible refine Hdn.get (by with_reducible assumption) ?_) | (with_reducible refine TurnEnd.toRet ?_)); (try dsimp only)) | (k_end; wrow_close) | ((with_reducible refine hide_turn ?_); intro Q1 H1) | (with_reducible refine exec_hid ?_) | (with_reducible (first | refine sp1 ?_ | refine sp2 ?_ | refine sp3 ?_ | refine sp4 ?_ | refine sp5 ?_ | refine sp6 ?_ | refine sp7 ?_ | refine sp8 ?_ | refine sp9 ?_ | refine sp10 ?_ | refine sp11 ?_ | refine sp12 ?_ | refine sp13 ?_ | refine sp14 ?_ | refine sp15 ?_ | refine sp16 ?_ | refine sp17 ?_ | refine sp18 ?_ | refine sp19 ?_ | refine sp22 ?_ | refine sp23 ?_ | refine sp24 ?_)) | ((with_reducible show wpAny _ _ (exec (Stmt.For (Expr.Name _ _) _ _ [] _) _) _ _ _); (with_unfolding_all refine' for_at ?F ?k1 ?k2 ?_ ?k3 ?k4; (case F => k_asm); (case k1 => exact rfl); (case k2 => exact rfl); (case k3 => intro _; rfl); (case k4 => assumption); k_whole)) | walk1 | (dsimp only; walk1) | (leave1; walk_say "STEP leave1"; try dsimp only) | fail "no step"))
    refine Stop.go ?_
    refine u_drawL (pre := []) (by decide) (by decide) LA (fun _ h => (by cases h)) I0 (by assumption) (by exact rfl) (by exact rfl) (by k_asm) (by k_asm) (by k_asm) (by k_asm) (by k_asm) (by exact room (by assumption) (by decide)) (by exact room (by assumption) (by decide)) ?_
    clear I0
    intro v20 t20 oD20 oL20 h20 tk20 v20a v20b F20 N20 I20
    (try dsimp only)
    (repeat' (first | (k_unfold; (try dsimp only)) | ((first | (with_reducible refine Then.next ?_) | (with_reducible refine Then.ret ?_) | (with_reducible refine Joined.next ?_) | (with_reducible refine Joined.ret ?_) | (with_reducible refine HidV.get (by with_reducible assumption) _ _ ?_) | (with_reducible refine Hdn.get (by with_reducible assumption) ?_) | (with_reducible refine TurnEnd.toRet ?_)); (try dsimp only)) | (k_end; wrow_close) | ((with_reducible refine hide_turn ?_); intro Q1 H1) | (with_reducible refine exec_hid ?_) | (with_reducible (first | refine sp1 ?_ | refine sp2 ?_ | refine sp3 ?_ | refine sp4 ?_ | refine sp5 ?_ | refine sp6 ?_ | refine sp7 ?_ | refine sp8 ?_ | refine sp9 ?_ | refine sp10 ?_ | refine sp11 ?_ | refine sp12 ?_ | refine sp13 ?_ | refine sp14 ?_ | refine sp15 ?_ | refine sp16 ?_ | refine sp17 ?_ | refine sp18 ?_ | refine sp19 ?_ | refine sp22 ?_ | refine sp23 ?_ | refine sp24 ?_)) | ((with_reducible show wpAny _ _ (exec (Stmt.For (Expr.Name _ _) _ _ [] _) _) _ _ _); (with_unfolding_all refine' for_at ?F ?k1 ?k2 ?_ ?k3 ?k4; (case F => k_asm); (case k1 => exact rfl); (case k2 => exact rfl); (case k3 => intro _; rfl); (case k4 => assumption); k_whole)) | walk1 | (dsimp only; walk1) | (leave1; walk_say "STEP leave1"; try dsimp only) | fail "no step"))
    rename_i ra ua va hrg hF hN hold
    obtain ⟨rs, rn⟩ := range_ok (v := v20) v20a (Int.lt_trans v20b (by decide))
    refine law_loop rfl hrg rs rn ⟨⟨_, fun _ k => k _ _ _ _ _ _ _ _ _ _ I20, hN⟩, hF, rfl, rfl⟩ (by decide) (by decide) ?_ ?_
--{T
    · clear hF hN hold rs rn hrg I20
      intro i t m₁ own h21 tk21 oS2 oK2 oT2 oKK2 oD2 oL2 S T K KK I2 hp F21 N21
      refine hide_post (fun Q1 H1 => ?_)
      refine hide2 (fun R3 hR3 => ?_)
      (repeat' (first | (k_unfold; (try dsimp only)) | ((first | (with_reducible refine Then.next ?_) | (with_reducible refine Then.ret ?_) | (with_reducible refine Joined.next ?_) | (with_reducible refine Joined.ret ?_) | (with_reducible refine HidV.get (by with_reducible assumption) _ _ ?_) | (with_reducible refine Hdn.get (by with_reducible assumption) ?_) | (with_reducible refine TurnEnd.toRet ?_)); (try dsimp only)) | (k_end; wrow_close) | ((with_reducible refine hide_turn ?_); intro Q1 H1) | (with_reducible refine exec_hid ?_) | (with_reducible (first | refine sp1 ?_ | refine sp2 ?_ | refine sp3 ?_ | refine sp4 ?_ | refine sp5 ?_ | refine sp6 ?_ | refine sp7 ?_ | refine sp8 ?_ | refine sp9 ?_ | refine sp10 ?_ | refine sp11 ?_ | refine sp12 ?_ | refine sp13 ?_ | refine sp14 ?_ | refine sp15 ?_ | refine sp16 ?_ | refine sp17 ?_ | refine sp18 ?_ | refine sp19 ?_ | refine sp22 ?_ | refine sp23 ?_ | refine sp24 ?_)) | ((with_reducible show wpAny _ _ (exec (Stmt.For (Expr.Name _ _) _ _ [] _) _) _ _ _); (with_unfolding_all refine' for_at ?F ?k1 ?k2 ?_ ?k3 ?k4; (case F => k_asm); (case k1 => exact rfl); (case k2 => exact rfl); (case k3 => intro _; rfl); (case k4 => assumption); k_whole)) | walk1 | (dsimp only; walk1) | (leave1; walk_say "STEP leave1"; try dsimp only) | fail "no step"))
      refine Stop.go ?_
      refine u_drawL (by decide) (by decide) LA hp I2 (by assumption) (by exact rfl) (by exact rfl) (by k_asm) (by k_asm) (by k_asm) (by k_asm) (by k_asm) (by exact room (by assumption) (by decide)) (by exact room (by assumption) (by decide)) ?_
      clear I2
      intro v22 t22 oD22 oL22 h22 tk22 v22a v22b F22 N22 I22
      clear F21 N21
      (try dsimp only)
      (repeat' (first | (k_unfold; (try dsimp only)) | ((first | (with_reducible refine Then.next ?_) | (with_reducible refine Then.ret ?_) | (with_reducible refine Joined.next ?_) | (with_reducible refine Joined.ret ?_) | (with_reducible refine HidV.get (by with_reducible assumption) _ _ ?_) | (with_reducible refine Hdn.get (by with_reducible assumption) ?_) | (with_reducible refine TurnEnd.toRet ?_)); (try dsimp only)) | (k_end; wrow_close) | ((with_reducible refine hide_turn ?_); intro Q1 H1) | (with_reducible refine exec_hid ?_) | (with_reducible (first | refine sp1 ?_ | refine sp2 ?_ | refine sp3 ?_ | refine sp4 ?_ | refine sp5 ?_ | refine sp6 ?_ | refine sp7 ?_ | refine sp8 ?_ | refine sp9 ?_ | refine sp10 ?_ | refine sp11 ?_ | refine sp12 ?_ | refine sp13 ?_ | refine sp14 ?_ | refine sp15 ?_ | refine sp16 ?_ | refine sp17 ?_ | refine sp18 ?_ | refine sp19 ?_ | refine sp22 ?_ | refine sp23 ?_ | refine sp24 ?_)) | ((with_reducible show wpAny _ _ (exec (Stmt.For (Expr.Name _ _) _ _ [] _) _) _ _ _); (with_unfolding_all refine' for_at ?F ?k1 ?k2 ?_ ?k3 ?k4; (case F => k_asm); (case k1 => exact rfl); (case k2 => exact rfl); (case k3 => intro _; rfl); (case k4 => assumption); k_whole)) | walk1 | (dsimp only; walk1) | (leave1; walk_say "STEP leave1"; try dsimp only) | fail "no step"))
      refine Stop.go ?_
      refine u_drawL (by decide) (by decide) LA hp I22 (by assumption) (by exact rfl) (by exact rfl) (by k_asm) (by k_asm) (by k_asm) (by k_asm) (by k_asm) (by exact room (by assumption) (by decide)) (by exact room (by assumption) (by decide)) ?_
      clear I22
      intro v23 t23 oD23 oL23 h23 tk23 v23a v23b F23 N23 I23
      clear F22 N22
      (try dsimp only)
      refine nums_item F23 KX v23a v23b (fun nb tnb hnb => ?_) (by with_unfolding_all rfl)
      (try dsimp only)
      (repeat' (first | (k_unfold; (try dsimp only)) | ((first | (with_reducible refine Then.next ?_) | (with_reducible refine Then.ret ?_) | (with_reducible refine Joined.next ?_) | (with_reducible refine Joined.ret ?_) | (with_reducible refine HidV.get (by with_reducible assumption) _ _ ?_) | (with_reducible refine Hdn.get (by with_reducible assumption) ?_) | (with_reducible refine TurnEnd.toRet ?_)); (try dsimp only)) | (k_end; wrow_close) | ((with_reducible refine hide_turn ?_); intro Q1 H1) | (with_reducible refine exec_hid ?_) | (with_reducible (first | refine sp1 ?_ | refine sp2 ?_ | refine sp3 ?_ | refine sp4 ?_ | refine sp5 ?_ | refine sp6 ?_ | refine sp7 ?_ | refine sp8 ?_ | refine sp9 ?_ | refine sp10 ?_ | refine sp11 ?_ | refine sp12 ?_ | refine sp13 ?_ | refine sp14 ?_ | refine sp15 ?_ | refine sp16 ?_ | refine sp17 ?_ | refine sp18 ?_ | refine sp19 ?_ | refine sp22 ?_ | refine sp23 ?_ | refine sp24 ?_)) | ((with_reducible show wpAny _ _ (exec (Stmt.For (Expr.Name _ _) _ _ [] _) _) _ _ _); (with_unfolding_all refine' for_at ?F ?k1 ?k2 ?_ ?k3 ?k4; (case F => k_asm); (case k1 => exact rfl); (case k2 => exact rfl); (case k3 => intro _; rfl); (case k4 => assumption); k_whole)) | walk1 | (dsimp only; walk1) | (leave1; walk_say "STEP leave1"; try dsimp only) | fail "no step"))
      refine Stop.go ?_
      have hnm : nb ∈ numsL := List.mem_of_getElem? hnb
      refine tab_item (hPD.keep (Fr.keep (by k_asm))) hPS (wd_some hnm) (fun twb tkb => ?_) (by with_unfolding_all rfl) (by intro _; with_unfolding_all rfl)
      clear hnb v23a v23b
      (try dsimp only)
      (repeat' (first | (k_unfold; (try dsimp only)) | ((first | (with_reducible refine Then.next ?_) | (with_reducible refine Then.ret ?_) | (with_reducible refine Joined.next ?_) | (with_reducible refine Joined.ret ?_) | (with_reducible refine HidV.get (by with_reducible assumption) _ _ ?_) | (with_reducible refine Hdn.get (by with_reducible assumption) ?_) | (with_reducible refine TurnEnd.toRet ?_)); (try dsimp only)) | (k_end; wrow_close) | ((with_reducible refine hide_turn ?_); intro Q1 H1) | (with_reducible refine exec_hid ?_) | (with_reducible (first | refine sp1 ?_ | refine sp2 ?_ | refine sp3 ?_ | refine sp4 ?_ | refine sp5 ?_ | refine sp6 ?_ | refine sp7 ?_ | refine sp8 ?_ | refine sp9 ?_ | refine sp10 ?_ | refine sp11 ?_ | refine sp12 ?_ | refine sp13 ?_ | refine sp14 ?_ | refine sp15 ?_ | refine sp16 ?_ | refine sp17 ?_ | refine sp18 ?_ | refine sp19 ?_ | refine sp22 ?_ | refine sp23 ?_ | refine sp24 ?_)) | ((with_reducible show wpAny _ _ (exec (Stmt.For (Expr.Name _ _) _ _ [] _) _) _ _ _); (with_unfolding_all refine' for_at ?F ?k1 ?k2 ?_ ?k3 ?k4; (case F => k_asm); (case k1 => exact rfl); (case k2 => exact rfl); (case k3 => intro _; rfl); (case k4 => assumption); k_whole)) | walk1 | (dsimp only; walk1) | (leave1; walk_say "STEP leave1"; try dsimp only) | fail "no step"))
      subst hR3
      rename Fr H0 _ _ _ => F24
      rename News H0 _ _ _ => N24
      replace N24 := News.drop1 N24
      have hww := wd_words hnm
      refine exec_join (LawMid w H0 L1 (L1 + 1) (L1 + 1 + 1) x dx dS dK dT dKK dd l c1 c2 (mdDict w t1 t2 2 dS dK) own G0 Dr0 O0) (fun Q1 H1 => ?_) ?_
      · (repeat' (first | (k_unfold; (try dsimp only)) | ((first | (with_reducible refine Then.next ?_) | (with_reducible refine Then.ret ?_) | (with_reducible refine Joined.next ?_) | (with_reducible refine Joined.ret ?_) | (with_reducible refine HidV.get (by with_reducible assumption) _ _ ?_) | (with_reducible refine Hdn.get (by with_reducible assumption) ?_) | (with_reducible refine TurnEnd.toRet ?_)); (try dsimp only)) | (k_end; wrow_close) | ((with_reducible refine hide_turn ?_); intro Q1 H1) | (with_reducible refine exec_hid ?_) | (with_reducible (first | refine sp1 ?_ | refine sp2 ?_ | refine sp3 ?_ | refine sp4 ?_ | refine sp5 ?_ | refine sp6 ?_ | refine sp7 ?_ | refine sp8 ?_ | refine sp9 ?_ | refine sp10 ?_ | refine sp11 ?_ | refine sp12 ?_ | refine sp13 ?_ | refine sp14 ?_ | refine sp15 ?_ | refine sp16 ?_ | refine sp17 ?_ | refine sp18 ?_ | refine sp19 ?_ | refine sp22 ?_ | refine sp23 ?_ | refine sp24 ?_)) | ((with_reducible show wpAny _ _ (exec (Stmt.For (Expr.Name _ _) _ _ [] _) _) _ _ _); (with_unfolding_all refine' for_at ?F ?k1 ?k2 ?_ ?k3 ?k4; (case F => k_asm); (case k1 => exact rfl); (case k2 => exact rfl); (case k3 => intro _; rfl); (case k4 => assumption); k_whole)) | walk1 | (dsimp only; walk1) | (leave1; walk_say "STEP leave1"; try dsimp only) | fail "no step"))
--{A
        · refine Stop.go ?_
          refine u_newL (by assumption) (by exact rfl) (by exact rfl) (by k_asm) (by k_asm) (by k_asm) (by k_asm) (by k_asm) (by exact room (by assumption) (by decide)) (by exact room (by assumption) (by decide)) ?_
          intro x5 dx5 dS5 dK5 t51 t52 oS5 nw5 h25 tk25 F25 N25 md5
          (try dsimp only)
          (repeat' (first | (k_unfold; (try dsimp only)) | ((first | (with_reducible refine Then.next ?_) | (with_reducible refine Then.ret ?_) | (with_reducible refine Joined.next ?_) | (with_reducible refine Joined.ret ?_) | (with_reducible refine HidV.get (by with_reducible assumption) _ _ ?_) | (with_reducible refine Hdn.get (by with_reducible assumption) ?_) | (with_reducible refine TurnEnd.toRet ?_)); (try dsimp only)) | (k_end; wrow_close) | ((with_reducible refine hide_turn ?_); intro Q1 H1) | (with_reducible refine exec_hid ?_) | (with_reducible (first | refine sp1 ?_ | refine sp2 ?_ | refine sp3 ?_ | refine sp4 ?_ | refine sp5 ?_ | refine sp6 ?_ | refine sp7 ?_ | refine sp8 ?_ | refine sp9 ?_ | refine sp10 ?_ | refine sp11 ?_ | refine sp12 ?_ | refine sp13 ?_ | refine sp14 ?_ | refine sp15 ?_ | refine sp16 ?_ | refine sp17 ?_ | refine sp18 ?_ | refine sp19 ?_ | refine sp22 ?_ | refine sp23 ?_ | refine sp24 ?_)) | ((with_reducible show wpAny _ _ (exec (Stmt.For (Expr.Name _ _) _ _ [] _) _) _ _ _); (with_unfolding_all refine' for_at ?F ?k1 ?k2 ?_ ?k3 ?k4; (case F => k_asm); (case k1 => exact rfl); (case k2 => exact rfl); (case k3 => intro _; rfl); (case k4 => assumption); k_whole)) | walk1 | (dsimp only; walk1) | (leave1; walk_say "STEP leave1"; try dsimp only) | fail "no step"))
          refine Stop.go ?_
          refine u_reportP (wd_some hnm) (by assumption) (by exact rfl) (by exact rfl) (by k_asm) (by k_asm) (by k_asm) (by k_asm) (by k_asm) md5 (by exact room (by assumption) (by decide)) (by exact room (by assumption) (by decide)) ?_
          clear md5
          intro r26 t26 h26 tk26 r26c F26 N26
          replace N26 := News.dropL N26
          clear F25 N25
          (try dsimp only)
          (repeat' (first | (k_unfold; (try dsimp only)) | ((first | (with_reducible refine Then.next ?_) | (with_reducible refine Then.ret ?_) | (with_reducible refine Joined.next ?_) | (with_reducible refine Joined.ret ?_) | (with_reducible refine HidV.get (by with_reducible assumption) _ _ ?_) | (with_reducible refine Hdn.get (by with_reducible assumption) ?_) | (with_reducible refine TurnEnd.toRet ?_)); (try dsimp only)) | (k_end; wrow_close) | ((with_reducible refine hide_turn ?_); intro Q1 H1) | (with_reducible refine exec_hid ?_) | (with_reducible (first | refine sp1 ?_ | refine sp2 ?_ | refine sp3 ?_ | refine sp4 ?_ | refine sp5 ?_ | refine sp6 ?_ | refine sp7 ?_ | refine sp8 ?_ | refine sp9 ?_ | refine sp10 ?_ | refine sp11 ?_ | refine sp12 ?_ | refine sp13 ?_ | refine sp14 ?_ | refine sp15 ?_ | refine sp16 ?_ | refine sp17 ?_ | refine sp18 ?_ | refine sp19 ?_ | refine sp22 ?_ | refine sp23 ?_ | refine sp24 ?_)) | ((with_reducible show wpAny _ _ (exec (Stmt.For (Expr.Name _ _) _ _ [] _) _) _ _ _); (with_unfolding_all refine' for_at ?F ?k1 ?k2 ?_ ?k3 ?k4; (case F => k_asm); (case k1 => exact rfl); (case k2 => exact rfl); (case k3 => intro _; rfl); (case k4 => assumption); k_whole)) | walk1 | (dsimp only; walk1) | (leave1; walk_say "STEP leave1"; try dsimp only) | fail "no step"))
          refine Stop.go ?_
          rename News H0 _ _ _ => N27
          refine in_tuple_ints ⟨_, (N27 _ (.head _)).1, rfl, _, rfl⟩ (.cons _ _ (.cons _ _ .nil)) ?_
          rw [in12 r26c]
          replace N27 := News.drop1 N27
          (try dsimp only)
          (repeat' (first | (k_unfold; (try dsimp only)) | ((first | (with_reducible refine Then.next ?_) | (with_reducible refine Then.ret ?_) | (with_reducible refine Joined.next ?_) | (with_reducible refine Joined.ret ?_) | (with_reducible refine HidV.get (by with_reducible assumption) _ _ ?_) | (with_reducible refine Hdn.get (by with_reducible assumption) ?_) | (with_reducible refine TurnEnd.toRet ?_)); (try dsimp only)) | (k_end; wrow_close) | ((with_reducible refine hide_turn ?_); intro Q1 H1) | (with_reducible refine exec_hid ?_) | (with_reducible (first | refine sp1 ?_ | refine sp2 ?_ | refine sp3 ?_ | refine sp4 ?_ | refine sp5 ?_ | refine sp6 ?_ | refine sp7 ?_ | refine sp8 ?_ | refine sp9 ?_ | refine sp10 ?_ | refine sp11 ?_ | refine sp12 ?_ | refine sp13 ?_ | refine sp14 ?_ | refine sp15 ?_ | refine sp16 ?_ | refine sp17 ?_ | refine sp18 ?_ | refine sp19 ?_ | refine sp22 ?_ | refine sp23 ?_ | refine sp24 ?_)) | ((with_reducible show wpAny _ _ (exec (Stmt.For (Expr.Name _ _) _ _ [] _) _) _ _ _); (with_unfolding_all refine' for_at ?F ?k1 ?k2 ?_ ?k3 ?k4; (case F => k_asm); (case k1 => exact rfl); (case k2 => exact rfl); (case k3 => intro _; rfl); (case k4 => assumption); k_whole)) | walk1 | (dsimp only; walk1) | (leave1; walk_say "STEP leave1"; try dsimp only) | fail "no step"))
          refine Stop.go ?_
          refine u_drawL (by decide) (by decide) LA hp I23 (by assumption) (by exact rfl) (by exact rfl) (by k_asm) (by k_asm) (by k_asm) (by k_asm) (by k_asm) (by exact room (by assumption) (by decide)) (by exact room (by assumption) (by decide)) ?_
          (try clear N27); (try clear F26); (try clear N26); clear I23 r26c
          intro v29 t29 oD29 oL29 h29 tk29 v29a v29b F29 N29 I29
          (try dsimp only)
          (repeat' (first | (k_unfold; (try dsimp only)) | ((first | (with_reducible refine Then.next ?_) | (with_reducible refine Then.ret ?_) | (with_reducible refine Joined.next ?_) | (with_reducible refine Joined.ret ?_) | (with_reducible refine HidV.get (by with_reducible assumption) _ _ ?_) | (with_reducible refine Hdn.get (by with_reducible assumption) ?_) | (with_reducible refine TurnEnd.toRet ?_)); (try dsimp only)) | (k_end; wrow_close) | ((with_reducible refine hide_turn ?_); intro Q1 H1) | (with_reducible refine exec_hid ?_) | (with_reducible (first | refine sp1 ?_ | refine sp2 ?_ | refine sp3 ?_ | refine sp4 ?_ | refine sp5 ?_ | refine sp6 ?_ | refine sp7 ?_ | refine sp8 ?_ | refine sp9 ?_ | refine sp10 ?_ | refine sp11 ?_ | refine sp12 ?_ | refine sp13 ?_ | refine sp14 ?_ | refine sp15 ?_ | refine sp16 ?_ | refine sp17 ?_ | refine sp18 ?_ | refine sp19 ?_ | refine sp22 ?_ | refine sp23 ?_ | refine sp24 ?_)) | ((with_reducible show wpAny _ _ (exec (Stmt.For (Expr.Name _ _) _ _ [] _) _) _ _ _); (with_unfolding_all refine' for_at ?F ?k1 ?k2 ?_ ?k3 ?k4; (case F => k_asm); (case k1 => exact rfl); (case k2 => exact rfl); (case k3 => intro _; rfl); (case k4 => assumption); k_whole)) | walk1 | (dsimp only; walk1) | (leave1; walk_say "STEP leave1"; try dsimp only) | fail "no step"))
          refine Stop.go ?_
          refine u_setL hww LA hp I29 (by assumption) (by exact rfl) (by exact rfl) (by k_asm) (by k_asm) (by k_asm) (by k_asm) (by k_asm) (by exact room (by assumption) (by decide)) (by exact room (by assumption) (by decide)) ?_
          skip
          intro oS30 h30 tk30 F30 N30 hS30
          (try dsimp only)
          (repeat' (first | (k_unfold; (try dsimp only)) | ((first | (with_reducible refine Then.next ?_) | (with_reducible refine Then.ret ?_) | (with_reducible refine Joined.next ?_) | (with_reducible refine Joined.ret ?_) | (with_reducible refine HidV.get (by with_reducible assumption) _ _ ?_) | (with_reducible refine Hdn.get (by with_reducible assumption) ?_) | (with_reducible refine TurnEnd.toRet ?_)); (try dsimp only)) | (k_end; wrow_close) | ((with_reducible refine hide_turn ?_); intro Q1 H1) | (with_reducible refine exec_hid ?_) | (with_reducible (first | refine sp1 ?_ | refine sp2 ?_ | refine sp3 ?_ | refine sp4 ?_ | refine sp5 ?_ | refine sp6 ?_ | refine sp7 ?_ | refine sp8 ?_ | refine sp9 ?_ | refine sp10 ?_ | refine sp11 ?_ | refine sp12 ?_ | refine sp13 ?_ | refine sp14 ?_ | refine sp15 ?_ | refine sp16 ?_ | refine sp17 ?_ | refine sp18 ?_ | refine sp19 ?_ | refine sp22 ?_ | refine sp23 ?_ | refine sp24 ?_)) | ((with_reducible show wpAny _ _ (exec (Stmt.For (Expr.Name _ _) _ _ [] _) _) _ _ _); (with_unfolding_all refine' for_at ?F ?k1 ?k2 ?_ ?k3 ?k4; (case F => k_asm); (case k1 => exact rfl); (case k2 => exact rfl); (case k3 => intro _; rfl); (case k4 => assumption); k_whole)) | walk1 | (dsimp only; walk1) | (leave1; walk_say "STEP leave1"; try dsimp only) | fail "no step"))
          refine Stop.go ?_
          refine u_lsetL hww LA hp I29 hS30 (by assumption) (by exact rfl) (by exact rfl) (by k_asm) (by k_asm) (by k_asm) (by k_asm) (by k_asm) (by exact room (by assumption) (by decide)) (by exact room (by assumption) (by decide)) ?_
          clear I29 hS30
          intro oT31 h31 tk31 F31 N31 I31
          (try dsimp only)
          (repeat' (first | (k_unfold; (try dsimp only)) | ((first | (with_reducible refine Then.next ?_) | (with_reducible refine Then.ret ?_) | (with_reducible refine Joined.next ?_) | (with_reducible refine Joined.ret ?_) | (with_reducible refine HidV.get (by with_reducible assumption) _ _ ?_) | (with_reducible refine Hdn.get (by with_reducible assumption) ?_) | (with_reducible refine TurnEnd.toRet ?_)); (try dsimp only)) | (k_end; wrow_close) | ((with_reducible refine hide_turn ?_); intro Q1 H1) | (with_reducible refine exec_hid ?_) | (with_reducible (first | refine sp1 ?_ | refine sp2 ?_ | refine sp3 ?_ | refine sp4 ?_ | refine sp5 ?_ | refine sp6 ?_ | refine sp7 ?_ | refine sp8 ?_ | refine sp9 ?_ | refine sp10 ?_ | refine sp11 ?_ | refine sp12 ?_ | refine sp13 ?_ | refine sp14 ?_ | refine sp15 ?_ | refine sp16 ?_ | refine sp17 ?_ | refine sp18 ?_ | refine sp19 ?_ | refine sp22 ?_ | refine sp23 ?_ | refine sp24 ?_)) | ((with_reducible show wpAny _ _ (exec (Stmt.For (Expr.Name _ _) _ _ [] _) _) _ _ _); (with_unfolding_all refine' for_at ?F ?k1 ?k2 ?_ ?k3 ?k4; (case F => k_asm); (case k1 => exact rfl); (case k2 => exact rfl); (case k3 => intro _; rfl); (case k4 => assumption); k_whole)) | walk1 | (dsimp only; walk1) | (leave1; walk_say "STEP leave1"; try dsimp only) | fail "no step"))
          exact LawMid.intro I31 F31 N31 rfl rfl
--}A
--{B
        · refine Stop.go ?_
          refine u_drawL (by decide) (by decide) LA hp I23 (by assumption) (by exact rfl) (by exact rfl) (by k_asm) (by k_asm) (by k_asm) (by k_asm) (by k_asm) (by exact room (by assumption) (by decide)) (by exact room (by assumption) (by decide)) ?_
          clear I23
          intro v32 t32 oD32 oL32 h32 tk32 v32a v32b F32 N32 I32
          (try dsimp only)
          refine nums_item F32 KX v32a v32b (fun nc tnc hnc => ?_) (by with_unfolding_all rfl)
          (try dsimp only)
          have hnc2 : nc ∈ numsL := List.mem_of_getElem? hnc
          clear hnc v32a v32b
          (repeat' (first | (k_unfold; (try dsimp only)) | ((first | (with_reducible refine Then.next ?_) | (with_reducible refine Then.ret ?_) | (with_reducible refine Joined.next ?_) | (with_reducible refine Joined.ret ?_) | (with_reducible refine HidV.get (by with_reducible assumption) _ _ ?_) | (with_reducible refine Hdn.get (by with_reducible assumption) ?_) | (with_reducible refine TurnEnd.toRet ?_)); (try dsimp only)) | (k_end; wrow_close) | ((with_reducible refine hide_turn ?_); intro Q1 H1) | (with_reducible refine exec_hid ?_) | (with_reducible (first | refine sp1 ?_ | refine sp2 ?_ | refine sp3 ?_ | refine sp4 ?_ | refine sp5 ?_ | refine sp6 ?_ | refine sp7 ?_ | refine sp8 ?_ | refine sp9 ?_ | refine sp10 ?_ | refine sp11 ?_ | refine sp12 ?_ | refine sp13 ?_ | refine sp14 ?_ | refine sp15 ?_ | refine sp16 ?_ | refine sp17 ?_ | refine sp18 ?_ | refine sp19 ?_ | refine sp22 ?_ | refine sp23 ?_ | refine sp24 ?_)) | ((with_reducible show wpAny _ _ (exec (Stmt.For (Expr.Name _ _) _ _ [] _) _) _ _ _); (with_unfolding_all refine' for_at ?F ?k1 ?k2 ?_ ?k3 ?k4; (case F => k_asm); (case k1 => exact rfl); (case k2 => exact rfl); (case k3 => intro _; rfl); (case k4 => assumption); k_whole)) | walk1 | (dsimp only; walk1) | (leave1; walk_say "STEP leave1"; try dsimp only) | fail "no step"))
          refine Stop.go ?_
          rename (∀ p ∈ own ++ _, p.1 < _) => l33
          have hp33 := pre_cons (o := listOf [Value.int nb tnb, Value.int nc tnc, Value.int 3000 tk32].toArray 0) hp (keys_lt l33)
          clear l33
          refine u_saveL (vs := [.int nb tnb, .int nc tnc, .int 3000 tk32]) (ns := [nb, nc, 3000]) (.cons _ _ (.cons _ _ (.cons _ _ .nil))) (.head _) (by show (3:Nat) ≤ 60; decide) LA hp33 I32 (by assumption) (by exact rfl) (by exact rfl) (by k_asm) (by k_asm) (by k_asm) (by k_asm) (by k_asm) (by exact room (by assumption) (by decide)) (by exact room (by assumption) (by decide)) ?_
          intro oK34 h34 tk34 F34 N34 hK34
          (try dsimp only)
          (repeat' (first | (k_unfold; (try dsimp only)) | ((first | (with_reducible refine Then.next ?_) | (with_reducible refine Then.ret ?_) | (with_reducible refine Joined.next ?_) | (with_reducible refine Joined.ret ?_) | (with_reducible refine HidV.get (by with_reducible assumption) _ _ ?_) | (with_reducible refine Hdn.get (by with_reducible assumption) ?_) | (with_reducible refine TurnEnd.toRet ?_)); (try dsimp only)) | (k_end; wrow_close) | ((with_reducible refine hide_turn ?_); intro Q1 H1) | (with_reducible refine exec_hid ?_) | (with_reducible (first | refine sp1 ?_ | refine sp2 ?_ | refine sp3 ?_ | refine sp4 ?_ | refine sp5 ?_ | refine sp6 ?_ | refine sp7 ?_ | refine sp8 ?_ | refine sp9 ?_ | refine sp10 ?_ | refine sp11 ?_ | refine sp12 ?_ | refine sp13 ?_ | refine sp14 ?_ | refine sp15 ?_ | refine sp16 ?_ | refine sp17 ?_ | refine sp18 ?_ | refine sp19 ?_ | refine sp22 ?_ | refine sp23 ?_ | refine sp24 ?_)) | ((with_reducible show wpAny _ _ (exec (Stmt.For (Expr.Name _ _) _ _ [] _) _) _ _ _); (with_unfolding_all refine' for_at ?F ?k1 ?k2 ?_ ?k3 ?k4; (case F => k_asm); (case k1 => exact rfl); (case k2 => exact rfl); (case k3 => intro _; rfl); (case k4 => assumption); k_whole)) | walk1 | (dsimp only; walk1) | (leave1; walk_say "STEP leave1"; try dsimp only) | fail "no step"))
          rename Fr H0 _ _ _ => F35
          rename News H0 _ _ _ => N35
          rename (∀ p ∈ (_, _) :: own ++ _, p.1 < _) => l35
          have hp35 := pre_cons (o := listOf [Value.int nb tnb, Value.int nc tnc].toArray 0) hp33 (keys_lt l35)
          clear l35
          have kl := I32.kp.length
          refine keep_loop (S := S) (KK := KK) rfl (vs := [.int nb tnb, .int nc tnc]) (ns := [nb, nc]) (.cons _ _ (.cons _ _ .nil)) (List.forall_mem_cons.mpr ⟨hnm, List.forall_mem_cons.mpr ⟨hnc2, fun _ h => nomatch h⟩⟩) (Nat.le_trans (Nat.add_le_add_right kl 2) (by decide)) (.head _) hp35 F35 N35 I32.hKK rfl rfl ?_ ?_
          · clear F35 N35 hp35 hp33
            intro n tn m₂ pre2 h36 tk36 oKK36 KK36 hn hlen36 hKK36 hp36 F36 N36
            refine hide_post (fun Q1 H1 => ?_)
            (repeat' (first | (k_unfold; (try dsimp only)) | ((first | (with_reducible refine Then.next ?_) | (with_reducible refine Then.ret ?_) | (with_reducible refine Joined.next ?_) | (with_reducible refine Joined.ret ?_) | (with_reducible refine HidV.get (by with_reducible assumption) _ _ ?_) | (with_reducible refine Hdn.get (by with_reducible assumption) ?_) | (with_reducible refine TurnEnd.toRet ?_)); (try dsimp only)) | (k_end; wrow_close) | ((with_reducible refine hide_turn ?_); intro Q1 H1) | (with_reducible refine exec_hid ?_) | (with_reducible (first | refine sp1 ?_ | refine sp2 ?_ | refine sp3 ?_ | refine sp4 ?_ | refine sp5 ?_ | refine sp6 ?_ | refine sp7 ?_ | refine sp8 ?_ | refine sp9 ?_ | refine sp10 ?_ | refine sp11 ?_ | refine sp12 ?_ | refine sp13 ?_ | refine sp14 ?_ | refine sp15 ?_ | refine sp16 ?_ | refine sp17 ?_ | refine sp18 ?_ | refine sp19 ?_ | refine sp22 ?_ | refine sp23 ?_ | refine sp24 ?_)) | ((with_reducible show wpAny _ _ (exec (Stmt.For (Expr.Name _ _) _ _ [] _) _) _ _ _); (with_unfolding_all refine' for_at ?F ?k1 ?k2 ?_ ?k3 ?k4; (case F => k_asm); (case k1 => exact rfl); (case k2 => exact rfl); (case k3 => intro _; rfl); (case k4 => assumption); k_whole)) | walk1 | (dsimp only; walk1) | (leave1; walk_say "STEP leave1"; try dsimp only) | fail "no step"))
            refine Stop.go ?_
            refine tab_item (hPD.keep (Fr.keep (by k_asm))) hPS (wd_some hn) (fun tw36 tk37 => ?_) (by with_unfolding_all rfl) (by intro _; with_unfolding_all rfl)
            (try dsimp only)
            refine kda_item (knd := strKind _ _) (by k_asm) LL_memT I32.hT (strKind_is _ _ _ _) (I32.valT (wd_words hn)) ?_
            (try dsimp only)
            walk1
            walk1
            (try dsimp only)
            refine dset (knd := intKind _ _) (by k_asm) (by k_asm) LL_memKK hKK36 (intKind_is _ _ _ _) (size_vals (Nat.le_trans hlen36 (by decide))) (fun h38 o38 F38 N38 hd38 => ?_)
            rw [LL_KK' LA.nd hp36] at N38
            rw [stored_vals] at hd38
            (try dsimp only)
            (repeat' (first | (k_unfold; (try dsimp only)) | ((first | (with_reducible refine Then.next ?_) | (with_reducible refine Then.ret ?_) | (with_reducible refine Joined.next ?_) | (with_reducible refine Joined.ret ?_) | (with_reducible refine HidV.get (by with_reducible assumption) _ _ ?_) | (with_reducible refine Hdn.get (by with_reducible assumption) ?_) | (with_reducible refine TurnEnd.toRet ?_)); (try dsimp only)) | (k_end; wrow_close) | ((with_reducible refine hide_turn ?_); intro Q1 H1) | (with_reducible refine exec_hid ?_) | (with_reducible (first | refine sp1 ?_ | refine sp2 ?_ | refine sp3 ?_ | refine sp4 ?_ | refine sp5 ?_ | refine sp6 ?_ | refine sp7 ?_ | refine sp8 ?_ | refine sp9 ?_ | refine sp10 ?_ | refine sp11 ?_ | refine sp12 ?_ | refine sp13 ?_ | refine sp14 ?_ | refine sp15 ?_ | refine sp16 ?_ | refine sp17 ?_ | refine sp18 ?_ | refine sp19 ?_ | refine sp22 ?_ | refine sp23 ?_ | refine sp24 ?_)) | ((with_reducible show wpAny _ _ (exec (Stmt.For (Expr.Name _ _) _ _ [] _) _) _ _ _); (with_unfolding_all refine' for_at ?F ?k1 ?k2 ?_ ?k3 ?k4; (case F => k_asm); (case k1 => exact rfl); (case k2 => exact rfl); (case k3 => intro _; rfl); (case k4 => assumption); k_whole)) | walk1 | (dsimp only; walk1) | (leave1; walk_say "STEP leave1"; try dsimp only) | fail "no step"))
            exact KeepEnd.next F38 N38 hd38 rfl rfl
          · intro m₂ h39 tk39 oKK39 F39 N39 hKK39
            (try dsimp only)
            (repeat' (first | (k_unfold; (try dsimp only)) | ((first | (with_reducible refine Then.next ?_) | (with_reducible refine Then.ret ?_) | (with_reducible refine Joined.next ?_) | (with_reducible refine Joined.ret ?_) | (with_reducible refine HidV.get (by with_reducible assumption) _ _ ?_) | (with_reducible refine Hdn.get (by with_reducible assumption) ?_) | (with_reducible refine TurnEnd.toRet ?_)); (try dsimp only)) | (k_end; wrow_close) | ((with_reducible refine hide_turn ?_); intro Q1 H1) | (with_reducible refine exec_hid ?_) | (with_reducible (first | refine sp1 ?_ | refine sp2 ?_ | refine sp3 ?_ | refine sp4 ?_ | refine sp5 ?_ | refine sp6 ?_ | refine sp7 ?_ | refine sp8 ?_ | refine sp9 ?_ | refine sp10 ?_ | refine sp11 ?_ | refine sp12 ?_ | refine sp13 ?_ | refine sp14 ?_ | refine sp15 ?_ | refine sp16 ?_ | refine sp17 ?_ | refine sp18 ?_ | refine sp19 ?_ | refine sp22 ?_ | refine sp23 ?_ | refine sp24 ?_)) | ((with_reducible show wpAny _ _ (exec (Stmt.For (Expr.Name _ _) _ _ [] _) _) _ _ _); (with_unfolding_all refine' for_at ?F ?k1 ?k2 ?_ ?k3 ?k4; (case F => k_asm); (case k1 => exact rfl); (case k2 => exact rfl); (case k3 => intro _; rfl); (case k4 => assumption); k_whole)) | walk1 | (dsimp only; walk1) | (leave1; walk_say "STEP leave1"; try dsimp only) | fail "no step"))
            have kk := kept2 (S := S) I32.kp I32.ok hnm hnc2
            exact LawMid.intro (T := T) ⟨I32.hS, hK34, I32.hT, hKK39, I32.dk, I32.ag, kk.1, kk.2⟩ F39 (News.drop1 (News.drop1 N39)) rfl rfl
--}B
--{C
        · refine Stop.go ?_
          rename Fr H0 _ _ _ => F40
          rename News H0 _ _ _ => N40
          obtain ⟨nits, nht, nhi⟩ := nums_tup (KX.keeps F40.keep)
          have nlen : nits.length = 18 := by rw [nhi.length, nums_length]
          refine list_copyKT F40 N40 nht (fun D41 k41 h41 F41 N41 l41 => ?_) (by rw [List.size_toArray, nlen, sizeLine_eq]; decide)
          (try dsimp only)
          (repeat' (first | (k_unfold; (try dsimp only)) | ((first | (with_reducible refine Then.next ?_) | (with_reducible refine Then.ret ?_) | (with_reducible refine Joined.next ?_) | (with_reducible refine Joined.ret ?_) | (with_reducible refine HidV.get (by with_reducible assumption) _ _ ?_) | (with_reducible refine Hdn.get (by with_reducible assumption) ?_) | (with_reducible refine TurnEnd.toRet ?_)); (try dsimp only)) | (k_end; wrow_close) | ((with_reducible refine hide_turn ?_); intro Q1 H1) | (with_reducible refine exec_hid ?_) | (with_reducible (first | refine sp1 ?_ | refine sp2 ?_ | refine sp3 ?_ | refine sp4 ?_ | refine sp5 ?_ | refine sp6 ?_ | refine sp7 ?_ | refine sp8 ?_ | refine sp9 ?_ | refine sp10 ?_ | refine sp11 ?_ | refine sp12 ?_ | refine sp13 ?_ | refine sp14 ?_ | refine sp15 ?_ | refine sp16 ?_ | refine sp17 ?_ | refine sp18 ?_ | refine sp19 ?_ | refine sp22 ?_ | refine sp23 ?_ | refine sp24 ?_)) | ((with_reducible show wpAny _ _ (exec (Stmt.For (Expr.Name _ _) _ _ [] _) _) _ _ _); (with_unfolding_all refine' for_at ?F ?k1 ?k2 ?_ ?k3 ?k4; (case F => k_asm); (case k1 => exact rfl); (case k2 => exact rfl); (case k3 => intro _; rfl); (case k4 => assumption); k_whole)) | walk1 | (dsimp only; walk1) | (leave1; walk_say "STEP leave1"; try dsimp only) | fail "no step"))
          refine Stop.go ?_
          refine add_listsD (by k_asm) (by k_asm) (.tail _ (.head _)) (.head _) (by rw [nlen]; exact (by decide : 1 + 18 ≤ 1000)) (fun D42 h42 F42 N42 lt42 => ?_)
          (try dsimp only)
          (repeat' (first | (k_unfold; (try dsimp only)) | ((first | (with_reducible refine Then.next ?_) | (with_reducible refine Then.ret ?_) | (with_reducible refine Joined.next ?_) | (with_reducible refine Joined.ret ?_) | (with_reducible refine HidV.get (by with_reducible assumption) _ _ ?_) | (with_reducible refine Hdn.get (by with_reducible assumption) ?_) | (with_reducible refine TurnEnd.toRet ?_)); (try dsimp only)) | (k_end; wrow_close) | ((with_reducible refine hide_turn ?_); intro Q1 H1) | (with_reducible refine exec_hid ?_) | (with_reducible (first | refine sp1 ?_ | refine sp2 ?_ | refine sp3 ?_ | refine sp4 ?_ | refine sp5 ?_ | refine sp6 ?_ | refine sp7 ?_ | refine sp8 ?_ | refine sp9 ?_ | refine sp10 ?_ | refine sp11 ?_ | refine sp12 ?_ | refine sp13 ?_ | refine sp14 ?_ | refine sp15 ?_ | refine sp16 ?_ | refine sp17 ?_ | refine sp18 ?_ | refine sp19 ?_ | refine sp22 ?_ | refine sp23 ?_ | refine sp24 ?_)) | ((with_reducible show wpAny _ _ (exec (Stmt.For (Expr.Name _ _) _ _ [] _) _) _ _ _); (with_unfolding_all refine' for_at ?F ?k1 ?k2 ?_ ?k3 ?k4; (case F => k_asm); (case k1 => exact rfl); (case k2 => exact rfl); (case k3 => intro _; rfl); (case k4 => assumption); k_whole)) | walk1 | (dsimp only; walk1) | (leave1; walk_say "STEP leave1"; try dsimp only) | fail "no step"))
          refine Stop.go ?_
          refine u_savedL (pre := _ :: _ :: _ :: own) (ns := 3000 :: numsL) (.cons _ _ nhi) (.head _) (by show nits.length + 1 ≤ 60; rw [nlen]; decide) LA I23 (by assumption) (by exact rfl) (by exact rfl) (by k_asm) (by k_asm) (by k_asm) (by k_asm) (by k_asm) (by exact room (by assumption) (by decide)) (by exact room (by assumption) (by decide)) ?_
          clear lt42 l41
          intro D43 us43 kn43 nw43 h43 tk43 F43 N43 hD43 hR43
          (try dsimp only)
          (repeat' (first | (k_unfold; (try dsimp only)) | ((first | (with_reducible refine Then.next ?_) | (with_reducible refine Then.ret ?_) | (with_reducible refine Joined.next ?_) | (with_reducible refine Joined.ret ?_) | (with_reducible refine HidV.get (by with_reducible assumption) _ _ ?_) | (with_reducible refine Hdn.get (by with_reducible assumption) ?_) | (with_reducible refine TurnEnd.toRet ?_)); (try dsimp only)) | (k_end; wrow_close) | ((with_reducible refine hide_turn ?_); intro Q1 H1) | (with_reducible refine exec_hid ?_) | (with_reducible (first | refine sp1 ?_ | refine sp2 ?_ | refine sp3 ?_ | refine sp4 ?_ | refine sp5 ?_ | refine sp6 ?_ | refine sp7 ?_ | refine sp8 ?_ | refine sp9 ?_ | refine sp10 ?_ | refine sp11 ?_ | refine sp12 ?_ | refine sp13 ?_ | refine sp14 ?_ | refine sp15 ?_ | refine sp16 ?_ | refine sp17 ?_ | refine sp18 ?_ | refine sp19 ?_ | refine sp22 ?_ | refine sp23 ?_ | refine sp24 ?_)) | ((with_reducible show wpAny _ _ (exec (Stmt.For (Expr.Name _ _) _ _ [] _) _) _ _ _); (with_unfolding_all refine' for_at ?F ?k1 ?k2 ?_ ?k3 ?k4; (case F => k_asm); (case k1 => exact rfl); (case k2 => exact rfl); (case k3 => intro _; rfl); (case k4 => assumption); k_whole)) | walk1 | (dsimp only; walk1) | (leave1; walk_say "STEP leave1"; try dsimp only) | fail "no step"))
          refine Stop.go ?_
          (k_dflt (first | ((with_reducible refine' comp_TW ?kF ?k1 ?k2 ?k3 ?k4 ?k5 ?_ ?k6); (case kF => k_asm); (case k1 => with_unfolding_all rfl); (case k2 => decide); (case k3 => rfl); (case k4 => decide); (case k5 => rfl); (case k6 => intro _; rfl)) | ((with_reducible refine' comp_UW ?kF ?k1 ?k2 ?k3 ?k4 ?k5 ?_ ?k6); (case kF => k_asm); (case k1 => with_unfolding_all rfl); (case k2 => decide); (case k3 => rfl); (case k4 => decide); (case k5 => rfl); (case k6 => intro _; rfl))))
          (repeat' (first | (k_unfold; (try dsimp only)) | ((first | (with_reducible refine Then.next ?_) | (with_reducible refine Then.ret ?_) | (with_reducible refine Joined.next ?_) | (with_reducible refine Joined.ret ?_) | (with_reducible refine HidV.get (by with_reducible assumption) _ _ ?_) | (with_reducible refine Hdn.get (by with_reducible assumption) ?_) | (with_reducible refine TurnEnd.toRet ?_)); (try dsimp only)) | (k_end; wrow_close) | ((with_reducible refine hide_turn ?_); intro Q1 H1) | (with_reducible refine exec_hid ?_) | (with_reducible (first | refine sp1 ?_ | refine sp2 ?_ | refine sp3 ?_ | refine sp4 ?_ | refine sp5 ?_ | refine sp6 ?_ | refine sp7 ?_ | refine sp8 ?_ | refine sp9 ?_ | refine sp10 ?_ | refine sp11 ?_ | refine sp12 ?_ | refine sp13 ?_ | refine sp14 ?_ | refine sp15 ?_ | refine sp16 ?_ | refine sp17 ?_ | refine sp18 ?_ | refine sp19 ?_ | refine sp22 ?_ | refine sp23 ?_ | refine sp24 ?_)) | ((with_reducible show wpAny _ _ (exec (Stmt.For (Expr.Name _ _) _ _ [] _) _) _ _ _); (with_unfolding_all refine' for_at ?F ?k1 ?k2 ?_ ?k3 ?k4; (case F => k_asm); (case k1 => exact rfl); (case k2 => exact rfl); (case k3 => intro _; rfl); (case k4 => assumption); k_whole)) | walk1 | (dsimp only; walk1) | (leave1; walk_say "STEP leave1"; try dsimp only) | fail "no step"))
          rename Fr H0 _ _ _ => F44
          rename News H0 _ _ _ => N44
          refine with_base N44 (fun B1 hB1 N45 => ?_)
          clear N44
          have hDs : (D43, listOf us43.toArray kn43) ∈ B1 := by rw [hB1]; exact List.mem_append_left _ hD43
          have hRs : Rows B1 us43 (savedB K (3000 :: numsL)) := by rw [hB1]; exact hR43.left
          have hul : us43.length ≤ 20 := Nat.le_trans (Nat.le_of_eq hR43.length) (Nat.le_trans (saved_len K (3000 :: numsL)) (by rw [List.length_cons, nums_length]; decide))
          refine src_list rfl F44 N45 (.inr ⟨_, hDs, rfl, _, rfl⟩) (by rw [List.size_toArray, sizeLine_eq]; exact Nat.le_trans hul (by decide)) ?_
          intro g45
          refine rest_inv (fun i ys nw => B1 = nw ∧ us43.take i = ys) ?_ ?_ _ 0 [] _ (Nat.zero_add _) ⟨rfl, rfl⟩
          · intro i ys nw v I oI C oC D5 m₂ h tk E' hi hJ hP hC hxv F46 N46 off ne
            refine hide_goal (fun Hq => ?_)
            obtain ⟨rfl, rfl⟩ := hJ
            have hv46 : us43[i]? = some v := by simpa using hP
            obtain ⟨a46, o46, rfl, hm46, hc46, its46, n46, hd46⟩ := hRs.pt hv46
            (repeat' (first | (k_unfold; (try dsimp only)) | ((first | (with_reducible refine Then.next ?_) | (with_reducible refine Then.ret ?_) | (with_reducible refine Joined.next ?_) | (with_reducible refine Joined.ret ?_) | (with_reducible refine HidV.get (by with_reducible assumption) _ _ ?_) | (with_reducible refine Hdn.get (by with_reducible assumption) ?_) | (with_reducible refine TurnEnd.toRet ?_)); (try dsimp only)) | (k_end; wrow_close) | ((with_reducible refine hide_turn ?_); intro Q1 H1) | (with_reducible refine exec_hid ?_) | (with_reducible (first | refine sp1 ?_ | refine sp2 ?_ | refine sp3 ?_ | refine sp4 ?_ | refine sp5 ?_ | refine sp6 ?_ | refine sp7 ?_ | refine sp8 ?_ | refine sp9 ?_ | refine sp10 ?_ | refine sp11 ?_ | refine sp12 ?_ | refine sp13 ?_ | refine sp14 ?_ | refine sp15 ?_ | refine sp16 ?_ | refine sp17 ?_ | refine sp18 ?_ | refine sp19 ?_ | refine sp22 ?_ | refine sp23 ?_ | refine sp24 ?_)) | ((with_reducible show wpAny _ _ (exec (Stmt.For (Expr.Name _ _) _ _ [] _) _) _ _ _); (with_unfolding_all refine' for_at ?F ?k1 ?k2 ?_ ?k3 ?k4; (case F => k_asm); (case k1 => exact rfl); (case k2 => exact rfl); (case k3 => intro _; rfl); (case k4 => assumption); k_whole)) | walk1 | (dsimp only; walk1) | (leave1; walk_say "STEP leave1"; try dsimp only) | fail "no step"))
            refine Stop.go ?_
            rename News H0 _ _ _ => N47
            refine call_tuple_tup ⟨o46, (N47 _ (.tail _ (.tail _ (.tail _ hm46)))).1, hc46, n46, hd46⟩ ?_
            (try dsimp only)
            (repeat' (first | (k_unfold; (try dsimp only)) | ((first | (with_reducible refine Then.next ?_) | (with_reducible refine Then.ret ?_) | (with_reducible refine Joined.next ?_) | (with_reducible refine Joined.ret ?_) | (with_reducible refine HidV.get (by with_reducible assumption) _ _ ?_) | (with_reducible refine Hdn.get (by with_reducible assumption) ?_) | (with_reducible refine TurnEnd.toRet ?_)); (try dsimp only)) | (k_end; wrow_close) | ((with_reducible refine hide_turn ?_); intro Q1 H1) | (with_reducible refine exec_hid ?_) | (with_reducible (first | refine sp1 ?_ | refine sp2 ?_ | refine sp3 ?_ | refine sp4 ?_ | refine sp5 ?_ | refine sp6 ?_ | refine sp7 ?_ | refine sp8 ?_ | refine sp9 ?_ | refine sp10 ?_ | refine sp11 ?_ | refine sp12 ?_ | refine sp13 ?_ | refine sp14 ?_ | refine sp15 ?_ | refine sp16 ?_ | refine sp17 ?_ | refine sp18 ?_ | refine sp19 ?_ | refine sp22 ?_ | refine sp23 ?_ | refine sp24 ?_)) | ((with_reducible show wpAny _ _ (exec (Stmt.For (Expr.Name _ _) _ _ [] _) _) _ _ _); (with_unfolding_all refine' for_at ?F ?k1 ?k2 ?_ ?k3 ?k4; (case F => k_asm); (case k1 => exact rfl); (case k2 => exact rfl); (case k3 => intro _; rfl); (case k4 => assumption); k_whole)) | walk1 | (dsimp only; walk1) | (leave1; walk_say "STEP leave1"; try dsimp only) | fail "no step"))
            exact LCg.CompEnd.intro (by k_asm) (by k_asm) _ (fun _ h => h) off (.inr ⟨_, hDs, rfl, _, rfl⟩) ⟨rfl, take_snoc hv46⟩
          · intro ys nw hJ
            refine hide_goal (fun Hq => ?_)
            obtain ⟨rfl, rfl⟩ := hJ
            (try ((first | (with_reducible refine Then.next ?_) | (with_reducible refine Then.ret ?_) | (with_reducible refine Joined.next ?_) | (with_reducible refine Joined.ret ?_) | (with_reducible refine HidV.get (by with_reducible assumption) _ _ ?_) | (with_reducible refine Hdn.get (by with_reducible assumption) ?_) | (with_reducible refine TurnEnd.toRet ?_)); (try dsimp only)))
            intro D48 h48 tk48 F48 N48 off48
            have e48 : us43.take us43.toArray.size = us43 := by rw [List.size_toArray]; exact List.take_length
            rw [e48] at N48
            (try dsimp only)
            (repeat' (first | (k_unfold; (try dsimp only)) | ((first | (with_reducible refine Then.next ?_) | (with_reducible refine Then.ret ?_) | (with_reducible refine Joined.next ?_) | (with_reducible refine Joined.ret ?_) | (with_reducible refine HidV.get (by with_reducible assumption) _ _ ?_) | (with_reducible refine Hdn.get (by with_reducible assumption) ?_) | (with_reducible refine TurnEnd.toRet ?_)); (try dsimp only)) | (k_end; wrow_close) | ((with_reducible refine hide_turn ?_); intro Q1 H1) | (with_reducible refine exec_hid ?_) | (with_reducible (first | refine sp1 ?_ | refine sp2 ?_ | refine sp3 ?_ | refine sp4 ?_ | refine sp5 ?_ | refine sp6 ?_ | refine sp7 ?_ | refine sp8 ?_ | refine sp9 ?_ | refine sp10 ?_ | refine sp11 ?_ | refine sp12 ?_ | refine sp13 ?_ | refine sp14 ?_ | refine sp15 ?_ | refine sp16 ?_ | refine sp17 ?_ | refine sp18 ?_ | refine sp19 ?_ | refine sp22 ?_ | refine sp23 ?_ | refine sp24 ?_)) | ((with_reducible show wpAny _ _ (exec (Stmt.For (Expr.Name _ _) _ _ [] _) _) _ _ _); (with_unfolding_all refine' for_at ?F ?k1 ?k2 ?_ ?k3 ?k4; (case F => k_asm); (case k1 => exact rfl); (case k2 => exact rfl); (case k3 => intro _; rfl); (case k4 => assumption); k_whole)) | walk1 | (dsimp only; walk1) | (leave1; walk_say "STEP leave1"; try dsimp only) | fail "no step"))
            refine Stop.go ?_
            refine sorted_rows (by k_asm) (by k_asm) (.head _) (Rows.cons_mono hRs) (saved_nodup I23.kp) (Nat.lt_of_le_of_lt hul (by decide)) ?_
            intro D50 h50 e50 us50 qs50 tk50 F50 N50 l50 hR50 hp50 hs50
            have hK1 : (dKK, oKK2) ∈ B1 := by rw [hB1]; exact List.mem_append_right _ LL_memKK
            have hC1 : (L1 + 1 + 1, c2) ∈ B1 := by rw [hB1]; exact List.mem_append_right _ (List.mem_append_right _ (.tail _ (.head _)))
            (try dsimp only)
            (repeat' (first | (k_unfold; (try dsimp only)) | ((first | (with_reducible refine Then.next ?_) | (with_reducible refine Then.ret ?_) | (with_reducible refine Joined.next ?_) | (with_reducible refine Joined.ret ?_) | (with_reducible refine HidV.get (by with_reducible assumption) _ _ ?_) | (with_reducible refine Hdn.get (by with_reducible assumption) ?_) | (with_reducible refine TurnEnd.toRet ?_)); (try dsimp only)) | (k_end; wrow_close) | ((with_reducible refine hide_turn ?_); intro Q1 H1) | (with_reducible refine exec_hid ?_) | (with_reducible (first | refine sp1 ?_ | refine sp2 ?_ | refine sp3 ?_ | refine sp4 ?_ | refine sp5 ?_ | refine sp6 ?_ | refine sp7 ?_ | refine sp8 ?_ | refine sp9 ?_ | refine sp10 ?_ | refine sp11 ?_ | refine sp12 ?_ | refine sp13 ?_ | refine sp14 ?_ | refine sp15 ?_ | refine sp16 ?_ | refine sp17 ?_ | refine sp18 ?_ | refine sp19 ?_ | refine sp22 ?_ | refine sp23 ?_ | refine sp24 ?_)) | ((with_reducible show wpAny _ _ (exec (Stmt.For (Expr.Name _ _) _ _ [] _) _) _ _ _); (with_unfolding_all refine' for_at ?F ?k1 ?k2 ?_ ?k3 ?k4; (case F => k_asm); (case k1 => exact rfl); (case k2 => exact rfl); (case k3 => intro _; rfl); (case k4 => assumption); k_whole)) | walk1 | (dsimp only; walk1) | (leave1; walk_say "STEP leave1"; try dsimp only) | fail "no step"))
            refine Stop.go ?_
            (k_dflt (first | ((with_reducible refine' comp_TW ?kF ?k1 ?k2 ?k3 ?k4 ?k5 ?_ ?k6); (case kF => k_asm); (case k1 => with_unfolding_all rfl); (case k2 => decide); (case k3 => rfl); (case k4 => decide); (case k5 => rfl); (case k6 => intro _; rfl)) | ((with_reducible refine' comp_UW ?kF ?k1 ?k2 ?k3 ?k4 ?k5 ?_ ?k6); (case kF => k_asm); (case k1 => with_unfolding_all rfl); (case k2 => decide); (case k3 => rfl); (case k4 => decide); (case k5 => rfl); (case k6 => intro _; rfl))))
            (repeat' (first | (k_unfold; (try dsimp only)) | ((first | (with_reducible refine Then.next ?_) | (with_reducible refine Then.ret ?_) | (with_reducible refine Joined.next ?_) | (with_reducible refine Joined.ret ?_) | (with_reducible refine HidV.get (by with_reducible assumption) _ _ ?_) | (with_reducible refine Hdn.get (by with_reducible assumption) ?_) | (with_reducible refine TurnEnd.toRet ?_)); (try dsimp only)) | (k_end; wrow_close) | ((with_reducible refine hide_turn ?_); intro Q1 H1) | (with_reducible refine exec_hid ?_) | (with_reducible (first | refine sp1 ?_ | refine sp2 ?_ | refine sp3 ?_ | refine sp4 ?_ | refine sp5 ?_ | refine sp6 ?_ | refine sp7 ?_ | refine sp8 ?_ | refine sp9 ?_ | refine sp10 ?_ | refine sp11 ?_ | refine sp12 ?_ | refine sp13 ?_ | refine sp14 ?_ | refine sp15 ?_ | refine sp16 ?_ | refine sp17 ?_ | refine sp18 ?_ | refine sp19 ?_ | refine sp22 ?_ | refine sp23 ?_ | refine sp24 ?_)) | ((with_reducible show wpAny _ _ (exec (Stmt.For (Expr.Name _ _) _ _ [] _) _) _ _ _); (with_unfolding_all refine' for_at ?F ?k1 ?k2 ?_ ?k3 ?k4; (case F => k_asm); (case k1 => exact rfl); (case k2 => exact rfl); (case k3 => intro _; rfl); (case k4 => assumption); k_whole)) | walk1 | (dsimp only; walk1) | (leave1; walk_say "STEP leave1"; try dsimp only) | fail "no step"))
            rename Fr H0 _ _ _ => F51
            rename News H0 _ _ _ => N51
            refine src_dict (knd := intKind _ _) rfl F51 N51 (.tail _ (.tail _ hK1)) I23.hKK LA.loKK (size_vals (Nat.le_trans I23.kp.length (by decide))) ?_
            intro g51
            refine rest_inv (fun i ys nw => ∃ ex, ex ++ (D50, listOf us50.toArray e50) :: (D48, LCg.lst us43) :: B1 = nw ∧ Rows ex ys (rowsB (KK.take i))) ?_ ?_ _ 0 [] _ (Nat.zero_add _) ⟨[], rfl, trivial⟩
            · intro i ys nw v I oI C oC D5 m₂ h tk E' hi hJ hP hC hxv F52 N52 off ne
              refine hide_goal (fun Hq => ?_)
              obtain ⟨ex, rfl, hex⟩ := hJ
              obtain ⟨nk, bk, tnk, rfl, hkk, hval⟩ := ivals_at I23.hKK hP
              have hnk : nk ∈ numsL := I23.kp.2.2.1 nk (List.mem_map_of_mem (f := (·.1)) (List.mem_of_getElem? hkk))
              (repeat' (first | (k_unfold; (try dsimp only)) | ((first | (with_reducible refine Then.next ?_) | (with_reducible refine Then.ret ?_) | (with_reducible refine Joined.next ?_) | (with_reducible refine Joined.ret ?_) | (with_reducible refine HidV.get (by with_reducible assumption) _ _ ?_) | (with_reducible refine Hdn.get (by with_reducible assumption) ?_) | (with_reducible refine TurnEnd.toRet ?_)); (try dsimp only)) | (k_end; wrow_close) | ((with_reducible refine hide_turn ?_); intro Q1 H1) | (with_reducible refine exec_hid ?_) | (with_reducible (first | refine sp1 ?_ | refine sp2 ?_ | refine sp3 ?_ | refine sp4 ?_ | refine sp5 ?_ | refine sp6 ?_ | refine sp7 ?_ | refine sp8 ?_ | refine sp9 ?_ | refine sp10 ?_ | refine sp11 ?_ | refine sp12 ?_ | refine sp13 ?_ | refine sp14 ?_ | refine sp15 ?_ | refine sp16 ?_ | refine sp17 ?_ | refine sp18 ?_ | refine sp19 ?_ | refine sp22 ?_ | refine sp23 ?_ | refine sp24 ?_)) | ((with_reducible show wpAny _ _ (exec (Stmt.For (Expr.Name _ _) _ _ [] _) _) _ _ _); (with_unfolding_all refine' for_at ?F ?k1 ?k2 ?_ ?k3 ?k4; (case F => k_asm); (case k1 => exact rfl); (case k2 => exact rfl); (case k3 => intro _; rfl); (case k4 => assumption); k_whole)) | walk1 | (dsimp only; walk1) | (leave1; walk_say "STEP leave1"; try dsimp only) | fail "no step"))
              refine Stop.go ?_
              refine tab_item (hPD.keep (Fr.keep (by k_asm))) hPS (wd_some hnk) (fun tw53 tk53 => ?_) (by with_unfolding_all rfl) (by intro _; with_unfolding_all rfl)
              (try dsimp only)
              (repeat' (first | (k_unfold; (try dsimp only)) | ((first | (with_reducible refine Then.next ?_) | (with_reducible refine Then.ret ?_) | (with_reducible refine Joined.next ?_) | (with_reducible refine Joined.ret ?_) | (with_reducible refine HidV.get (by with_reducible assumption) _ _ ?_) | (with_reducible refine Hdn.get (by with_reducible assumption) ?_) | (with_reducible refine TurnEnd.toRet ?_)); (try dsimp only)) | (k_end; wrow_close) | ((with_reducible refine hide_turn ?_); intro Q1 H1) | (with_reducible refine exec_hid ?_) | (with_reducible (first | refine sp1 ?_ | refine sp2 ?_ | refine sp3 ?_ | refine sp4 ?_ | refine sp5 ?_ | refine sp6 ?_ | refine sp7 ?_ | refine sp8 ?_ | refine sp9 ?_ | refine sp10 ?_ | refine sp11 ?_ | refine sp12 ?_ | refine sp13 ?_ | refine sp14 ?_ | refine sp15 ?_ | refine sp16 ?_ | refine sp17 ?_ | refine sp18 ?_ | refine sp19 ?_ | refine sp22 ?_ | refine sp23 ?_ | refine sp24 ?_)) | ((with_reducible show wpAny _ _ (exec (Stmt.For (Expr.Name _ _) _ _ [] _) _) _ _ _); (with_unfolding_all refine' for_at ?F ?k1 ?k2 ?_ ?k3 ?k4; (case F => k_asm); (case k1 => exact rfl); (case k2 => exact rfl); (case k3 => intro _; rfl); (case k4 => assumption); k_whole)) | walk1 | (dsimp only; walk1) | (leave1; walk_say "STEP leave1"; try dsimp only) | fail "no step"))
              refine Stop.go ?_
              refine kda_item (knd := intKind _ _) (by k_asm) (.tail _ (.tail _ (.tail _ (List.mem_append_right _ (.tail _ (.tail _ hK1)))))) I23.hKK (intKind_is _ _ _ _) hval ?_
              (try dsimp only)
              (repeat' (first | (k_unfold; (try dsimp only)) | ((first | (with_reducible refine Then.next ?_) | (with_reducible refine Then.ret ?_) | (with_reducible refine Joined.next ?_) | (with_reducible refine Joined.ret ?_) | (with_reducible refine HidV.get (by with_reducible assumption) _ _ ?_) | (with_reducible refine Hdn.get (by with_reducible assumption) ?_) | (with_reducible refine TurnEnd.toRet ?_)); (try dsimp only)) | (k_end; wrow_close) | ((with_reducible refine hide_turn ?_); intro Q1 H1) | (with_reducible refine exec_hid ?_) | (with_reducible (first | refine sp1 ?_ | refine sp2 ?_ | refine sp3 ?_ | refine sp4 ?_ | refine sp5 ?_ | refine sp6 ?_ | refine sp7 ?_ | refine sp8 ?_ | refine sp9 ?_ | refine sp10 ?_ | refine sp11 ?_ | refine sp12 ?_ | refine sp13 ?_ | refine sp14 ?_ | refine sp15 ?_ | refine sp16 ?_ | refine sp17 ?_ | refine sp18 ?_ | refine sp19 ?_ | refine sp22 ?_ | refine sp23 ?_ | refine sp24 ?_)) | ((with_reducible show wpAny _ _ (exec (Stmt.For (Expr.Name _ _) _ _ [] _) _) _ _ _); (with_unfolding_all refine' for_at ?F ?k1 ?k2 ?_ ?k3 ?k4; (case F => k_asm); (case k1 => exact rfl); (case k2 => exact rfl); (case k3 => intro _; rfl); (case k4 => assumption); k_whole)) | walk1 | (dsimp only; walk1) | (leave1; walk_say "STEP leave1"; try dsimp only) | fail "no step"))
              rename News H0 _ _ _ => N54
              rename (∀ p ∈ (I, oI) :: _, p.1 < _) => l54
              exact LCg.CompEnd.intro (by k_asm) N54 _ move_head (off3_cons l54 off) (.tail _ (List.mem_append_right _ (.tail _ (.tail _ hK1)))) ⟨_, rfl, rowsB_take hex hkk⟩
            · intro ys nw hJ
              refine hide_goal (fun Hq => ?_)
              obtain ⟨ex, rfl, hex⟩ := hJ
              (try ((first | (with_reducible refine Then.next ?_) | (with_reducible refine Then.ret ?_) | (with_reducible refine Joined.next ?_) | (with_reducible refine Joined.ret ?_) | (with_reducible refine HidV.get (by with_reducible assumption) _ _ ?_) | (with_reducible refine Hdn.get (by with_reducible assumption) ?_) | (with_reducible refine TurnEnd.toRet ?_)); (try dsimp only)))
              intro D55 h55 tk55 F55 N55 off55
              have e55 : KK.take (vals KK).length = KK := by rw [vals_length]; exact List.take_length
              rw [e55] at hex
              have hrl := hex.length
              rw [rowsB_len] at hrl
              have hkl := I23.kp.length
              (try dsimp only)
              (repeat' (first | (k_unfold; (try dsimp only)) | ((first | (with_reducible refine Then.next ?_) | (with_reducible refine Then.ret ?_) | (with_reducible refine Joined.next ?_) | (with_reducible refine Joined.ret ?_) | (with_reducible refine HidV.get (by with_reducible assumption) _ _ ?_) | (with_reducible refine Hdn.get (by with_reducible assumption) ?_) | (with_reducible refine TurnEnd.toRet ?_)); (try dsimp only)) | (k_end; wrow_close) | ((with_reducible refine hide_turn ?_); intro Q1 H1) | (with_reducible refine exec_hid ?_) | (with_reducible (first | refine sp1 ?_ | refine sp2 ?_ | refine sp3 ?_ | refine sp4 ?_ | refine sp5 ?_ | refine sp6 ?_ | refine sp7 ?_ | refine sp8 ?_ | refine sp9 ?_ | refine sp10 ?_ | refine sp11 ?_ | refine sp12 ?_ | refine sp13 ?_ | refine sp14 ?_ | refine sp15 ?_ | refine sp16 ?_ | refine sp17 ?_ | refine sp18 ?_ | refine sp19 ?_ | refine sp22 ?_ | refine sp23 ?_ | refine sp24 ?_)) | ((with_reducible show wpAny _ _ (exec (Stmt.For (Expr.Name _ _) _ _ [] _) _) _ _ _); (with_unfolding_all refine' for_at ?F ?k1 ?k2 ?_ ?k3 ?k4; (case F => k_asm); (case k1 => exact rfl); (case k2 => exact rfl); (case k3 => intro _; rfl); (case k4 => assumption); k_whole)) | walk1 | (dsimp only; walk1) | (leave1; walk_say "STEP leave1"; try dsimp only) | fail "no step"))
              refine Stop.go ?_
              refine sorted_rows (by k_asm) (by k_asm) (.head _) (Rows.cons_mono (Rows.left hex)) (rows_nodup I23.kp) (Nat.lt_of_le_of_lt (Nat.le_of_eq hrl) (Nat.lt_of_le_of_lt hkl (by decide))) ?_
              intro D56 h56 e56 us56 qs56 tk56 F56 N56 l56 hR56 hp56 hs56
              have heq : qs50 = qs56 := rows_unique (hp50.trans ((saved_perm I23.kp).trans hp56.symm)) ((hp50.map _).nodup_iff.mpr (saved_nodup I23.kp)) hs50 hs56
              subst heq
              (try dsimp only)
              (repeat' (first | (k_unfold; (try dsimp only)) | ((first | (with_reducible refine Then.next ?_) | (with_reducible refine Then.ret ?_) | (with_reducible refine Joined.next ?_) | (with_reducible refine Joined.ret ?_) | (with_reducible refine HidV.get (by with_reducible assumption) _ _ ?_) | (with_reducible refine Hdn.get (by with_reducible assumption) ?_) | (with_reducible refine TurnEnd.toRet ?_)); (try dsimp only)) | (k_end; wrow_close) | ((with_reducible refine hide_turn ?_); intro Q1 H1) | (with_reducible refine exec_hid ?_) | (with_reducible (first | refine sp1 ?_ | refine sp2 ?_ | refine sp3 ?_ | refine sp4 ?_ | refine sp5 ?_ | refine sp6 ?_ | refine sp7 ?_ | refine sp8 ?_ | refine sp9 ?_ | refine sp10 ?_ | refine sp11 ?_ | refine sp12 ?_ | refine sp13 ?_ | refine sp14 ?_ | refine sp15 ?_ | refine sp16 ?_ | refine sp17 ?_ | refine sp18 ?_ | refine sp19 ?_ | refine sp22 ?_ | refine sp23 ?_ | refine sp24 ?_)) | ((with_reducible show wpAny _ _ (exec (Stmt.For (Expr.Name _ _) _ _ [] _) _) _ _ _); (with_unfolding_all refine' for_at ?F ?k1 ?k2 ?_ ?k3 ?k4; (case F => k_asm); (case k1 => exact rfl); (case k2 => exact rfl); (case k3 => intro _; rfl); (case k4 => assumption); k_whole)) | walk1 | (dsimp only; walk1) | (leave1; walk_say "STEP leave1"; try dsimp only) | fail "no step"))
              refine Stop.go ?_
              rename News H0 _ _ _ => N57
              refine ne_rows N57 (.tail _ (.tail _ (List.mem_append_right _ (.head _)))) (.head _) (ps := qs50) ?_ (Rows.cons_mono hR56) (fun p hp => rows_strOk I23.kp p (hp56.mem_iff.mp hp)) (by exact room (by assumption) (by decide)) ?_
              · exact Rows.mono hR50 (fun a its n h => .tail _ (.tail _ (List.mem_append_right _ (.tail _ h))))
              have N58 := news_sub N57 (news' := own ++ LL (L1 + 1) (L1 + 1 + 1) x dx dS dK dT dKK dd l c1 c2 (mdDict w t1 t2 2 dS dK) oS2 oK2 oT2 oKK2 oD23 oL23) (fun q hq => .tail _ (.tail _ (List.mem_append_right _ (.tail _ (.tail _ (by rw [hB1]; exact List.mem_append_right _ (.tail _ (.tail _ (.tail _ hq)))))))))
              clear N57 hR56 hR50 hp56 hp50 hs56 hs50 l56 l50 hRs hDs hR43 hD43
              (try dsimp only)
              (repeat' (first | ((with_reducible show wpAny _ _ (execs (Stmt.Assign [Expr.Name (Str.ofString "due") _] _ _ :: _) _) _ _ _); refine stop_wp ?_) | (k_unfold; (try dsimp only)) | ((first | (with_reducible refine Then.next ?_) | (with_reducible refine Then.ret ?_) | (with_reducible refine Joined.next ?_) | (with_reducible refine Joined.ret ?_) | (with_reducible refine HidV.get (by with_reducible assumption) _ _ ?_) | (with_reducible refine Hdn.get (by with_reducible assumption) ?_) | (with_reducible refine TurnEnd.toRet ?_)); (try dsimp only)) | (k_end; wrow_close) | ((with_reducible refine hide_turn ?_); intro Q1 H1) | (with_reducible refine exec_hid ?_) | (with_reducible (first | refine sp1 ?_ | refine sp2 ?_ | refine sp3 ?_ | refine sp4 ?_ | refine sp5 ?_ | refine sp6 ?_ | refine sp7 ?_ | refine sp8 ?_ | refine sp9 ?_ | refine sp10 ?_ | refine sp11 ?_ | refine sp12 ?_ | refine sp13 ?_ | refine sp14 ?_ | refine sp15 ?_ | refine sp16 ?_ | refine sp17 ?_ | refine sp18 ?_ | refine sp19 ?_ | refine sp22 ?_ | refine sp23 ?_ | refine sp24 ?_)) | ((with_reducible show wpAny _ _ (exec (Stmt.For (Expr.Name _ _) _ _ [] _) _) _ _ _); (with_unfolding_all refine' for_at ?F ?k1 ?k2 ?_ ?k3 ?k4; (case F => k_asm); (case k1 => exact rfl); (case k2 => exact rfl); (case k3 => intro _; rfl); (case k4 => assumption); k_whole)) | walk1 | (dsimp only; walk1) | (leave1; walk_say "STEP leave1"; try dsimp only) | fail "no step"))
              refine Stop.go ?_
              refine exec_join (DueMid w H0 L1 dd dT (own ++ LL (L1 + 1) (L1 + 1 + 1) x dx dS dK dT dKK dd l c1 c2 (mdDict w t1 t2 2 dS dK) oS2 oK2 oT2 oKK2 oD23 oL23) nb tnb (savedB K [nb]) G0 Dr0 O0) (fun Q1 H1 => ?_) ?_
              · (repeat' (first | (k_unfold; (try dsimp only)) | ((first | (with_reducible refine Then.next ?_) | (with_reducible refine Then.ret ?_) | (with_reducible refine Joined.next ?_) | (with_reducible refine Joined.ret ?_) | (with_reducible refine HidV.get (by with_reducible assumption) _ _ ?_) | (with_reducible refine Hdn.get (by with_reducible assumption) ?_) | (with_reducible refine TurnEnd.toRet ?_)); (try dsimp only)) | (k_end; wrow_close) | ((with_reducible refine hide_turn ?_); intro Q1 H1) | (with_reducible refine exec_hid ?_) | (with_reducible (first | refine sp1 ?_ | refine sp2 ?_ | refine sp3 ?_ | refine sp4 ?_ | refine sp5 ?_ | refine sp6 ?_ | refine sp7 ?_ | refine sp8 ?_ | refine sp9 ?_ | refine sp10 ?_ | refine sp11 ?_ | refine sp12 ?_ | refine sp13 ?_ | refine sp14 ?_ | refine sp15 ?_ | refine sp16 ?_ | refine sp17 ?_ | refine sp18 ?_ | refine sp19 ?_ | refine sp22 ?_ | refine sp23 ?_ | refine sp24 ?_)) | ((with_reducible show wpAny _ _ (exec (Stmt.For (Expr.Name _ _) _ _ [] _) _) _ _ _); (with_unfolding_all refine' for_at ?F ?k1 ?k2 ?_ ?k3 ?k4; (case F => k_asm); (case k1 => exact rfl); (case k2 => exact rfl); (case k3 => intro _; rfl); (case k4 => assumption); k_whole)) | walk1 | (dsimp only; walk1) | (leave1; walk_say "STEP leave1"; try dsimp only) | fail "no step"))
                refine Stop.go ?_
                refine kda_in (knd := intKind _ _) (by k_asm) LL_memKK I23.hKK LA.loKK (intKind_is _ _ _ _) ((getB KK nb).isSome) (by rw [valueAt_vals]; cases getB KK nb <;> rfl) ?_
                cases hg : getB KK nb with
                | none =>
                  (try dsimp only [Option.isSome])
                  (repeat' (first | (k_unfold; (try dsimp only)) | ((first | (with_reducible refine Then.next ?_) | (with_reducible refine Then.ret ?_) | (with_reducible refine Joined.next ?_) | (with_reducible refine Joined.ret ?_) | (with_reducible refine HidV.get (by with_reducible assumption) _ _ ?_) | (with_reducible refine Hdn.get (by with_reducible assumption) ?_) | (with_reducible refine TurnEnd.toRet ?_)); (try dsimp only)) | (k_end; wrow_close) | ((with_reducible refine hide_turn ?_); intro Q1 H1) | (with_reducible refine exec_hid ?_) | (with_reducible (first | refine sp1 ?_ | refine sp2 ?_ | refine sp3 ?_ | refine sp4 ?_ | refine sp5 ?_ | refine sp6 ?_ | refine sp7 ?_ | refine sp8 ?_ | refine sp9 ?_ | refine sp10 ?_ | refine sp11 ?_ | refine sp12 ?_ | refine sp13 ?_ | refine sp14 ?_ | refine sp15 ?_ | refine sp16 ?_ | refine sp17 ?_ | refine sp18 ?_ | refine sp19 ?_ | refine sp22 ?_ | refine sp23 ?_ | refine sp24 ?_)) | ((with_reducible show wpAny _ _ (exec (Stmt.For (Expr.Name _ _) _ _ [] _) _) _ _ _); (with_unfolding_all refine' for_at ?F ?k1 ?k2 ?_ ?k3 ?k4; (case F => k_asm); (case k1 => exact rfl); (case k2 => exact rfl); (case k3 => intro _; rfl); (case k4 => assumption); k_whole)) | walk1 | (dsimp only; walk1) | (leave1; walk_say "STEP leave1"; try dsimp only) | fail "no step"))
                  rename Fr H0 _ _ _ => F59
                  rename News H0 _ _ _ => N59
                  exact DueMid.intro (vs := []) (pre := [_]) F59 N59 (.head _) (by rw [savedB_one I23.kp (wd_some hnm), hg]; trivial) rfl rfl rfl rfl
                | some bv =>
                  have hval : valueAt (vals KK) nb = some (.bool bv) := by rw [valueAt_vals, hg]; rfl
                  (try dsimp only [Option.isSome])
                  (repeat' (first | (k_unfold; (try dsimp only)) | ((first | (with_reducible refine Then.next ?_) | (with_reducible refine Then.ret ?_) | (with_reducible refine Joined.next ?_) | (with_reducible refine Joined.ret ?_) | (with_reducible refine HidV.get (by with_reducible assumption) _ _ ?_) | (with_reducible refine Hdn.get (by with_reducible assumption) ?_) | (with_reducible refine TurnEnd.toRet ?_)); (try dsimp only)) | (k_end; wrow_close) | ((with_reducible refine hide_turn ?_); intro Q1 H1) | (with_reducible refine exec_hid ?_) | (with_reducible (first | refine sp1 ?_ | refine sp2 ?_ | refine sp3 ?_ | refine sp4 ?_ | refine sp5 ?_ | refine sp6 ?_ | refine sp7 ?_ | refine sp8 ?_ | refine sp9 ?_ | refine sp10 ?_ | refine sp11 ?_ | refine sp12 ?_ | refine sp13 ?_ | refine sp14 ?_ | refine sp15 ?_ | refine sp16 ?_ | refine sp17 ?_ | refine sp18 ?_ | refine sp19 ?_ | refine sp22 ?_ | refine sp23 ?_ | refine sp24 ?_)) | ((with_reducible show wpAny _ _ (exec (Stmt.For (Expr.Name _ _) _ _ [] _) _) _ _ _); (with_unfolding_all refine' for_at ?F ?k1 ?k2 ?_ ?k3 ?k4; (case F => k_asm); (case k1 => exact rfl); (case k2 => exact rfl); (case k3 => intro _; rfl); (case k4 => assumption); k_whole)) | walk1 | (dsimp only; walk1) | (leave1; walk_say "STEP leave1"; try dsimp only) | fail "no step"))
                  refine Stop.go ?_
                  refine kda_item (knd := intKind _ _) (by k_asm) LL_memKK I23.hKK (intKind_is _ _ _ _) hval ?_
                  (try dsimp only)
                  (repeat' (first | (k_unfold; (try dsimp only)) | ((first | (with_reducible refine Then.next ?_) | (with_reducible refine Then.ret ?_) | (with_reducible refine Joined.next ?_) | (with_reducible refine Joined.ret ?_) | (with_reducible refine HidV.get (by with_reducible assumption) _ _ ?_) | (with_reducible refine Hdn.get (by with_reducible assumption) ?_) | (with_reducible refine TurnEnd.toRet ?_)); (try dsimp only)) | (k_end; wrow_close) | ((with_reducible refine hide_turn ?_); intro Q1 H1) | (with_reducible refine exec_hid ?_) | (with_reducible (first | refine sp1 ?_ | refine sp2 ?_ | refine sp3 ?_ | refine sp4 ?_ | refine sp5 ?_ | refine sp6 ?_ | refine sp7 ?_ | refine sp8 ?_ | refine sp9 ?_ | refine sp10 ?_ | refine sp11 ?_ | refine sp12 ?_ | refine sp13 ?_ | refine sp14 ?_ | refine sp15 ?_ | refine sp16 ?_ | refine sp17 ?_ | refine sp18 ?_ | refine sp19 ?_ | refine sp22 ?_ | refine sp23 ?_ | refine sp24 ?_)) | ((with_reducible show wpAny _ _ (exec (Stmt.For (Expr.Name _ _) _ _ [] _) _) _ _ _); (with_unfolding_all refine' for_at ?F ?k1 ?k2 ?_ ?k3 ?k4; (case F => k_asm); (case k1 => exact rfl); (case k2 => exact rfl); (case k3 => intro _; rfl); (case k4 => assumption); k_whole)) | walk1 | (dsimp only; walk1) | (leave1; walk_say "STEP leave1"; try dsimp only) | fail "no step"))
                  rename Fr H0 _ _ _ => F59
                  rename News H0 _ _ _ => N59
                  exact DueMid.intro (vs := [.ref _]) (pre := [_, _]) F59 N59 (.head _) (by rw [savedB_one I23.kp (wd_some hnm), hg]; exact ⟨⟨_, _, _, rfl, .tail _ (.head _)⟩, trivial⟩) rfl rfl rfl rfl
              · intro s60 Z60
                refine Z60.elim (P := fun s60 => wpAny _ _ (execs _ _) _ _ s60) ?_
                clear Z60 s60
                intro h60 tk60 m60 D60 vs60 kn60 pre60 F60 N60 hD60 hR60
                rw [← List.append_assoc] at N60
                (repeat' (first | (k_unfold; (try dsimp only)) | ((first | (with_reducible refine Then.next ?_) | (with_reducible refine Then.ret ?_) | (with_reducible refine Joined.next ?_) | (with_reducible refine Joined.ret ?_) | (with_reducible refine HidV.get (by with_reducible assumption) _ _ ?_) | (with_reducible refine Hdn.get (by with_reducible assumption) ?_) | (with_reducible refine TurnEnd.toRet ?_)); (try dsimp only)) | (k_end; wrow_close) | ((with_reducible refine hide_turn ?_); intro Q1 H1) | (with_reducible refine exec_hid ?_) | (with_reducible (first | refine sp1 ?_ | refine sp2 ?_ | refine sp3 ?_ | refine sp4 ?_ | refine sp5 ?_ | refine sp6 ?_ | refine sp7 ?_ | refine sp8 ?_ | refine sp9 ?_ | refine sp10 ?_ | refine sp11 ?_ | refine sp12 ?_ | refine sp13 ?_ | refine sp14 ?_ | refine sp15 ?_ | refine sp16 ?_ | refine sp17 ?_ | refine sp18 ?_ | refine sp19 ?_ | refine sp22 ?_ | refine sp23 ?_ | refine sp24 ?_)) | ((with_reducible show wpAny _ _ (exec (Stmt.For (Expr.Name _ _) _ _ [] _) _) _ _ _); (with_unfolding_all refine' for_at ?F ?k1 ?k2 ?_ ?k3 ?k4; (case F => k_asm); (case k1 => exact rfl); (case k2 => exact rfl); (case k3 => intro _; rfl); (case k4 => assumption); k_whole)) | walk1 | (dsimp only; walk1) | (leave1; walk_say "STEP leave1"; try dsimp only) | fail "no step"))
                refine Stop.go ?_
                (k_dflt (first | ((with_reducible refine' comp_TW ?kF ?k1 ?k2 ?k3 ?k4 ?k5 ?_ ?k6); (case kF => k_asm); (case k1 => with_unfolding_all rfl); (case k2 => decide); (case k3 => rfl); (case k4 => decide); (case k5 => rfl); (case k6 => intro _; rfl)) | ((with_reducible refine' comp_UW ?kF ?k1 ?k2 ?k3 ?k4 ?k5 ?_ ?k6); (case kF => k_asm); (case k1 => with_unfolding_all rfl); (case k2 => decide); (case k3 => rfl); (case k4 => decide); (case k5 => rfl); (case k6 => intro _; rfl))))
                (repeat' (first | (k_unfold; (try dsimp only)) | ((first | (with_reducible refine Then.next ?_) | (with_reducible refine Then.ret ?_) | (with_reducible refine Joined.next ?_) | (with_reducible refine Joined.ret ?_) | (with_reducible refine HidV.get (by with_reducible assumption) _ _ ?_) | (with_reducible refine Hdn.get (by with_reducible assumption) ?_) | (with_reducible refine TurnEnd.toRet ?_)); (try dsimp only)) | (k_end; wrow_close) | ((with_reducible refine hide_turn ?_); intro Q1 H1) | (with_reducible refine exec_hid ?_) | (with_reducible (first | refine sp1 ?_ | refine sp2 ?_ | refine sp3 ?_ | refine sp4 ?_ | refine sp5 ?_ | refine sp6 ?_ | refine sp7 ?_ | refine sp8 ?_ | refine sp9 ?_ | refine sp10 ?_ | refine sp11 ?_ | refine sp12 ?_ | refine sp13 ?_ | refine sp14 ?_ | refine sp15 ?_ | refine sp16 ?_ | refine sp17 ?_ | refine sp18 ?_ | refine sp19 ?_ | refine sp22 ?_ | refine sp23 ?_ | refine sp24 ?_)) | ((with_reducible show wpAny _ _ (exec (Stmt.For (Expr.Name _ _) _ _ [] _) _) _ _ _); (with_unfolding_all refine' for_at ?F ?k1 ?k2 ?_ ?k3 ?k4; (case F => k_asm); (case k1 => exact rfl); (case k2 => exact rfl); (case k3 => intro _; rfl); (case k4 => assumption); k_whole)) | walk1 | (dsimp only; walk1) | (leave1; walk_say "STEP leave1"; try dsimp only) | fail "no step"))
                refine Stop.go ?_
                refine u_savedL (pre := _ :: (pre60 ++ own)) (vs := [.int nb tnb]) (ns := [nb]) (.cons _ _ .nil) (.head _) (by show (1:Nat) ≤ 60; decide) LA I23 (by assumption) (by exact rfl) (by exact rfl) (by k_asm) (by k_asm) (by k_asm) (by k_asm) (by k_asm) (by exact room (by assumption) (by decide)) (by exact room (by assumption) (by decide)) ?_
                intro D63 us63 kn63 nw63 h63 tk63 F63 N63 hD63 hR63
                (try dsimp only)
                (repeat' (first | (k_unfold; (try dsimp only)) | ((first | (with_reducible refine Then.next ?_) | (with_reducible refine Then.ret ?_) | (with_reducible refine Joined.next ?_) | (with_reducible refine Joined.ret ?_) | (with_reducible refine HidV.get (by with_reducible assumption) _ _ ?_) | (with_reducible refine Hdn.get (by with_reducible assumption) ?_) | (with_reducible refine TurnEnd.toRet ?_)); (try dsimp only)) | (k_end; wrow_close) | ((with_reducible refine hide_turn ?_); intro Q1 H1) | (with_reducible refine exec_hid ?_) | (with_reducible (first | refine sp1 ?_ | refine sp2 ?_ | refine sp3 ?_ | refine sp4 ?_ | refine sp5 ?_ | refine sp6 ?_ | refine sp7 ?_ | refine sp8 ?_ | refine sp9 ?_ | refine sp10 ?_ | refine sp11 ?_ | refine sp12 ?_ | refine sp13 ?_ | refine sp14 ?_ | refine sp15 ?_ | refine sp16 ?_ | refine sp17 ?_ | refine sp18 ?_ | refine sp19 ?_ | refine sp22 ?_ | refine sp23 ?_ | refine sp24 ?_)) | ((with_reducible show wpAny _ _ (exec (Stmt.For (Expr.Name _ _) _ _ [] _) _) _ _ _); (with_unfolding_all refine' for_at ?F ?k1 ?k2 ?_ ?k3 ?k4; (case F => k_asm); (case k1 => exact rfl); (case k2 => exact rfl); (case k3 => intro _; rfl); (case k4 => assumption); k_whole)) | walk1 | (dsimp only; walk1) | (leave1; walk_say "STEP leave1"; try dsimp only) | fail "no step"))
                have hul3 : us63.length ≤ 20 := Nat.le_trans (Nat.le_of_eq hR63.length) (Nat.le_trans (saved_len K [nb]) (by decide : 1 ≤ 20))
                refine with_base N63 (fun B6 hB6 N64 => ?_)
                have hDs6 : (D63, listOf us63.toArray kn63) ∈ B6 := by rw [hB6]; exact List.mem_append_left _ hD63
                have hRs6 : Rows B6 us63 (savedB K [nb]) := by rw [hB6]; exact hR63.left
                have hDd6 : (D60, listOf vs60.toArray kn60) ∈ B6 := by rw [hB6]; exact List.mem_append_right _ (.tail _ (List.mem_append_left _ (List.mem_append_left _ hD60)))
                have hRd6 : Rows B6 vs60 (savedB K [nb]) := by rw [hB6]; exact Rows.mono hR60 fun a its n h => List.mem_append_right _ (.tail _ (List.mem_append_left _ (List.mem_append_left _ h)))
                have hLL6 : ∀ q ∈ own ++ LL (L1 + 1) (L1 + 1 + 1) x dx dS dK dT dKK dd l c1 c2 (mdDict w t1 t2 2 dS dK) oS2 oK2 oT2 oKK2 oD23 oL23, q ∈ B6 := fun q hq => by
                  rw [hB6]
                  exact List.mem_append_right _ (.tail _ (mem_mid hq))
                clear N63 hB6 hR63 hD63 hR60 hD60
                refine src_list rfl F63 N64 (.inr ⟨_, hDs6, rfl, _, rfl⟩) (by rw [List.size_toArray, sizeLine_eq]; exact Nat.le_trans hul3 (by decide)) ?_
                intro g65
                refine rest_inv (fun i ys nw => B6 = nw ∧ us63.take i = ys) ?_ ?_ _ 0 [] _ (Nat.zero_add _) ⟨rfl, rfl⟩
                · intro i ys nw v I oI C oC D5 m₂ h tk E' hi hJ hP hC hxv F46 N46 off ne
                  refine hide_goal (fun Hq => ?_)
                  obtain ⟨rfl, rfl⟩ := hJ
                  have hv46 : us63[i]? = some v := by simpa using hP
                  obtain ⟨a46, o46, rfl, hm46, hc46, its46, n46, hd46⟩ := hRs6.pt hv46
                  (repeat' (first | (k_unfold; (try dsimp only)) | ((first | (with_reducible refine Then.next ?_) | (with_reducible refine Then.ret ?_) | (with_reducible refine Joined.next ?_) | (with_reducible refine Joined.ret ?_) | (with_reducible refine HidV.get (by with_reducible assumption) _ _ ?_) | (with_reducible refine Hdn.get (by with_reducible assumption) ?_) | (with_reducible refine TurnEnd.toRet ?_)); (try dsimp only)) | (k_end; wrow_close) | ((with_reducible refine hide_turn ?_); intro Q1 H1) | (with_reducible refine exec_hid ?_) | (with_reducible (first | refine sp1 ?_ | refine sp2 ?_ | refine sp3 ?_ | refine sp4 ?_ | refine sp5 ?_ | refine sp6 ?_ | refine sp7 ?_ | refine sp8 ?_ | refine sp9 ?_ | refine sp10 ?_ | refine sp11 ?_ | refine sp12 ?_ | refine sp13 ?_ | refine sp14 ?_ | refine sp15 ?_ | refine sp16 ?_ | refine sp17 ?_ | refine sp18 ?_ | refine sp19 ?_ | refine sp22 ?_ | refine sp23 ?_ | refine sp24 ?_)) | ((with_reducible show wpAny _ _ (exec (Stmt.For (Expr.Name _ _) _ _ [] _) _) _ _ _); (with_unfolding_all refine' for_at ?F ?k1 ?k2 ?_ ?k3 ?k4; (case F => k_asm); (case k1 => exact rfl); (case k2 => exact rfl); (case k3 => intro _; rfl); (case k4 => assumption); k_whole)) | walk1 | (dsimp only; walk1) | (leave1; walk_say "STEP leave1"; try dsimp only) | fail "no step"))
                  refine Stop.go ?_
                  rename News H0 _ _ _ => N47
                  refine call_tuple_tup ⟨o46, (N47 _ (.tail _ (.tail _ (.tail _ hm46)))).1, hc46, n46, hd46⟩ ?_
                  (try dsimp only)
                  (repeat' (first | (k_unfold; (try dsimp only)) | ((first | (with_reducible refine Then.next ?_) | (with_reducible refine Then.ret ?_) | (with_reducible refine Joined.next ?_) | (with_reducible refine Joined.ret ?_) | (with_reducible refine HidV.get (by with_reducible assumption) _ _ ?_) | (with_reducible refine Hdn.get (by with_reducible assumption) ?_) | (with_reducible refine TurnEnd.toRet ?_)); (try dsimp only)) | (k_end; wrow_close) | ((with_reducible refine hide_turn ?_); intro Q1 H1) | (with_reducible refine exec_hid ?_) | (with_reducible (first | refine sp1 ?_ | refine sp2 ?_ | refine sp3 ?_ | refine sp4 ?_ | refine sp5 ?_ | refine sp6 ?_ | refine sp7 ?_ | refine sp8 ?_ | refine sp9 ?_ | refine sp10 ?_ | refine sp11 ?_ | refine sp12 ?_ | refine sp13 ?_ | refine sp14 ?_ | refine sp15 ?_ | refine sp16 ?_ | refine sp17 ?_ | refine sp18 ?_ | refine sp19 ?_ | refine sp22 ?_ | refine sp23 ?_ | refine sp24 ?_)) | ((with_reducible show wpAny _ _ (exec (Stmt.For (Expr.Name _ _) _ _ [] _) _) _ _ _); (with_unfolding_all refine' for_at ?F ?k1 ?k2 ?_ ?k3 ?k4; (case F => k_asm); (case k1 => exact rfl); (case k2 => exact rfl); (case k3 => intro _; rfl); (case k4 => assumption); k_whole)) | walk1 | (dsimp only; walk1) | (leave1; walk_say "STEP leave1"; try dsimp only) | fail "no step"))
                  exact LCg.CompEnd.intro (by k_asm) (by k_asm) _ (fun _ h => h) off (.inr ⟨_, hDs6, rfl, _, rfl⟩) ⟨rfl, take_snoc hv46⟩
                · intro ys nw hJ
                  refine hide_goal (fun Hq => ?_)
                  obtain ⟨rfl, rfl⟩ := hJ
                  (try ((first | (with_reducible refine Then.next ?_) | (with_reducible refine Then.ret ?_) | (with_reducible refine Joined.next ?_) | (with_reducible refine Joined.ret ?_) | (with_reducible refine HidV.get (by with_reducible assumption) _ _ ?_) | (with_reducible refine Hdn.get (by with_reducible assumption) ?_) | (with_reducible refine TurnEnd.toRet ?_)); (try dsimp only)))
                  intro D48 h48 tk48 F48 N48 off48
                  have e48 : us63.take us63.toArray.size = us63 := by rw [List.size_toArray]; exact List.take_length
                  rw [e48] at N48
                  (try dsimp only)
                  (repeat' (first | (k_unfold; (try dsimp only)) | ((first | (with_reducible refine Then.next ?_) | (with_reducible refine Then.ret ?_) | (with_reducible refine Joined.next ?_) | (with_reducible refine Joined.ret ?_) | (with_reducible refine HidV.get (by with_reducible assumption) _ _ ?_) | (with_reducible refine Hdn.get (by with_reducible assumption) ?_) | (with_reducible refine TurnEnd.toRet ?_)); (try dsimp only)) | (k_end; wrow_close) | ((with_reducible refine hide_turn ?_); intro Q1 H1) | (with_reducible refine exec_hid ?_) | (with_reducible (first | refine sp1 ?_ | refine sp2 ?_ | refine sp3 ?_ | refine sp4 ?_ | refine sp5 ?_ | refine sp6 ?_ | refine sp7 ?_ | refine sp8 ?_ | refine sp9 ?_ | refine sp10 ?_ | refine sp11 ?_ | refine sp12 ?_ | refine sp13 ?_ | refine sp14 ?_ | refine sp15 ?_ | refine sp16 ?_ | refine sp17 ?_ | refine sp18 ?_ | refine sp19 ?_ | refine sp22 ?_ | refine sp23 ?_ | refine sp24 ?_)) | ((with_reducible show wpAny _ _ (exec (Stmt.For (Expr.Name _ _) _ _ [] _) _) _ _ _); (with_unfolding_all refine' for_at ?F ?k1 ?k2 ?_ ?k3 ?k4; (case F => k_asm); (case k1 => exact rfl); (case k2 => exact rfl); (case k3 => intro _; rfl); (case k4 => assumption); k_whole)) | walk1 | (dsimp only; walk1) | (leave1; walk_say "STEP leave1"; try dsimp only) | fail "no step"))
                  refine Stop.go ?_
                  rename News H0 _ _ _ => N67
                  refine ne_rows N67 (.head _) (.tail _ hDd6) (ps := savedB K [nb]) (Rows.cons_mono hRs6) (Rows.cons_mono hRd6) (saved_one_ok I23.kp hnm) (by exact room (by assumption) (by decide)) ?_
                  have N68 := news_sub N67 (fun q hq => .tail _ (hLL6 q hq))
                  clear N67
                  (try dsimp only)
                  (repeat' (first | (k_unfold; (try dsimp only)) | ((first | (with_reducible refine Then.next ?_) | (with_reducible refine Then.ret ?_) | (with_reducible refine Joined.next ?_) | (with_reducible refine Joined.ret ?_) | (with_reducible refine HidV.get (by with_reducible assumption) _ _ ?_) | (with_reducible refine Hdn.get (by with_reducible assumption) ?_) | (with_reducible refine TurnEnd.toRet ?_)); (try dsimp only)) | (k_end; wrow_close) | ((with_reducible refine hide_turn ?_); intro Q1 H1) | (with_reducible refine exec_hid ?_) | (with_reducible (first | refine sp1 ?_ | refine sp2 ?_ | refine sp3 ?_ | refine sp4 ?_ | refine sp5 ?_ | refine sp6 ?_ | refine sp7 ?_ | refine sp8 ?_ | refine sp9 ?_ | refine sp10 ?_ | refine sp11 ?_ | refine sp12 ?_ | refine sp13 ?_ | refine sp14 ?_ | refine sp15 ?_ | refine sp16 ?_ | refine sp17 ?_ | refine sp18 ?_ | refine sp19 ?_ | refine sp22 ?_ | refine sp23 ?_ | refine sp24 ?_)) | ((with_reducible show wpAny _ _ (exec (Stmt.For (Expr.Name _ _) _ _ [] _) _) _ _ _); (with_unfolding_all refine' for_at ?F ?k1 ?k2 ?_ ?k3 ?k4; (case F => k_asm); (case k1 => exact rfl); (case k2 => exact rfl); (case k3 => intro _; rfl); (case k4 => assumption); k_whole)) | walk1 | (dsimp only; walk1) | (leave1; walk_say "STEP leave1"; try dsimp only) | fail "no step"))
                  rename Fr H0 _ _ _ => F69
                  exact LawMid.intro I23 F69 N68 rfl rfl
--}C
        · exact LawMid.intro I23 F24 N24 rfl rfl
      · intro s70 Z70
        refine Z70.elim (P := fun s70 => wpAny _ _ (execs _ _) _ _ s70) ?_
        clear Z70 s70
        intro oS7 oK7 oT7 oKK7 oD7 oL7 S7 T7 K7 KK7 h70 tk70 m70 I70 F70 N70
        (repeat' (first | (k_unfold; (try dsimp only)) | ((first | (with_reducible refine Then.next ?_) | (with_reducible refine Then.ret ?_) | (with_reducible refine Joined.next ?_) | (with_reducible refine Joined.ret ?_) | (with_reducible refine HidV.get (by with_reducible assumption) _ _ ?_) | (with_reducible refine Hdn.get (by with_reducible assumption) ?_) | (with_reducible refine TurnEnd.toRet ?_)); (try dsimp only)) | (k_end; wrow_close) | ((with_reducible refine hide_turn ?_); intro Q1 H1) | (with_reducible refine exec_hid ?_) | (with_reducible (first | refine sp1 ?_ | refine sp2 ?_ | refine sp3 ?_ | refine sp4 ?_ | refine sp5 ?_ | refine sp6 ?_ | refine sp7 ?_ | refine sp8 ?_ | refine sp9 ?_ | refine sp10 ?_ | refine sp11 ?_ | refine sp12 ?_ | refine sp13 ?_ | refine sp14 ?_ | refine sp15 ?_ | refine sp16 ?_ | refine sp17 ?_ | refine sp18 ?_ | refine sp19 ?_ | refine sp22 ?_ | refine sp23 ?_ | refine sp24 ?_)) | ((with_reducible show wpAny _ _ (exec (Stmt.For (Expr.Name _ _) _ _ [] _) _) _ _ _); (with_unfolding_all refine' for_at ?F ?k1 ?k2 ?_ ?k3 ?k4; (case F => k_asm); (case k1 => exact rfl); (case k2 => exact rfl); (case k3 => intro _; rfl); (case k4 => assumption); k_whole)) | walk1 | (dsimp only; walk1) | (leave1; walk_say "STEP leave1"; try dsimp only) | fail "no step"))
        refine Stop.go ?_
        refine u_shownL LA I70 (by assumption) (by exact rfl) (by exact rfl) (by k_asm) (by k_asm) (by k_asm) (by k_asm) (by k_asm) (by exact room (by assumption) (by decide)) (by exact room (by assumption) (by decide)) ?_
        intro h71 tk71 F71 N71
        (try dsimp only)
        (repeat' (first | (k_unfold; (try dsimp only)) | ((first | (with_reducible refine Then.next ?_) | (with_reducible refine Then.ret ?_) | (with_reducible refine Joined.next ?_) | (with_reducible refine Joined.ret ?_) | (with_reducible refine HidV.get (by with_reducible assumption) _ _ ?_) | (with_reducible refine Hdn.get (by with_reducible assumption) ?_) | (with_reducible refine TurnEnd.toRet ?_)); (try dsimp only)) | (k_end; wrow_close) | ((with_reducible refine hide_turn ?_); intro Q1 H1) | (with_reducible refine exec_hid ?_) | (with_reducible (first | refine sp1 ?_ | refine sp2 ?_ | refine sp3 ?_ | refine sp4 ?_ | refine sp5 ?_ | refine sp6 ?_ | refine sp7 ?_ | refine sp8 ?_ | refine sp9 ?_ | refine sp10 ?_ | refine sp11 ?_ | refine sp12 ?_ | refine sp13 ?_ | refine sp14 ?_ | refine sp15 ?_ | refine sp16 ?_ | refine sp17 ?_ | refine sp18 ?_ | refine sp19 ?_ | refine sp22 ?_ | refine sp23 ?_ | refine sp24 ?_)) | ((with_reducible show wpAny _ _ (exec (Stmt.For (Expr.Name _ _) _ _ [] _) _) _ _ _); (with_unfolding_all refine' for_at ?F ?k1 ?k2 ?_ ?k3 ?k4; (case F => k_asm); (case k1 => exact rfl); (case k2 => exact rfl); (case k3 => intro _; rfl); (case k4 => assumption); k_whole)) | walk1 | (dsimp only; walk1) | (leave1; walk_say "STEP leave1"; try dsimp only) | fail "no step"))
        exact LawEnd.next I70 F71 N71 rfl rfl
--}T
    · intro m72 h72 tk72 Z72
      subst hR2
      refine Z72.elim ?_
      clear Z72
      intro oS7 oK7 oT7 oKK7 oD7 oL7 S7 T7 K7 KK7 I72 F72 N72
      (repeat' (first | (k_unfold; (try dsimp only)) | ((first | (with_reducible refine Then.next ?_) | (with_reducible refine Then.ret ?_) | (with_reducible refine Joined.next ?_) | (with_reducible refine Joined.ret ?_) | (with_reducible refine HidV.get (by with_reducible assumption) _ _ ?_) | (with_reducible refine Hdn.get (by with_reducible assumption) ?_) | (with_reducible refine TurnEnd.toRet ?_)); (try dsimp only)) | (k_end; wrow_close) | ((with_reducible refine hide_turn ?_); intro Q1 H1) | (with_reducible refine exec_hid ?_) | (with_reducible (first | refine sp1 ?_ | refine sp2 ?_ | refine sp3 ?_ | refine sp4 ?_ | refine sp5 ?_ | refine sp6 ?_ | refine sp7 ?_ | refine sp8 ?_ | refine sp9 ?_ | refine sp10 ?_ | refine sp11 ?_ | refine sp12 ?_ | refine sp13 ?_ | refine sp14 ?_ | refine sp15 ?_ | refine sp16 ?_ | refine sp17 ?_ | refine sp18 ?_ | refine sp19 ?_ | refine sp22 ?_ | refine sp23 ?_ | refine sp24 ?_)) | ((with_reducible show wpAny _ _ (exec (Stmt.For (Expr.Name _ _) _ _ [] _) _) _ _ _); (with_unfolding_all refine' for_at ?F ?k1 ?k2 ?_ ?k3 ?k4; (case F => k_asm); (case k1 => exact rfl); (case k2 => exact rfl); (case k3 => intro _; rfl); (case k4 => assumption); k_whole)) | walk1 | (dsimp only; walk1) | (leave1; walk_say "STEP leave1"; try dsimp only) | fail "no step"))
      refine Stop.go ?_
      refine u_copyL LA I72 (by assumption) (by exact rfl) (by exact rfl) (by k_asm) (by k_asm) (by k_asm) (by k_asm) (by k_asm) (by exact room (by assumption) (by decide)) (by exact room (by assumption) (by decide)) ?_
      intro xm dxm dSm dKm t1m t2m oSm oKm h73 tk73 F73 N73 M hSm
      (try dsimp only)
      (repeat' (first | (k_unfold; (try dsimp only)) | ((first | (with_reducible refine Then.next ?_) | (with_reducible refine Then.ret ?_) | (with_reducible refine Joined.next ?_) | (with_reducible refine Joined.ret ?_) | (with_reducible refine HidV.get (by with_reducible assumption) _ _ ?_) | (with_reducible refine Hdn.get (by with_reducible assumption) ?_) | (with_reducible refine TurnEnd.toRet ?_)); (try dsimp only)) | (k_end; wrow_close) | ((with_reducible refine hide_turn ?_); intro Q1 H1) | (with_reducible refine exec_hid ?_) | (with_reducible (first | refine sp1 ?_ | refine sp2 ?_ | refine sp3 ?_ | refine sp4 ?_ | refine sp5 ?_ | refine sp6 ?_ | refine sp7 ?_ | refine sp8 ?_ | refine sp9 ?_ | refine sp10 ?_ | refine sp11 ?_ | refine sp12 ?_ | refine sp13 ?_ | refine sp14 ?_ | refine sp15 ?_ | refine sp16 ?_ | refine sp17 ?_ | refine sp18 ?_ | refine sp19 ?_ | refine sp22 ?_ | refine sp23 ?_ | refine sp24 ?_)) | ((with_reducible show wpAny _ _ (exec (Stmt.For (Expr.Name _ _) _ _ [] _) _) _ _ _); (with_unfolding_all refine' for_at ?F ?k1 ?k2 ?_ ?k3 ?k4; (case F => k_asm); (case k1 => exact rfl); (case k2 => exact rfl); (case k3 => intro _; rfl); (case k4 => assumption); k_whole)) | walk1 | (dsimp only; walk1) | (leave1; walk_say "STEP leave1"; try dsimp only) | fail "no step"))
      refine Stop.go ?_
      refine u_sameM M hSm I72.ag.1 LA I72 true ⟨fun _ _ => rfl, fun _ => rfl⟩ (by assumption) (by exact rfl) (by exact rfl) (by k_asm) (by k_asm) (by k_asm) (by k_asm) (by k_asm) (by exact room (by assumption) (by decide)) (by exact room (by assumption) (by decide)) ?_
      intro h74 tk74 F74 N74
      (try dsimp only)
      (repeat' (first | (k_unfold; (try dsimp only)) | ((first | (with_reducible refine Then.next ?_) | (with_reducible refine Then.ret ?_) | (with_reducible refine Joined.next ?_) | (with_reducible refine Joined.ret ?_) | (with_reducible refine HidV.get (by with_reducible assumption) _ _ ?_) | (with_reducible refine Hdn.get (by with_reducible assumption) ?_) | (with_reducible refine TurnEnd.toRet ?_)); (try dsimp only)) | (k_end; wrow_close) | ((with_reducible refine hide_turn ?_); intro Q1 H1) | (with_reducible refine exec_hid ?_) | (with_reducible (first | refine sp1 ?_ | refine sp2 ?_ | refine sp3 ?_ | refine sp4 ?_ | refine sp5 ?_ | refine sp6 ?_ | refine sp7 ?_ | refine sp8 ?_ | refine sp9 ?_ | refine sp10 ?_ | refine sp11 ?_ | refine sp12 ?_ | refine sp13 ?_ | refine sp14 ?_ | refine sp15 ?_ | refine sp16 ?_ | refine sp17 ?_ | refine sp18 ?_ | refine sp19 ?_ | refine sp22 ?_ | refine sp23 ?_ | refine sp24 ?_)) | ((with_reducible show wpAny _ _ (exec (Stmt.For (Expr.Name _ _) _ _ [] _) _) _ _ _); (with_unfolding_all refine' for_at ?F ?k1 ?k2 ?_ ?k3 ?k4; (case F => k_asm); (case k1 => exact rfl); (case k2 => exact rfl); (case k3 => intro _; rfl); (case k4 => assumption); k_whole)) | walk1 | (dsimp only; walk1) | (leave1; walk_say "STEP leave1"; try dsimp only) | fail "no step"))
      refine Stop.go ?_
      refine u_shownM M hSm LA I72 (by assumption) (by exact rfl) (by exact rfl) (by k_asm) (by k_asm) (by k_asm) (by k_asm) (by k_asm) (by exact room (by assumption) (by decide)) (by exact room (by assumption) (by decide)) ?_
      intro h75 tk75 F75 N75
      (try dsimp only)
      (repeat' (first | (k_unfold; (try dsimp only)) | ((first | (with_reducible refine Then.next ?_) | (with_reducible refine Then.ret ?_) | (with_reducible refine Joined.next ?_) | (with_reducible refine Joined.ret ?_) | (with_reducible refine HidV.get (by with_reducible assumption) _ _ ?_) | (with_reducible refine Hdn.get (by with_reducible assumption) ?_) | (with_reducible refine TurnEnd.toRet ?_)); (try dsimp only)) | (k_end; wrow_close) | ((with_reducible refine hide_turn ?_); intro Q1 H1) | (with_reducible refine exec_hid ?_) | (with_reducible (first | refine sp1 ?_ | refine sp2 ?_ | refine sp3 ?_ | refine sp4 ?_ | refine sp5 ?_ | refine sp6 ?_ | refine sp7 ?_ | refine sp8 ?_ | refine sp9 ?_ | refine sp10 ?_ | refine sp11 ?_ | refine sp12 ?_ | refine sp13 ?_ | refine sp14 ?_ | refine sp15 ?_ | refine sp16 ?_ | refine sp17 ?_ | refine sp18 ?_ | refine sp19 ?_ | refine sp22 ?_ | refine sp23 ?_ | refine sp24 ?_)) | ((with_reducible show wpAny _ _ (exec (Stmt.For (Expr.Name _ _) _ _ [] _) _) _ _ _); (with_unfolding_all refine' for_at ?F ?k1 ?k2 ?_ ?k3 ?k4; (case F => k_asm); (case k1 => exact rfl); (case k2 => exact rfl); (case k3 => intro _; rfl); (case k4 => assumption); k_whole)) | walk1 | (dsimp only; walk1) | (leave1; walk_say "STEP leave1"; try dsimp only) | fail "no step"))
      refine Stop.go ?_
      refine u_drawL (by decide) (by decide) LA M.off I72 (by assumption) (by exact rfl) (by exact rfl) (by k_asm) (by k_asm) (by k_asm) (by k_asm) (by k_asm) (by exact room (by assumption) (by decide)) (by exact room (by assumption) (by decide)) ?_
      clear I72
      intro v76 t76 oD76 oL76 h76 tk76 v76a v76b F76 N76 I76
      (try dsimp only)
      walk1
      (try dsimp only)
      refine nums_item (k := 8 + v76) (by k_asm) KX (Int.le_trans v76a (Int.le_add_of_nonneg_left (by decide))) (Int.add_lt_add_left v76b 8) (fun nd tnd hnd => ?_) (by with_unfolding_all rfl)
      have hnl := late_mem v76a hnd
      have hgl := late_wd hnl
      clear hnd v76a v76b
      (try dsimp only)
      refine tab_item (hPD.keep (Fr.keep (by k_asm))) hPS (wd_some hnl.1) (fun twd tkd => ?_) (by with_unfolding_all rfl) (by intro _; with_unfolding_all rfl)
      have hww := wd_words hnl.1
      have hval := I76.valT hww
      (try dsimp only)
      (repeat' (first | (k_unfold; (try dsimp only)) | ((first | (with_reducible refine Then.next ?_) | (with_reducible refine Then.ret ?_) | (with_reducible refine Joined.next ?_) | (with_reducible refine Joined.ret ?_) | (with_reducible refine HidV.get (by with_reducible assumption) _ _ ?_) | (with_reducible refine Hdn.get (by with_reducible assumption) ?_) | (with_reducible refine TurnEnd.toRet ?_)); (try dsimp only)) | (k_end; wrow_close) | ((with_reducible refine hide_turn ?_); intro Q1 H1) | (with_reducible refine exec_hid ?_) | (with_reducible (first | refine sp1 ?_ | refine sp2 ?_ | refine sp3 ?_ | refine sp4 ?_ | refine sp5 ?_ | refine sp6 ?_ | refine sp7 ?_ | refine sp8 ?_ | refine sp9 ?_ | refine sp10 ?_ | refine sp11 ?_ | refine sp12 ?_ | refine sp13 ?_ | refine sp14 ?_ | refine sp15 ?_ | refine sp16 ?_ | refine sp17 ?_ | refine sp18 ?_ | refine sp19 ?_ | refine sp22 ?_ | refine sp23 ?_ | refine sp24 ?_)) | ((with_reducible show wpAny _ _ (exec (Stmt.For (Expr.Name _ _) _ _ [] _) _) _ _ _); (with_unfolding_all refine' for_at ?F ?k1 ?k2 ?_ ?k3 ?k4; (case F => k_asm); (case k1 => exact rfl); (case k2 => exact rfl); (case k3 => intro _; rfl); (case k4 => assumption); k_whole)) | walk1 | (dsimp only; walk1) | (leave1; walk_say "STEP leave1"; try dsimp only) | fail "no step"))
      refine Stop.go ?_
      refine u_newL (by assumption) (by exact rfl) (by exact rfl) (by k_asm) (by k_asm) (by k_asm) (by k_asm) (by k_asm) (by exact room (by assumption) (by decide)) (by exact room (by assumption) (by decide)) ?_
      intro x5 dx5 dS5 dK5 t51 t52 oS5 nw5 h25 tk25 F25 N25 md5
      (try dsimp only)
      (repeat' (first | (k_unfold; (try dsimp only)) | ((first | (with_reducible refine Then.next ?_) | (with_reducible refine Then.ret ?_) | (with_reducible refine Joined.next ?_) | (with_reducible refine Joined.ret ?_) | (with_reducible refine HidV.get (by with_reducible assumption) _ _ ?_) | (with_reducible refine Hdn.get (by with_reducible assumption) ?_) | (with_reducible refine TurnEnd.toRet ?_)); (try dsimp only)) | (k_end; wrow_close) | ((with_reducible refine hide_turn ?_); intro Q1 H1) | (with_reducible refine exec_hid ?_) | (with_reducible (first | refine sp1 ?_ | refine sp2 ?_ | refine sp3 ?_ | refine sp4 ?_ | refine sp5 ?_ | refine sp6 ?_ | refine sp7 ?_ | refine sp8 ?_ | refine sp9 ?_ | refine sp10 ?_ | refine sp11 ?_ | refine sp12 ?_ | refine sp13 ?_ | refine sp14 ?_ | refine sp15 ?_ | refine sp16 ?_ | refine sp17 ?_ | refine sp18 ?_ | refine sp19 ?_ | refine sp22 ?_ | refine sp23 ?_ | refine sp24 ?_)) | ((with_reducible show wpAny _ _ (exec (Stmt.For (Expr.Name _ _) _ _ [] _) _) _ _ _); (with_unfolding_all refine' for_at ?F ?k1 ?k2 ?_ ?k3 ?k4; (case F => k_asm); (case k1 => exact rfl); (case k2 => exact rfl); (case k3 => intro _; rfl); (case k4 => assumption); k_whole)) | walk1 | (dsimp only; walk1) | (leave1; walk_say "STEP leave1"; try dsimp only) | fail "no step"))
      refine Stop.go ?_
      refine u_number (wd_some hnl.1) (by assumption) (by exact rfl) (by exact rfl) (by k_asm) (by k_asm) (by k_asm) (by k_asm) (by k_asm) (by exact room (by assumption) (by decide)) (by exact room (by assumption) (by decide)) ?_
      intro D77 t77 c77 h77 tk77 F77 N77
      (try dsimp only)
      walk1
      (try dsimp only)
      refine item_tupleT (l := [.int nd t77, .bool true]) (j := 0) ⟨_, (N77 _ (.head _)).1, rfl, _, rfl⟩ (by decide) (by decide) rfl rfl ?_
      (try dsimp only)
      (repeat' (first | (k_unfold; (try dsimp only)) | ((first | (with_reducible refine Then.next ?_) | (with_reducible refine Then.ret ?_) | (with_reducible refine Joined.next ?_) | (with_reducible refine Joined.ret ?_) | (with_reducible refine HidV.get (by with_reducible assumption) _ _ ?_) | (with_reducible refine Hdn.get (by with_reducible assumption) ?_) | (with_reducible refine TurnEnd.toRet ?_)); (try dsimp only)) | (k_end; wrow_close) | ((with_reducible refine hide_turn ?_); intro Q1 H1) | (with_reducible refine exec_hid ?_) | (with_reducible (first | refine sp1 ?_ | refine sp2 ?_ | refine sp3 ?_ | refine sp4 ?_ | refine sp5 ?_ | refine sp6 ?_ | refine sp7 ?_ | refine sp8 ?_ | refine sp9 ?_ | refine sp10 ?_ | refine sp11 ?_ | refine sp12 ?_ | refine sp13 ?_ | refine sp14 ?_ | refine sp15 ?_ | refine sp16 ?_ | refine sp17 ?_ | refine sp18 ?_ | refine sp19 ?_ | refine sp22 ?_ | refine sp23 ?_ | refine sp24 ?_)) | ((with_reducible show wpAny _ _ (exec (Stmt.For (Expr.Name _ _) _ _ [] _) _) _ _ _); (with_unfolding_all refine' for_at ?F ?k1 ?k2 ?_ ?k3 ?k4; (case F => k_asm); (case k1 => exact rfl); (case k2 => exact rfl); (case k3 => intro _; rfl); (case k4 => assumption); k_whole)) | walk1 | (dsimp only; walk1) | (leave1; walk_say "STEP leave1"; try dsimp only) | fail "no step"))
      refine Stop.go ?_
      refine u_reportP (wd_some hnl.1) (by assumption) (by exact rfl) (by exact rfl) (by k_asm) (by k_asm) (by k_asm) (by k_asm) (by k_asm) md5.cons1 (by exact room (by assumption) (by decide)) (by exact room (by assumption) (by decide)) ?_
      clear md5
      intro r26 t26 h26 tk26 r26c F26 N26
      replace N26 := News.dropL (News.drop1 N26)
      (try dsimp only)
      (repeat' (first | (k_unfold; (try dsimp only)) | ((first | (with_reducible refine Then.next ?_) | (with_reducible refine Then.ret ?_) | (with_reducible refine Joined.next ?_) | (with_reducible refine Joined.ret ?_) | (with_reducible refine HidV.get (by with_reducible assumption) _ _ ?_) | (with_reducible refine Hdn.get (by with_reducible assumption) ?_) | (with_reducible refine TurnEnd.toRet ?_)); (try dsimp only)) | (k_end; wrow_close) | ((with_reducible refine hide_turn ?_); intro Q1 H1) | (with_reducible refine exec_hid ?_) | (with_reducible (first | refine sp1 ?_ | refine sp2 ?_ | refine sp3 ?_ | refine sp4 ?_ | refine sp5 ?_ | refine sp6 ?_ | refine sp7 ?_ | refine sp8 ?_ | refine sp9 ?_ | refine sp10 ?_ | refine sp11 ?_ | refine sp12 ?_ | refine sp13 ?_ | refine sp14 ?_ | refine sp15 ?_ | refine sp16 ?_ | refine sp17 ?_ | refine sp18 ?_ | refine sp19 ?_ | refine sp22 ?_ | refine sp23 ?_ | refine sp24 ?_)) | ((with_reducible show wpAny _ _ (exec (Stmt.For (Expr.Name _ _) _ _ [] _) _) _ _ _); (with_unfolding_all refine' for_at ?F ?k1 ?k2 ?_ ?k3 ?k4; (case F => k_asm); (case k1 => exact rfl); (case k2 => exact rfl); (case k3 => intro _; rfl); (case k4 => assumption); k_whole)) | walk1 | (dsimp only; walk1) | (leave1; walk_say "STEP leave1"; try dsimp only) | fail "no step"))
      refine Stop.go ?_
      rename News H0 _ _ _ => N27
      refine in_tuple_ints ⟨_, (N27 _ (.head _)).1, rfl, _, rfl⟩ (.cons _ _ (.cons _ _ .nil)) ?_
      rw [in12 r26c]
      replace N27 := News.drop1 N27
      clear r26c
      (try dsimp only)
      (repeat' (first | (k_unfold; (try dsimp only)) | ((first | (with_reducible refine Then.next ?_) | (with_reducible refine Then.ret ?_) | (with_reducible refine Joined.next ?_) | (with_reducible refine Joined.ret ?_) | (with_reducible refine HidV.get (by with_reducible assumption) _ _ ?_) | (with_reducible refine Hdn.get (by with_reducible assumption) ?_) | (with_reducible refine TurnEnd.toRet ?_)); (try dsimp only)) | (k_end; wrow_close) | ((with_reducible refine hide_turn ?_); intro Q1 H1) | (with_reducible refine exec_hid ?_) | (with_reducible (first | refine sp1 ?_ | refine sp2 ?_ | refine sp3 ?_ | refine sp4 ?_ | refine sp5 ?_ | refine sp6 ?_ | refine sp7 ?_ | refine sp8 ?_ | refine sp9 ?_ | refine sp10 ?_ | refine sp11 ?_ | refine sp12 ?_ | refine sp13 ?_ | refine sp14 ?_ | refine sp15 ?_ | refine sp16 ?_ | refine sp17 ?_ | refine sp18 ?_ | refine sp19 ?_ | refine sp22 ?_ | refine sp23 ?_ | refine sp24 ?_)) | ((with_reducible show wpAny _ _ (exec (Stmt.For (Expr.Name _ _) _ _ [] _) _) _ _ _); (with_unfolding_all refine' for_at ?F ?k1 ?k2 ?_ ?k3 ?k4; (case F => k_asm); (case k1 => exact rfl); (case k2 => exact rfl); (case k3 => intro _; rfl); (case k4 => assumption); k_whole)) | walk1 | (dsimp only; walk1) | (leave1; walk_say "STEP leave1"; try dsimp only) | fail "no step"))
      refine Stop.go ?_
      refine kda_item (knd := strKind _ _) (by k_asm) LL_memT I76.hT (strKind_is _ _ _ _) hval ?_
      (try dsimp only)
      (repeat' (first | (k_unfold; (try dsimp only)) | ((first | (with_reducible refine Then.next ?_) | (with_reducible refine Then.ret ?_) | (with_reducible refine Joined.next ?_) | (with_reducible refine Joined.ret ?_) | (with_reducible refine HidV.get (by with_reducible assumption) _ _ ?_) | (with_reducible refine Hdn.get (by with_reducible assumption) ?_) | (with_reducible refine TurnEnd.toRet ?_)); (try dsimp only)) | (k_end; wrow_close) | ((with_reducible refine hide_turn ?_); intro Q1 H1) | (with_reducible refine exec_hid ?_) | (with_reducible (first | refine sp1 ?_ | refine sp2 ?_ | refine sp3 ?_ | refine sp4 ?_ | refine sp5 ?_ | refine sp6 ?_ | refine sp7 ?_ | refine sp8 ?_ | refine sp9 ?_ | refine sp10 ?_ | refine sp11 ?_ | refine sp12 ?_ | refine sp13 ?_ | refine sp14 ?_ | refine sp15 ?_ | refine sp16 ?_ | refine sp17 ?_ | refine sp18 ?_ | refine sp19 ?_ | refine sp22 ?_ | refine sp23 ?_ | refine sp24 ?_)) | ((with_reducible show wpAny _ _ (exec (Stmt.For (Expr.Name _ _) _ _ [] _) _) _ _ _); (with_unfolding_all refine' for_at ?F ?k1 ?k2 ?_ ?k3 ?k4; (case F => k_asm); (case k1 => exact rfl); (case k2 => exact rfl); (case k3 => intro _; rfl); (case k4 => assumption); k_whole)) | walk1 | (dsimp only; walk1) | (leave1; walk_say "STEP leave1"; try dsimp only) | fail "no step"))
      refine Stop.go ?_
      refine u_setM (S' := S7) (b := !onB S7 (wd nd)) M hSm I76.ag.len.1 (by assumption) (by exact rfl) (by exact rfl) (by k_asm) (by k_asm) (by k_asm) (by k_asm) (by k_asm) (by exact room (by assumption) (by decide)) (by exact room (by assumption) (by decide)) ?_
      clear hSm
      intro oSn h81 tk81 F81 N81 hSn
      (try dsimp only)
      (repeat' (first | (k_unfold; (try dsimp only)) | ((first | (with_reducible refine Then.next ?_) | (with_reducible refine Then.ret ?_) | (with_reducible refine Joined.next ?_) | (with_reducible refine Joined.ret ?_) | (with_reducible refine HidV.get (by with_reducible assumption) _ _ ?_) | (with_reducible refine Hdn.get (by with_reducible assumption) ?_) | (with_reducible refine TurnEnd.toRet ?_)); (try dsimp only)) | (k_end; wrow_close) | ((with_reducible refine hide_turn ?_); intro Q1 H1) | (with_reducible refine exec_hid ?_) | (with_reducible (first | refine sp1 ?_ | refine sp2 ?_ | refine sp3 ?_ | refine sp4 ?_ | refine sp5 ?_ | refine sp6 ?_ | refine sp7 ?_ | refine sp8 ?_ | refine sp9 ?_ | refine sp10 ?_ | refine sp11 ?_ | refine sp12 ?_ | refine sp13 ?_ | refine sp14 ?_ | refine sp15 ?_ | refine sp16 ?_ | refine sp17 ?_ | refine sp18 ?_ | refine sp19 ?_ | refine sp22 ?_ | refine sp23 ?_ | refine sp24 ?_)) | ((with_reducible show wpAny _ _ (exec (Stmt.For (Expr.Name _ _) _ _ [] _) _) _ _ _); (with_unfolding_all refine' for_at ?F ?k1 ?k2 ?_ ?k3 ?k4; (case F => k_asm); (case k1 => exact rfl); (case k2 => exact rfl); (case k3 => intro _; rfl); (case k4 => assumption); k_whole)) | walk1 | (dsimp only; walk1) | (leave1; walk_say "STEP leave1"; try dsimp only) | fail "no step"))
      refine Stop.go ?_
      refine u_sameM M hSn (I76.ag.1.set hww _) LA I76 false ⟨fun e => (by cases e), fun e => absurd e (late_differs hgl)⟩ (by assumption) (by exact rfl) (by exact rfl) (by k_asm) (by k_asm) (by k_asm) (by k_asm) (by k_asm) (by exact room (by assumption) (by decide)) (by exact room (by assumption) (by decide)) ?_
      intro h82 tk82 F82 N82
      (try dsimp only)
      (repeat' (first | (k_unfold; (try dsimp only)) | ((first | (with_reducible refine Then.next ?_) | (with_reducible refine Then.ret ?_) | (with_reducible refine Joined.next ?_) | (with_reducible refine Joined.ret ?_) | (with_reducible refine HidV.get (by with_reducible assumption) _ _ ?_) | (with_reducible refine Hdn.get (by with_reducible assumption) ?_) | (with_reducible refine TurnEnd.toRet ?_)); (try dsimp only)) | (k_end; wrow_close) | ((with_reducible refine hide_turn ?_); intro Q1 H1) | (with_reducible refine exec_hid ?_) | (with_reducible (first | refine sp1 ?_ | refine sp2 ?_ | refine sp3 ?_ | refine sp4 ?_ | refine sp5 ?_ | refine sp6 ?_ | refine sp7 ?_ | refine sp8 ?_ | refine sp9 ?_ | refine sp10 ?_ | refine sp11 ?_ | refine sp12 ?_ | refine sp13 ?_ | refine sp14 ?_ | refine sp15 ?_ | refine sp16 ?_ | refine sp17 ?_ | refine sp18 ?_ | refine sp19 ?_ | refine sp22 ?_ | refine sp23 ?_ | refine sp24 ?_)) | ((with_reducible show wpAny _ _ (exec (Stmt.For (Expr.Name _ _) _ _ [] _) _) _ _ _); (with_unfolding_all refine' for_at ?F ?k1 ?k2 ?_ ?k3 ?k4; (case F => k_asm); (case k1 => exact rfl); (case k2 => exact rfl); (case k3 => intro _; rfl); (case k4 => assumption); k_whole)) | walk1 | (dsimp only; walk1) | (leave1; walk_say "STEP leave1"; try dsimp only) | fail "no step"))
      refine Stop.go ?_
      refine u_shownL LA I76 (by assumption) (by exact rfl) (by exact rfl) (by k_asm) (by k_asm) (by k_asm) (by k_asm) (by k_asm) (by exact room (by assumption) (by decide)) (by exact room (by assumption) (by decide)) ?_
      intro h83 tk83 F83 N83
      (try dsimp only)
      (repeat' (first | (k_unfold; (try dsimp only)) | ((first | (with_reducible refine Then.next ?_) | (with_reducible refine Then.ret ?_) | (with_reducible refine Joined.next ?_) | (with_reducible refine Joined.ret ?_) | (with_reducible refine HidV.get (by with_reducible assumption) _ _ ?_) | (with_reducible refine Hdn.get (by with_reducible assumption) ?_) | (with_reducible refine TurnEnd.toRet ?_)); (try dsimp only)) | (k_end; wrow_close) | ((with_reducible refine hide_turn ?_); intro Q1 H1) | (with_reducible refine exec_hid ?_) | (with_reducible (first | refine sp1 ?_ | refine sp2 ?_ | refine sp3 ?_ | refine sp4 ?_ | refine sp5 ?_ | refine sp6 ?_ | refine sp7 ?_ | refine sp8 ?_ | refine sp9 ?_ | refine sp10 ?_ | refine sp11 ?_ | refine sp12 ?_ | refine sp13 ?_ | refine sp14 ?_ | refine sp15 ?_ | refine sp16 ?_ | refine sp17 ?_ | refine sp18 ?_ | refine sp19 ?_ | refine sp22 ?_ | refine sp23 ?_ | refine sp24 ?_)) | ((with_reducible show wpAny _ _ (exec (Stmt.For (Expr.Name _ _) _ _ [] _) _) _ _ _); (with_unfolding_all refine' for_at ?F ?k1 ?k2 ?_ ?k3 ?k4; (case F => k_asm); (case k1 => exact rfl); (case k2 => exact rfl); (case k3 => intro _; rfl); (case k4 => assumption); k_whole)) | walk1 | (dsimp only; walk1) | (leave1; walk_say "STEP leave1"; try dsimp only) | fail "no step"))
      refine Stop.go ?_
      refine kda_item (knd := strKind _ _) (by k_asm) LL_memT I76.hT (strKind_is _ _ _ _) hval ?_
      (try dsimp only)
      (repeat' (first | (k_unfold; (try dsimp only)) | ((first | (with_reducible refine Then.next ?_) | (with_reducible refine Then.ret ?_) | (with_reducible refine Joined.next ?_) | (with_reducible refine Joined.ret ?_) | (with_reducible refine HidV.get (by with_reducible assumption) _ _ ?_) | (with_reducible refine Hdn.get (by with_reducible assumption) ?_) | (with_reducible refine TurnEnd.toRet ?_)); (try dsimp only)) | (k_end; wrow_close) | ((with_reducible refine hide_turn ?_); intro Q1 H1) | (with_reducible refine exec_hid ?_) | (with_reducible (first | refine sp1 ?_ | refine sp2 ?_ | refine sp3 ?_ | refine sp4 ?_ | refine sp5 ?_ | refine sp6 ?_ | refine sp7 ?_ | refine sp8 ?_ | refine sp9 ?_ | refine sp10 ?_ | refine sp11 ?_ | refine sp12 ?_ | refine sp13 ?_ | refine sp14 ?_ | refine sp15 ?_ | refine sp16 ?_ | refine sp17 ?_ | refine sp18 ?_ | refine sp19 ?_ | refine sp22 ?_ | refine sp23 ?_ | refine sp24 ?_)) | ((with_reducible show wpAny _ _ (exec (Stmt.For (Expr.Name _ _) _ _ [] _) _) _ _ _); (with_unfolding_all refine' for_at ?F ?k1 ?k2 ?_ ?k3 ?k4; (case F => k_asm); (case k1 => exact rfl); (case k2 => exact rfl); (case k3 => intro _; rfl); (case k4 => assumption); k_whole)) | walk1 | (dsimp only; walk1) | (leave1; walk_say "STEP leave1"; try dsimp only) | fail "no step"))
      refine Stop.go ?_
      refine u_setM (S' := setB S7 (wd nd) (!onB S7 (wd nd))) (b := onB S7 (wd nd)) M hSn (Nat.le_trans (I76.ag.1.set hww (!onB S7 (wd nd))).length (by decide)) (by assumption) (by exact rfl) (by exact rfl) (by k_asm) (by k_asm) (by k_asm) (by k_asm) (by k_asm) (by exact room (by assumption) (by decide)) (by exact room (by assumption) (by decide)) ?_
      clear hSn
      intro oSq h84 tk84 F84 N84 hSq
      (try dsimp only)
      (repeat' (first | (k_unfold; (try dsimp only)) | ((first | (with_reducible refine Then.next ?_) | (with_reducible refine Then.ret ?_) | (with_reducible refine Joined.next ?_) | (with_reducible refine Joined.ret ?_) | (with_reducible refine HidV.get (by with_reducible assumption) _ _ ?_) | (with_reducible refine Hdn.get (by with_reducible assumption) ?_) | (with_reducible refine TurnEnd.toRet ?_)); (try dsimp only)) | (k_end; wrow_close) | ((with_reducible refine hide_turn ?_); intro Q1 H1) | (with_reducible refine exec_hid ?_) | (with_reducible (first | refine sp1 ?_ | refine sp2 ?_ | refine sp3 ?_ | refine sp4 ?_ | refine sp5 ?_ | refine sp6 ?_ | refine sp7 ?_ | refine sp8 ?_ | refine sp9 ?_ | refine sp10 ?_ | refine sp11 ?_ | refine sp12 ?_ | refine sp13 ?_ | refine sp14 ?_ | refine sp15 ?_ | refine sp16 ?_ | refine sp17 ?_ | refine sp18 ?_ | refine sp19 ?_ | refine sp22 ?_ | refine sp23 ?_ | refine sp24 ?_)) | ((with_reducible show wpAny _ _ (exec (Stmt.For (Expr.Name _ _) _ _ [] _) _) _ _ _); (with_unfolding_all refine' for_at ?F ?k1 ?k2 ?_ ?k3 ?k4; (case F => k_asm); (case k1 => exact rfl); (case k2 => exact rfl); (case k3 => intro _; rfl); (case k4 => assumption); k_whole)) | walk1 | (dsimp only; walk1) | (leave1; walk_say "STEP leave1"; try dsimp only) | fail "no step"))
      refine Stop.go ?_
      refine u_sameM M hSq ((I76.ag.1.set hww _).set hww _) LA I76 true ⟨fun _ => late_back hgl _, fun _ => rfl⟩ (by assumption) (by exact rfl) (by exact rfl) (by k_asm) (by k_asm) (by k_asm) (by k_asm) (by k_asm) (by exact room (by assumption) (by decide)) (by exact room (by assumption) (by decide)) ?_
      intro h85 tk85 F85 N85
      (try dsimp only)
      (repeat' (first | (k_unfold; (try dsimp only)) | ((first | (with_reducible refine Then.next ?_) | (with_reducible refine Then.ret ?_) | (with_reducible refine Joined.next ?_) | (with_reducible refine Joined.ret ?_) | (with_reducible refine HidV.get (by with_reducible assumption) _ _ ?_) | (with_reducible refine Hdn.get (by with_reducible assumption) ?_) | (with_reducible refine TurnEnd.toRet ?_)); (try dsimp only)) | (k_end; wrow_close) | ((with_reducible refine hide_turn ?_); intro Q1 H1) | (with_reducible refine exec_hid ?_) | (with_reducible (first | refine sp1 ?_ | refine sp2 ?_ | refine sp3 ?_ | refine sp4 ?_ | refine sp5 ?_ | refine sp6 ?_ | refine sp7 ?_ | refine sp8 ?_ | refine sp9 ?_ | refine sp10 ?_ | refine sp11 ?_ | refine sp12 ?_ | refine sp13 ?_ | refine sp14 ?_ | refine sp15 ?_ | refine sp16 ?_ | refine sp17 ?_ | refine sp18 ?_ | refine sp19 ?_ | refine sp22 ?_ | refine sp23 ?_ | refine sp24 ?_)) | ((with_reducible show wpAny _ _ (exec (Stmt.For (Expr.Name _ _) _ _ [] _) _) _ _ _); (with_unfolding_all refine' for_at ?F ?k1 ?k2 ?_ ?k3 ?k4; (case F => k_asm); (case k1 => exact rfl); (case k2 => exact rfl); (case k3 => intro _; rfl); (case k4 => assumption); k_whole)) | walk1 | (dsimp only; walk1) | (leave1; walk_say "STEP leave1"; try dsimp only) | fail "no step"))
      refine Stop.go ?_
      refine u_namesL LA I76 (by assumption) (by exact rfl) (by exact rfl) (by k_asm) (by k_asm) (by k_asm) (by k_asm) (by k_asm) (by exact room (by assumption) (by decide)) (by exact room (by assumption) (by decide)) ?_
      intro nw86 h86 tk86 F86 N86
      (try dsimp only)
      (repeat' (first | (k_unfold; (try dsimp only)) | ((first | (with_reducible refine Then.next ?_) | (with_reducible refine Then.ret ?_) | (with_reducible refine Joined.next ?_) | (with_reducible refine Joined.ret ?_) | (with_reducible refine HidV.get (by with_reducible assumption) _ _ ?_) | (with_reducible refine Hdn.get (by with_reducible assumption) ?_) | (with_reducible refine TurnEnd.toRet ?_)); (try dsimp only)) | (k_end; wrow_close) | ((with_reducible refine hide_turn ?_); intro Q1 H1) | (with_reducible refine exec_hid ?_) | (with_reducible (first | refine sp1 ?_ | refine sp2 ?_ | refine sp3 ?_ | refine sp4 ?_ | refine sp5 ?_ | refine sp6 ?_ | refine sp7 ?_ | refine sp8 ?_ | refine sp9 ?_ | refine sp10 ?_ | refine sp11 ?_ | refine sp12 ?_ | refine sp13 ?_ | refine sp14 ?_ | refine sp15 ?_ | refine sp16 ?_ | refine sp17 ?_ | refine sp18 ?_ | refine sp19 ?_ | refine sp22 ?_ | refine sp23 ?_ | refine sp24 ?_)) | ((with_reducible show wpAny _ _ (exec (Stmt.For (Expr.Name _ _) _ _ [] _) _) _ _ _); (with_unfolding_all refine' for_at ?F ?k1 ?k2 ?_ ?k3 ?k4; (case F => k_asm); (case k1 => exact rfl); (case k2 => exact rfl); (case k3 => intro _; rfl); (case k4 => assumption); k_whole)) | walk1 | (dsimp only; walk1) | (leave1; walk_say "STEP leave1"; try dsimp only) | fail "no step")))
end
end
end Mine
theorem PySem.Challenge.cw_og0231_01_holds : PySem.Challenge.rw_og0231_01.Holds := by
  exact Mine.xx
